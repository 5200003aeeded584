/-
  No cell of these rows narrows 'for every input' (looked for: loops, veiled, ifaces, maps, wideKeys, modest, calm, conditions, laid).
  DERIVED. THE GIVEN ROWS OF THIS SEAT. 6 by the template 'for every input the law returns true; each argument reads behind the call as it read before'; 0 by the template 'total and deterministic' (their statements: YtpadhphdglbciaaTotals.lean).
  GIVEN WITH THE SEED: the statements are not yours to turn. If you find one false, say at which input.
  Laid BY PROGRAM, IN A SANDBOX (cutbox-rows.mjs): the forced cells as the released guide's own fill.sh prints them over the translation 387b359c4762f445… (all of the seat's roots in one cut). By AI agents, Wed Nov 11 2026. No macro, syntax, notation, axiom, sorry.
-/
import Derived.Test.YtpadhphdglbciaaChecked
import GoSem.Claim
import GoSem.ClaimJoined
import GoSem.ClaimMapViews
import Derived.JoinedTies
import Derived.KernelRfl
namespace Go.Proofs.Ytpadhphdglbciaa
/- THE CELL 'sum', in the pinned program and in every row, IS THE sha256 OF THE DUMP (.gsa) THAT YtpadhphdglbciaaProg.lean LOADS. Nothing in Lean hashes anything: it is a label: what it is worth is what the hold of that sum in a sandbox is worth. -/
noncomputable def Try.pinned : Pinned := { name := "ytpadhphdglbciaa", sum := "387b359c4762f445e74182c39e9b2a960aee173102742b82d83f6af31bae1466", checked := Try.checked }
namespace Rows
def none {H : Type} : Left H := { results := [], args := [] }

/-- 'laws.FnExactEffectsLive': WHATEVER THE INPUT: true; the input reads as it did. -/
def fnExactEffectsLiveSpec : ChangeSpec := { name := "fnExactEffectsLive", fn := fun _ => fun
  | [d] => { results := [.lit (.bool true)], args := [d] }
  | _ => none }
def fnExactEffectsLiveRow : OpenClaim := { program := "ytpadhphdglbciaa", sum := "387b359c4762f445e74182c39e9b2a960aee173102742b82d83f6af31bae1466", func := "loop.example/drawnanew/laws.FnExactEffectsLive", spec := "fnExactEffectsLive", apart := false }
def FnExactEffectsLiveSaid : Prop := fnExactEffectsLiveRow.holds Try.pinned (OpenSpec.ofChange fnExactEffectsLiveSpec)

/-- ITS FALSE NEIGHBOUR: 'it returns false'. Refute it at one input. -/
def fnExactEffectsLiveWrong : ChangeSpec := { name := "fnExactEffectsLive", fn := fun _ => fun
  | [d] => { results := [.lit (.bool false)], args := [d] }
  | _ => none }
def FnExactEffectsLiveWrongFalsely : Prop := fnExactEffectsLiveRow.holds Try.pinned (OpenSpec.ofChange fnExactEffectsLiveWrong)

/-- 'laws.FnExactStoreGet': WHATEVER THE INPUT: true; the input reads as it did. -/
def fnExactStoreGetSpec : ChangeSpec := { name := "fnExactStoreGet", fn := fun _ => fun
  | [d1, d2] => { results := [.lit (.bool true)], args := [d1, d2] }
  | _ => none }
def fnExactStoreGetRow : OpenClaim := { program := "ytpadhphdglbciaa", sum := "387b359c4762f445e74182c39e9b2a960aee173102742b82d83f6af31bae1466", func := "loop.example/drawnanew/laws.FnExactStoreGet", spec := "fnExactStoreGet", apart := false }
def FnExactStoreGetSaid : Prop := fnExactStoreGetRow.holds Try.pinned (OpenSpec.ofChange fnExactStoreGetSpec)

/-- ITS FALSE NEIGHBOUR: 'it returns false'. Refute it at one input. -/
def fnExactStoreGetWrong : ChangeSpec := { name := "fnExactStoreGet", fn := fun _ => fun
  | [d1, d2] => { results := [.lit (.bool false)], args := [d1, d2] }
  | _ => none }
def FnExactStoreGetWrongFalsely : Prop := fnExactStoreGetRow.holds Try.pinned (OpenSpec.ofChange fnExactStoreGetWrong)

/-- 'laws.FnExactStoreCut': WHATEVER THE INPUT: true; the input reads as it did. -/
def fnExactStoreCutSpec : ChangeSpec := { name := "fnExactStoreCut", fn := fun _ => fun
  | [d1, d2] => { results := [.lit (.bool true)], args := [d1, d2] }
  | _ => none }
def fnExactStoreCutRow : OpenClaim := { program := "ytpadhphdglbciaa", sum := "387b359c4762f445e74182c39e9b2a960aee173102742b82d83f6af31bae1466", func := "loop.example/drawnanew/laws.FnExactStoreCut", spec := "fnExactStoreCut", apart := false }
def FnExactStoreCutSaid : Prop := fnExactStoreCutRow.holds Try.pinned (OpenSpec.ofChange fnExactStoreCutSpec)

/-- ITS FALSE NEIGHBOUR: 'it returns false'. Refute it at one input. -/
def fnExactStoreCutWrong : ChangeSpec := { name := "fnExactStoreCut", fn := fun _ => fun
  | [d1, d2] => { results := [.lit (.bool false)], args := [d1, d2] }
  | _ => none }
def FnExactStoreCutWrongFalsely : Prop := fnExactStoreCutRow.holds Try.pinned (OpenSpec.ofChange fnExactStoreCutWrong)

/-- 'laws.FnExactStorePut': WHATEVER THE INPUT: true; the input reads as it did. -/
def fnExactStorePutSpec : ChangeSpec := { name := "fnExactStorePut", fn := fun _ => fun
  | [d1, d2, d3] => { results := [.lit (.bool true)], args := [d1, d2, d3] }
  | _ => none }
def fnExactStorePutRow : OpenClaim := { program := "ytpadhphdglbciaa", sum := "387b359c4762f445e74182c39e9b2a960aee173102742b82d83f6af31bae1466", func := "loop.example/drawnanew/laws.FnExactStorePut", spec := "fnExactStorePut", apart := false }
def FnExactStorePutSaid : Prop := fnExactStorePutRow.holds Try.pinned (OpenSpec.ofChange fnExactStorePutSpec)

/-- ITS FALSE NEIGHBOUR: 'it returns false'. Refute it at one input. -/
def fnExactStorePutWrong : ChangeSpec := { name := "fnExactStorePut", fn := fun _ => fun
  | [d1, d2, d3] => { results := [.lit (.bool false)], args := [d1, d2, d3] }
  | _ => none }
def FnExactStorePutWrongFalsely : Prop := fnExactStorePutRow.holds Try.pinned (OpenSpec.ofChange fnExactStorePutWrong)

/-- 'laws.FnExactTurnsCut': WHATEVER THE INPUT: true; the input reads as it did. -/
def fnExactTurnsCutSpec : ChangeSpec := { name := "fnExactTurnsCut", fn := fun _ => fun
  | [d1, d2] => { results := [.lit (.bool true)], args := [d1, d2] }
  | _ => none }
def fnExactTurnsCutRow : OpenClaim := { program := "ytpadhphdglbciaa", sum := "387b359c4762f445e74182c39e9b2a960aee173102742b82d83f6af31bae1466", func := "loop.example/drawnanew/laws.FnExactTurnsCut", spec := "fnExactTurnsCut", apart := false }
def FnExactTurnsCutSaid : Prop := fnExactTurnsCutRow.holds Try.pinned (OpenSpec.ofChange fnExactTurnsCutSpec)

/-- ITS FALSE NEIGHBOUR: 'it returns false'. Refute it at one input. -/
def fnExactTurnsCutWrong : ChangeSpec := { name := "fnExactTurnsCut", fn := fun _ => fun
  | [d1, d2] => { results := [.lit (.bool false)], args := [d1, d2] }
  | _ => none }
def FnExactTurnsCutWrongFalsely : Prop := fnExactTurnsCutRow.holds Try.pinned (OpenSpec.ofChange fnExactTurnsCutWrong)

/-- 'laws.FnExactTurnsJoin': WHATEVER THE INPUT: true; the input reads as it did. -/
def fnExactTurnsJoinSpec : ChangeSpec := { name := "fnExactTurnsJoin", fn := fun _ => fun
  | [d] => { results := [.lit (.bool true)], args := [d] }
  | _ => none }
def fnExactTurnsJoinRow : OpenClaim := { program := "ytpadhphdglbciaa", sum := "387b359c4762f445e74182c39e9b2a960aee173102742b82d83f6af31bae1466", func := "loop.example/drawnanew/laws.FnExactTurnsJoin", spec := "fnExactTurnsJoin", apart := false }
def FnExactTurnsJoinSaid : Prop := fnExactTurnsJoinRow.holds Try.pinned (OpenSpec.ofChange fnExactTurnsJoinSpec)

/-- ITS FALSE NEIGHBOUR: 'it returns false'. Refute it at one input. -/
def fnExactTurnsJoinWrong : ChangeSpec := { name := "fnExactTurnsJoin", fn := fun _ => fun
  | [d] => { results := [.lit (.bool false)], args := [d] }
  | _ => none }
def FnExactTurnsJoinWrongFalsely : Prop := fnExactTurnsJoinRow.holds Try.pinned (OpenSpec.ofChange fnExactTurnsJoinWrong)

/- THE SECOND FORM. 'bulk': how many values and letters a reading holds, each counted each time it is reached (what is shared counts as often as it is met; a slice's spare places count too). A statement '..UptoSaid' is the law's where the arguments, and the package variables that the reading takes, are together of bulk at most 1048576: NARROWER than '..Said'. Prove '..Said' where nothing that the law and all that it calls make is longer than what came in: it says more and counts as full. Else prove '..UptoSaid'. A law counts once. -/
mutual
def uptoBulk {H : Type} : DataW H → Nat
  | .lit (.string bytes) => bytes.length + 1
  | .lit _ => 1
  | .nil => 1
  | .ptr d => uptoBulk d + 1
  | .slice elems spare => uptoBulkAll elems + uptoBulkAll spare + 1
  | .agg parts => uptoBulkAll parts + 1
  | .iface _ d => uptoBulk d + 1
  | .map entries => uptoBulkEntries entries + 1
  | .held _ => 1
def uptoBulkAll {H : Type} : List (DataW H) → Nat
  | [] => 0
  | d :: r => uptoBulk d + uptoBulkAll r
def uptoBulkEntries {H : Type} : List (Lit × DataW H) → Nat
  | [] => 0
  | x :: r => uptoBulkEntry x + uptoBulkEntries r
def uptoBulkEntry {H : Type} : Lit × DataW H → Nat
  | (.string bytes, d) => bytes.length + uptoBulk d + 1
  | (_, d) => uptoBulk d + 1
 end
def uptoSmall : (H : Type) → List (DataW H) → Bool := fun _ ds => decide (uptoBulkAll ds ≤ 1048576)
def OpenSpec.upto (s : _root_.Go.ChangeSpec) : _root_.Go.OpenSpec := { _root_.Go.OpenSpec.ofChange s with cond := some uptoSmall }

/-- 'laws.FnExactEffectsLive', WHERE WHAT IT READS IS OF BULK AT MOST 1048576: true; the input reads as it did. -/
def fnExactEffectsLiveUptoRow : OpenClaim := { program := "ytpadhphdglbciaa", sum := "387b359c4762f445e74182c39e9b2a960aee173102742b82d83f6af31bae1466", func := "loop.example/drawnanew/laws.FnExactEffectsLive", spec := "fnExactEffectsLive", apart := false, narrowed := true }
def FnExactEffectsLiveUptoSaid : Prop := fnExactEffectsLiveUptoRow.holds Try.pinned (OpenSpec.upto fnExactEffectsLiveSpec)

/-- 'laws.FnExactStoreGet', WHERE WHAT IT READS IS OF BULK AT MOST 1048576: true; the input reads as it did. -/
def fnExactStoreGetUptoRow : OpenClaim := { program := "ytpadhphdglbciaa", sum := "387b359c4762f445e74182c39e9b2a960aee173102742b82d83f6af31bae1466", func := "loop.example/drawnanew/laws.FnExactStoreGet", spec := "fnExactStoreGet", apart := false, narrowed := true }
def FnExactStoreGetUptoSaid : Prop := fnExactStoreGetUptoRow.holds Try.pinned (OpenSpec.upto fnExactStoreGetSpec)

/-- 'laws.FnExactStoreCut', WHERE WHAT IT READS IS OF BULK AT MOST 1048576: true; the input reads as it did. -/
def fnExactStoreCutUptoRow : OpenClaim := { program := "ytpadhphdglbciaa", sum := "387b359c4762f445e74182c39e9b2a960aee173102742b82d83f6af31bae1466", func := "loop.example/drawnanew/laws.FnExactStoreCut", spec := "fnExactStoreCut", apart := false, narrowed := true }
def FnExactStoreCutUptoSaid : Prop := fnExactStoreCutUptoRow.holds Try.pinned (OpenSpec.upto fnExactStoreCutSpec)

/-- 'laws.FnExactStorePut', WHERE WHAT IT READS IS OF BULK AT MOST 1048576: true; the input reads as it did. -/
def fnExactStorePutUptoRow : OpenClaim := { program := "ytpadhphdglbciaa", sum := "387b359c4762f445e74182c39e9b2a960aee173102742b82d83f6af31bae1466", func := "loop.example/drawnanew/laws.FnExactStorePut", spec := "fnExactStorePut", apart := false, narrowed := true }
def FnExactStorePutUptoSaid : Prop := fnExactStorePutUptoRow.holds Try.pinned (OpenSpec.upto fnExactStorePutSpec)

/-- 'laws.FnExactTurnsCut', WHERE WHAT IT READS IS OF BULK AT MOST 1048576: true; the input reads as it did. -/
def fnExactTurnsCutUptoRow : OpenClaim := { program := "ytpadhphdglbciaa", sum := "387b359c4762f445e74182c39e9b2a960aee173102742b82d83f6af31bae1466", func := "loop.example/drawnanew/laws.FnExactTurnsCut", spec := "fnExactTurnsCut", apart := false, narrowed := true }
def FnExactTurnsCutUptoSaid : Prop := fnExactTurnsCutUptoRow.holds Try.pinned (OpenSpec.upto fnExactTurnsCutSpec)

/-- 'laws.FnExactTurnsJoin', WHERE WHAT IT READS IS OF BULK AT MOST 1048576: true; the input reads as it did. -/
def fnExactTurnsJoinUptoRow : OpenClaim := { program := "ytpadhphdglbciaa", sum := "387b359c4762f445e74182c39e9b2a960aee173102742b82d83f6af31bae1466", func := "loop.example/drawnanew/laws.FnExactTurnsJoin", spec := "fnExactTurnsJoin", apart := false, narrowed := true }
def FnExactTurnsJoinUptoSaid : Prop := fnExactTurnsJoinUptoRow.holds Try.pinned (OpenSpec.upto fnExactTurnsJoinSpec)

end Rows
end Go.Proofs.Ytpadhphdglbciaa

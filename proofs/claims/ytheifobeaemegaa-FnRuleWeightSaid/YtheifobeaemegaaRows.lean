/-
  No cell of these rows narrows 'for every input' (looked for: loops, veiled, ifaces, maps, wideKeys, modest, calm, conditions, laid).
  DERIVED. THE GIVEN ROWS OF THIS SEAT. 6 by the template 'for every input the law returns true; each argument reads behind the call as it read before'; 0 by the template 'total and deterministic' (their statements: YtheifobeaemegaaTotals.lean).
  GIVEN WITH THE SEED: the statements are not yours to turn. If you find one false, say at which input.
  Laid BY PROGRAM, IN A SANDBOX (cutbox-rows.mjs): the forced cells as the released guide's own fill.sh prints them over the translation b186df8a12612141… (all of the seat's roots in one cut). By AI agents, Wed Nov 11 2026. No macro, syntax, notation, axiom, sorry.
-/
import Derived.Test.YtheifobeaemegaaChecked
import GoSem.Claim
import GoSem.ClaimJoined
import GoSem.ClaimMapViews
import Derived.JoinedTies
import Derived.KernelRfl
namespace Go.Proofs.Ytheifobeaemegaa
/- THE CELL 'sum', in the pinned program and in every row, IS THE sha256 OF THE DUMP (.gsa) THAT YtheifobeaemegaaProg.lean LOADS. Nothing in Lean hashes anything: it is a label: what it is worth is what the hold of that sum in a sandbox is worth. -/
noncomputable def Try.pinned : Pinned := { name := "ytheifobeaemegaa", sum := "b186df8a12612141be6e57dba1df8f0541d3cc908cb2c7e0e02ce6494730aee2", checked := Try.checked }
namespace Rows
def none {H : Type} : Left H := { results := [], args := [] }

/-- 'laws.FnRulesOk': WHATEVER THE INPUT: true; the input reads as it did. -/
def fnRulesOkSpec : ChangeSpec := { name := "fnRulesOk", fn := fun _ => fun
  | [d] => { results := [.lit (.bool true)], args := [d] }
  | _ => none }
def fnRulesOkRow : OpenClaim := { program := "ytheifobeaemegaa", sum := "b186df8a12612141be6e57dba1df8f0541d3cc908cb2c7e0e02ce6494730aee2", func := "loop.example/drawnanew/laws.FnRulesOk", spec := "fnRulesOk", apart := false }
def FnRulesOkSaid : Prop := fnRulesOkRow.holds Try.pinned (OpenSpec.ofChange fnRulesOkSpec)

/-- ITS FALSE NEIGHBOUR: 'it returns false'. Refute it at one input. -/
def fnRulesOkWrong : ChangeSpec := { name := "fnRulesOk", fn := fun _ => fun
  | [d] => { results := [.lit (.bool false)], args := [d] }
  | _ => none }
def FnRulesOkWrongFalsely : Prop := fnRulesOkRow.holds Try.pinned (OpenSpec.ofChange fnRulesOkWrong)

/-- 'laws.FnRuleWeight': WHATEVER THE INPUT: true; the input reads as it did. -/
def fnRuleWeightSpec : ChangeSpec := { name := "fnRuleWeight", fn := fun _ => fun
  | [d] => { results := [.lit (.bool true)], args := [d] }
  | _ => none }
def fnRuleWeightRow : OpenClaim := { program := "ytheifobeaemegaa", sum := "b186df8a12612141be6e57dba1df8f0541d3cc908cb2c7e0e02ce6494730aee2", func := "loop.example/drawnanew/laws.FnRuleWeight", spec := "fnRuleWeight", apart := false }
def FnRuleWeightSaid : Prop := fnRuleWeightRow.holds Try.pinned (OpenSpec.ofChange fnRuleWeightSpec)

/-- ITS FALSE NEIGHBOUR: 'it returns false'. Refute it at one input. -/
def fnRuleWeightWrong : ChangeSpec := { name := "fnRuleWeight", fn := fun _ => fun
  | [d] => { results := [.lit (.bool false)], args := [d] }
  | _ => none }
def FnRuleWeightWrongFalsely : Prop := fnRuleWeightRow.holds Try.pinned (OpenSpec.ofChange fnRuleWeightWrong)

/-- 'laws.FnStoreOk': WHATEVER THE INPUT: true; the input reads as it did. -/
def fnStoreOkSpec : ChangeSpec := { name := "fnStoreOk", fn := fun _ => fun
  | [d] => { results := [.lit (.bool true)], args := [d] }
  | _ => none }
def fnStoreOkRow : OpenClaim := { program := "ytheifobeaemegaa", sum := "b186df8a12612141be6e57dba1df8f0541d3cc908cb2c7e0e02ce6494730aee2", func := "loop.example/drawnanew/laws.FnStoreOk", spec := "fnStoreOk", apart := false }
def FnStoreOkSaid : Prop := fnStoreOkRow.holds Try.pinned (OpenSpec.ofChange fnStoreOkSpec)

/-- ITS FALSE NEIGHBOUR: 'it returns false'. Refute it at one input. -/
def fnStoreOkWrong : ChangeSpec := { name := "fnStoreOk", fn := fun _ => fun
  | [d] => { results := [.lit (.bool false)], args := [d] }
  | _ => none }
def FnStoreOkWrongFalsely : Prop := fnStoreOkRow.holds Try.pinned (OpenSpec.ofChange fnStoreOkWrong)

/-- 'laws.FnStoreCut': WHATEVER THE INPUT: true; the input reads as it did. -/
def fnStoreCutSpec : ChangeSpec := { name := "fnStoreCut", fn := fun _ => fun
  | [d] => { results := [.lit (.bool true)], args := [d] }
  | _ => none }
def fnStoreCutRow : OpenClaim := { program := "ytheifobeaemegaa", sum := "b186df8a12612141be6e57dba1df8f0541d3cc908cb2c7e0e02ce6494730aee2", func := "loop.example/drawnanew/laws.FnStoreCut", spec := "fnStoreCut", apart := false }
def FnStoreCutSaid : Prop := fnStoreCutRow.holds Try.pinned (OpenSpec.ofChange fnStoreCutSpec)

/-- ITS FALSE NEIGHBOUR: 'it returns false'. Refute it at one input. -/
def fnStoreCutWrong : ChangeSpec := { name := "fnStoreCut", fn := fun _ => fun
  | [d] => { results := [.lit (.bool false)], args := [d] }
  | _ => none }
def FnStoreCutWrongFalsely : Prop := fnStoreCutRow.holds Try.pinned (OpenSpec.ofChange fnStoreCutWrong)

/-- 'laws.FnStoreGet': WHATEVER THE INPUT: true; the input reads as it did. -/
def fnStoreGetSpec : ChangeSpec := { name := "fnStoreGet", fn := fun _ => fun
  | [d] => { results := [.lit (.bool true)], args := [d] }
  | _ => none }
def fnStoreGetRow : OpenClaim := { program := "ytheifobeaemegaa", sum := "b186df8a12612141be6e57dba1df8f0541d3cc908cb2c7e0e02ce6494730aee2", func := "loop.example/drawnanew/laws.FnStoreGet", spec := "fnStoreGet", apart := false }
def FnStoreGetSaid : Prop := fnStoreGetRow.holds Try.pinned (OpenSpec.ofChange fnStoreGetSpec)

/-- ITS FALSE NEIGHBOUR: 'it returns false'. Refute it at one input. -/
def fnStoreGetWrong : ChangeSpec := { name := "fnStoreGet", fn := fun _ => fun
  | [d] => { results := [.lit (.bool false)], args := [d] }
  | _ => none }
def FnStoreGetWrongFalsely : Prop := fnStoreGetRow.holds Try.pinned (OpenSpec.ofChange fnStoreGetWrong)

/-- 'laws.FnStorePut': WHATEVER THE INPUT: true; the input reads as it did. -/
def fnStorePutSpec : ChangeSpec := { name := "fnStorePut", fn := fun _ => fun
  | [d] => { results := [.lit (.bool true)], args := [d] }
  | _ => none }
def fnStorePutRow : OpenClaim := { program := "ytheifobeaemegaa", sum := "b186df8a12612141be6e57dba1df8f0541d3cc908cb2c7e0e02ce6494730aee2", func := "loop.example/drawnanew/laws.FnStorePut", spec := "fnStorePut", apart := false }
def FnStorePutSaid : Prop := fnStorePutRow.holds Try.pinned (OpenSpec.ofChange fnStorePutSpec)

/-- ITS FALSE NEIGHBOUR: 'it returns false'. Refute it at one input. -/
def fnStorePutWrong : ChangeSpec := { name := "fnStorePut", fn := fun _ => fun
  | [d] => { results := [.lit (.bool false)], args := [d] }
  | _ => none }
def FnStorePutWrongFalsely : Prop := fnStorePutRow.holds Try.pinned (OpenSpec.ofChange fnStorePutWrong)

/- THE SECOND FORM. 'bulk': how many values and letters a reading holds, each counted each time it is reached (what is shared counts as often as it is met; a slice's spare places count too). A statement '..UptoSaid' is the law's where the arguments, and the package variables that the reading takes, are together of bulk at most 1048576: NARROWER than '..Said'. Prove '..Said' where nothing that the law and all that it calls make is longer than what came in: it says more and counts as full. Else prove '..UptoSaid'. A law counts once. -/
mutual
def uptoBulk {H : Type} : DataW H → Nat
  | .lit (.string bytes) => bytes.length + 1
  | .lit _ => 1
  | .nil => 1
  | .ptr d => uptoBulk d + 1
  | .slice elems spare => uptoBulkAll elems + uptoBulkAll spare + 1
  | .agg parts => uptoBulkAll parts + 1
  | .iface _ d => uptoBulk d + 1
  | .map entries => uptoBulkEntries entries + 1
  | .held _ => 1
def uptoBulkAll {H : Type} : List (DataW H) → Nat
  | [] => 0
  | d :: r => uptoBulk d + uptoBulkAll r
def uptoBulkEntries {H : Type} : List (Lit × DataW H) → Nat
  | [] => 0
  | x :: r => uptoBulkEntry x + uptoBulkEntries r
def uptoBulkEntry {H : Type} : Lit × DataW H → Nat
  | (.string bytes, d) => bytes.length + uptoBulk d + 1
  | (_, d) => uptoBulk d + 1
 end
def uptoSmall : (H : Type) → List (DataW H) → Bool := fun _ ds => decide (uptoBulkAll ds ≤ 1048576)
def OpenSpec.upto (s : _root_.Go.ChangeSpec) : _root_.Go.OpenSpec := { _root_.Go.OpenSpec.ofChange s with cond := some uptoSmall }

/-- 'laws.FnRulesOk', WHERE WHAT IT READS IS OF BULK AT MOST 1048576: true; the input reads as it did. -/
def fnRulesOkUptoRow : OpenClaim := { program := "ytheifobeaemegaa", sum := "b186df8a12612141be6e57dba1df8f0541d3cc908cb2c7e0e02ce6494730aee2", func := "loop.example/drawnanew/laws.FnRulesOk", spec := "fnRulesOk", apart := false, narrowed := true }
def FnRulesOkUptoSaid : Prop := fnRulesOkUptoRow.holds Try.pinned (OpenSpec.upto fnRulesOkSpec)

/-- 'laws.FnRuleWeight', WHERE WHAT IT READS IS OF BULK AT MOST 1048576: true; the input reads as it did. -/
def fnRuleWeightUptoRow : OpenClaim := { program := "ytheifobeaemegaa", sum := "b186df8a12612141be6e57dba1df8f0541d3cc908cb2c7e0e02ce6494730aee2", func := "loop.example/drawnanew/laws.FnRuleWeight", spec := "fnRuleWeight", apart := false, narrowed := true }
def FnRuleWeightUptoSaid : Prop := fnRuleWeightUptoRow.holds Try.pinned (OpenSpec.upto fnRuleWeightSpec)

/-- 'laws.FnStoreOk', WHERE WHAT IT READS IS OF BULK AT MOST 1048576: true; the input reads as it did. -/
def fnStoreOkUptoRow : OpenClaim := { program := "ytheifobeaemegaa", sum := "b186df8a12612141be6e57dba1df8f0541d3cc908cb2c7e0e02ce6494730aee2", func := "loop.example/drawnanew/laws.FnStoreOk", spec := "fnStoreOk", apart := false, narrowed := true }
def FnStoreOkUptoSaid : Prop := fnStoreOkUptoRow.holds Try.pinned (OpenSpec.upto fnStoreOkSpec)

/-- 'laws.FnStoreCut', WHERE WHAT IT READS IS OF BULK AT MOST 1048576: true; the input reads as it did. -/
def fnStoreCutUptoRow : OpenClaim := { program := "ytheifobeaemegaa", sum := "b186df8a12612141be6e57dba1df8f0541d3cc908cb2c7e0e02ce6494730aee2", func := "loop.example/drawnanew/laws.FnStoreCut", spec := "fnStoreCut", apart := false, narrowed := true }
def FnStoreCutUptoSaid : Prop := fnStoreCutUptoRow.holds Try.pinned (OpenSpec.upto fnStoreCutSpec)

/-- 'laws.FnStoreGet', WHERE WHAT IT READS IS OF BULK AT MOST 1048576: true; the input reads as it did. -/
def fnStoreGetUptoRow : OpenClaim := { program := "ytheifobeaemegaa", sum := "b186df8a12612141be6e57dba1df8f0541d3cc908cb2c7e0e02ce6494730aee2", func := "loop.example/drawnanew/laws.FnStoreGet", spec := "fnStoreGet", apart := false, narrowed := true }
def FnStoreGetUptoSaid : Prop := fnStoreGetUptoRow.holds Try.pinned (OpenSpec.upto fnStoreGetSpec)

/-- 'laws.FnStorePut', WHERE WHAT IT READS IS OF BULK AT MOST 1048576: true; the input reads as it did. -/
def fnStorePutUptoRow : OpenClaim := { program := "ytheifobeaemegaa", sum := "b186df8a12612141be6e57dba1df8f0541d3cc908cb2c7e0e02ce6494730aee2", func := "loop.example/drawnanew/laws.FnStorePut", spec := "fnStorePut", apart := false, narrowed := true }
def FnStorePutUptoSaid : Prop := fnStorePutUptoRow.holds Try.pinned (OpenSpec.upto fnStorePutSpec)

end Rows
end Go.Proofs.Ytheifobeaemegaa

/-
  No cell of these rows narrows 'for every input' (looked for: loops, veiled, ifaces, maps, wideKeys, modest, calm, conditions, laid).
  DERIVED. THE GIVEN ROWS OF THIS SEAT. 6 by the template 'for every input the law returns true; each argument reads behind the call as it read before'; 0 by the template 'total and deterministic' (their statements: YtnihohgbhnhbjaaTotals.lean).
  GIVEN WITH THE SEED: the statements are not yours to turn. If you find one false, say at which input.
  Laid BY PROGRAM, IN A SANDBOX (cutbox-rows.mjs): the forced cells as the released guide's own fill.sh prints them over the translation cf34ec237438976e… (all of the seat's roots in one cut). By AI agents, Wed Nov 11 2026. No macro, syntax, notation, axiom, sorry.
-/
import Derived.Test.YtnihohgbhnhbjaaChecked
import GoSem.Claim
import GoSem.ClaimJoined
import GoSem.ClaimMapViews
import Derived.JoinedTies
import Derived.KernelRfl
namespace Go.Proofs.Ytnihohgbhnhbjaa
/- THE CELL 'sum', in the pinned program and in every row, IS THE sha256 OF THE DUMP (.gsa) THAT YtnihohgbhnhbjaaProg.lean LOADS. Nothing in Lean hashes anything: it is a label: what it is worth is what the hold of that sum in a sandbox is worth. -/
noncomputable def Try.pinned : Pinned := { name := "ytnihohgbhnhbjaa", sum := "cf34ec237438976ebc2e5605a6d3092c420fa2ec4c17c0ebab557cba49b7f41a", checked := Try.checked }
namespace Rows
def none {H : Type} : Left H := { results := [], args := [] }

/-- 'laws.FnExactFormNeeds': WHATEVER THE INPUT: true; the input reads as it did. -/
def fnExactFormNeedsSpec : ChangeSpec := { name := "fnExactFormNeeds", fn := fun _ => fun
  | [d1, d2] => { results := [.lit (.bool true)], args := [d1, d2] }
  | _ => none }
def fnExactFormNeedsRow : OpenClaim := { program := "ytnihohgbhnhbjaa", sum := "cf34ec237438976ebc2e5605a6d3092c420fa2ec4c17c0ebab557cba49b7f41a", func := "loop.example/drawnanew/laws.FnExactFormNeeds", spec := "fnExactFormNeeds", recurses := true, apart := false }
def FnExactFormNeedsSaid : Prop := fnExactFormNeedsRow.holds Try.pinned (OpenSpec.ofChange fnExactFormNeedsSpec)

/-- ITS FALSE NEIGHBOUR: 'it returns false'. Refute it at one input. -/
def fnExactFormNeedsWrong : ChangeSpec := { name := "fnExactFormNeeds", fn := fun _ => fun
  | [d1, d2] => { results := [.lit (.bool false)], args := [d1, d2] }
  | _ => none }
def FnExactFormNeedsWrongFalsely : Prop := fnExactFormNeedsRow.holds Try.pinned (OpenSpec.ofChange fnExactFormNeedsWrong)

/-- 'laws.FnExactRuleWeight': WHATEVER THE INPUT: true; the input reads as it did. -/
def fnExactRuleWeightSpec : ChangeSpec := { name := "fnExactRuleWeight", fn := fun _ => fun
  | [d] => { results := [.lit (.bool true)], args := [d] }
  | _ => none }
def fnExactRuleWeightRow : OpenClaim := { program := "ytnihohgbhnhbjaa", sum := "cf34ec237438976ebc2e5605a6d3092c420fa2ec4c17c0ebab557cba49b7f41a", func := "loop.example/drawnanew/laws.FnExactRuleWeight", spec := "fnExactRuleWeight", apart := false }
def FnExactRuleWeightSaid : Prop := fnExactRuleWeightRow.holds Try.pinned (OpenSpec.ofChange fnExactRuleWeightSpec)

/-- ITS FALSE NEIGHBOUR: 'it returns false'. Refute it at one input. -/
def fnExactRuleWeightWrong : ChangeSpec := { name := "fnExactRuleWeight", fn := fun _ => fun
  | [d] => { results := [.lit (.bool false)], args := [d] }
  | _ => none }
def FnExactRuleWeightWrongFalsely : Prop := fnExactRuleWeightRow.holds Try.pinned (OpenSpec.ofChange fnExactRuleWeightWrong)

/-- 'laws.FnRulesOk': WHATEVER THE INPUT: true; the input reads as it did. -/
def fnRulesOkSpec : ChangeSpec := { name := "fnRulesOk", fn := fun _ => fun
  | [d] => { results := [.lit (.bool true)], args := [d] }
  | _ => none }
def fnRulesOkRow : OpenClaim := { program := "ytnihohgbhnhbjaa", sum := "cf34ec237438976ebc2e5605a6d3092c420fa2ec4c17c0ebab557cba49b7f41a", func := "loop.example/drawnanew/laws.FnRulesOk", spec := "fnRulesOk", apart := false }
def FnRulesOkSaid : Prop := fnRulesOkRow.holds Try.pinned (OpenSpec.ofChange fnRulesOkSpec)

/-- ITS FALSE NEIGHBOUR: 'it returns false'. Refute it at one input. -/
def fnRulesOkWrong : ChangeSpec := { name := "fnRulesOk", fn := fun _ => fun
  | [d] => { results := [.lit (.bool false)], args := [d] }
  | _ => none }
def FnRulesOkWrongFalsely : Prop := fnRulesOkRow.holds Try.pinned (OpenSpec.ofChange fnRulesOkWrong)

/-- 'laws.FnRuleWeight': WHATEVER THE INPUT: true; the input reads as it did. -/
def fnRuleWeightSpec : ChangeSpec := { name := "fnRuleWeight", fn := fun _ => fun
  | [d] => { results := [.lit (.bool true)], args := [d] }
  | _ => none }
def fnRuleWeightRow : OpenClaim := { program := "ytnihohgbhnhbjaa", sum := "cf34ec237438976ebc2e5605a6d3092c420fa2ec4c17c0ebab557cba49b7f41a", func := "loop.example/drawnanew/laws.FnRuleWeight", spec := "fnRuleWeight", apart := false }
def FnRuleWeightSaid : Prop := fnRuleWeightRow.holds Try.pinned (OpenSpec.ofChange fnRuleWeightSpec)

/-- ITS FALSE NEIGHBOUR: 'it returns false'. Refute it at one input. -/
def fnRuleWeightWrong : ChangeSpec := { name := "fnRuleWeight", fn := fun _ => fun
  | [d] => { results := [.lit (.bool false)], args := [d] }
  | _ => none }
def FnRuleWeightWrongFalsely : Prop := fnRuleWeightRow.holds Try.pinned (OpenSpec.ofChange fnRuleWeightWrong)

/-- 'laws.FnExactRulesOk': WHATEVER THE INPUT: true; the input reads as it did. -/
def fnExactRulesOkSpec : ChangeSpec := { name := "fnExactRulesOk", fn := fun _ => fun
  | [d] => { results := [.lit (.bool true)], args := [d] }
  | _ => none }
def fnExactRulesOkRow : OpenClaim := { program := "ytnihohgbhnhbjaa", sum := "cf34ec237438976ebc2e5605a6d3092c420fa2ec4c17c0ebab557cba49b7f41a", func := "loop.example/drawnanew/laws.FnExactRulesOk", spec := "fnExactRulesOk", apart := false }
def FnExactRulesOkSaid : Prop := fnExactRulesOkRow.holds Try.pinned (OpenSpec.ofChange fnExactRulesOkSpec)

/-- ITS FALSE NEIGHBOUR: 'it returns false'. Refute it at one input. -/
def fnExactRulesOkWrong : ChangeSpec := { name := "fnExactRulesOk", fn := fun _ => fun
  | [d] => { results := [.lit (.bool false)], args := [d] }
  | _ => none }
def FnExactRulesOkWrongFalsely : Prop := fnExactRulesOkRow.holds Try.pinned (OpenSpec.ofChange fnExactRulesOkWrong)

/-- 'laws.FnExactFormOk': WHATEVER THE INPUT: true; the input reads as it did. -/
def fnExactFormOkSpec : ChangeSpec := { name := "fnExactFormOk", fn := fun _ => fun
  | [d1, d2, d3, d4] => { results := [.lit (.bool true)], args := [d1, d2, d3, d4] }
  | _ => none }
def fnExactFormOkRow : OpenClaim := { program := "ytnihohgbhnhbjaa", sum := "cf34ec237438976ebc2e5605a6d3092c420fa2ec4c17c0ebab557cba49b7f41a", func := "loop.example/drawnanew/laws.FnExactFormOk", spec := "fnExactFormOk", apart := false }
def FnExactFormOkSaid : Prop := fnExactFormOkRow.holds Try.pinned (OpenSpec.ofChange fnExactFormOkSpec)

/-- ITS FALSE NEIGHBOUR: 'it returns false'. Refute it at one input. -/
def fnExactFormOkWrong : ChangeSpec := { name := "fnExactFormOk", fn := fun _ => fun
  | [d1, d2, d3, d4] => { results := [.lit (.bool false)], args := [d1, d2, d3, d4] }
  | _ => none }
def FnExactFormOkWrongFalsely : Prop := fnExactFormOkRow.holds Try.pinned (OpenSpec.ofChange fnExactFormOkWrong)

/- THE SECOND FORM. 'bulk': how many values and letters a reading holds, each counted each time it is reached (what is shared counts as often as it is met; a slice's spare places count too). A statement '..UptoSaid' is the law's where the arguments, and the package variables that the reading takes, are together of bulk at most 1048576: NARROWER than '..Said'. Prove '..Said' where nothing that the law and all that it calls make is longer than what came in: it says more and counts as full. Else prove '..UptoSaid'. A law counts once. -/
mutual
def uptoBulk {H : Type} : DataW H → Nat
  | .lit (.string bytes) => bytes.length + 1
  | .lit _ => 1
  | .nil => 1
  | .ptr d => uptoBulk d + 1
  | .slice elems spare => uptoBulkAll elems + uptoBulkAll spare + 1
  | .agg parts => uptoBulkAll parts + 1
  | .iface _ d => uptoBulk d + 1
  | .map entries => uptoBulkEntries entries + 1
  | .held _ => 1
def uptoBulkAll {H : Type} : List (DataW H) → Nat
  | [] => 0
  | d :: r => uptoBulk d + uptoBulkAll r
def uptoBulkEntries {H : Type} : List (Lit × DataW H) → Nat
  | [] => 0
  | x :: r => uptoBulkEntry x + uptoBulkEntries r
def uptoBulkEntry {H : Type} : Lit × DataW H → Nat
  | (.string bytes, d) => bytes.length + uptoBulk d + 1
  | (_, d) => uptoBulk d + 1
 end
def uptoSmall : (H : Type) → List (DataW H) → Bool := fun _ ds => decide (uptoBulkAll ds ≤ 1048576)
def OpenSpec.upto (s : _root_.Go.ChangeSpec) : _root_.Go.OpenSpec := { _root_.Go.OpenSpec.ofChange s with cond := some uptoSmall }

/-- 'laws.FnExactFormNeeds', WHERE WHAT IT READS IS OF BULK AT MOST 1048576: true; the input reads as it did. -/
def fnExactFormNeedsUptoRow : OpenClaim := { program := "ytnihohgbhnhbjaa", sum := "cf34ec237438976ebc2e5605a6d3092c420fa2ec4c17c0ebab557cba49b7f41a", func := "loop.example/drawnanew/laws.FnExactFormNeeds", spec := "fnExactFormNeeds", recurses := true, apart := false, narrowed := true }
def FnExactFormNeedsUptoSaid : Prop := fnExactFormNeedsUptoRow.holds Try.pinned (OpenSpec.upto fnExactFormNeedsSpec)

/-- 'laws.FnExactRuleWeight', WHERE WHAT IT READS IS OF BULK AT MOST 1048576: true; the input reads as it did. -/
def fnExactRuleWeightUptoRow : OpenClaim := { program := "ytnihohgbhnhbjaa", sum := "cf34ec237438976ebc2e5605a6d3092c420fa2ec4c17c0ebab557cba49b7f41a", func := "loop.example/drawnanew/laws.FnExactRuleWeight", spec := "fnExactRuleWeight", apart := false, narrowed := true }
def FnExactRuleWeightUptoSaid : Prop := fnExactRuleWeightUptoRow.holds Try.pinned (OpenSpec.upto fnExactRuleWeightSpec)

/-- 'laws.FnRulesOk', WHERE WHAT IT READS IS OF BULK AT MOST 1048576: true; the input reads as it did. -/
def fnRulesOkUptoRow : OpenClaim := { program := "ytnihohgbhnhbjaa", sum := "cf34ec237438976ebc2e5605a6d3092c420fa2ec4c17c0ebab557cba49b7f41a", func := "loop.example/drawnanew/laws.FnRulesOk", spec := "fnRulesOk", apart := false, narrowed := true }
def FnRulesOkUptoSaid : Prop := fnRulesOkUptoRow.holds Try.pinned (OpenSpec.upto fnRulesOkSpec)

/-- 'laws.FnRuleWeight', WHERE WHAT IT READS IS OF BULK AT MOST 1048576: true; the input reads as it did. -/
def fnRuleWeightUptoRow : OpenClaim := { program := "ytnihohgbhnhbjaa", sum := "cf34ec237438976ebc2e5605a6d3092c420fa2ec4c17c0ebab557cba49b7f41a", func := "loop.example/drawnanew/laws.FnRuleWeight", spec := "fnRuleWeight", apart := false, narrowed := true }
def FnRuleWeightUptoSaid : Prop := fnRuleWeightUptoRow.holds Try.pinned (OpenSpec.upto fnRuleWeightSpec)

/-- 'laws.FnExactRulesOk', WHERE WHAT IT READS IS OF BULK AT MOST 1048576: true; the input reads as it did. -/
def fnExactRulesOkUptoRow : OpenClaim := { program := "ytnihohgbhnhbjaa", sum := "cf34ec237438976ebc2e5605a6d3092c420fa2ec4c17c0ebab557cba49b7f41a", func := "loop.example/drawnanew/laws.FnExactRulesOk", spec := "fnExactRulesOk", apart := false, narrowed := true }
def FnExactRulesOkUptoSaid : Prop := fnExactRulesOkUptoRow.holds Try.pinned (OpenSpec.upto fnExactRulesOkSpec)

/-- 'laws.FnExactFormOk', WHERE WHAT IT READS IS OF BULK AT MOST 1048576: true; the input reads as it did. -/
def fnExactFormOkUptoRow : OpenClaim := { program := "ytnihohgbhnhbjaa", sum := "cf34ec237438976ebc2e5605a6d3092c420fa2ec4c17c0ebab557cba49b7f41a", func := "loop.example/drawnanew/laws.FnExactFormOk", spec := "fnExactFormOk", apart := false, narrowed := true }
def FnExactFormOkUptoSaid : Prop := fnExactFormOkUptoRow.holds Try.pinned (OpenSpec.upto fnExactFormOkSpec)

end Rows
end Go.Proofs.Ytnihohgbhnhbjaa

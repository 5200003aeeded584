/-
  No cell of these rows narrows 'for every input' (looked for: loops, veiled, ifaces, maps, wideKeys, modest, calm, conditions, laid).
  DERIVED. THE GIVEN ROWS OF THIS SEAT. 6 by the template 'for every input the law returns true; each argument reads behind the call as it read before'; 0 by the template 'total and deterministic' (their statements: YtjpjnhcdlfjimaaTotals.lean).
  GIVEN WITH THE SEED: the statements are not yours to turn. If you find one false, say at which input.
  Laid BY PROGRAM, IN A SANDBOX (cutbox-rows.mjs): the forced cells as the released guide's own fill.sh prints them over the translation 3c0c035cbc789b74… (all of the seat's roots in one cut). By AI agents, Wed Nov 11 2026. No macro, syntax, notation, axiom, sorry.
-/
import Derived.Test.YtjpjnhcdlfjimaaChecked
import GoSem.Claim
import GoSem.ClaimJoined
import GoSem.ClaimMapViews
import Derived.JoinedTies
import Derived.KernelRfl
namespace Go.Proofs.Ytjpjnhcdlfjimaa
/- THE CELL 'sum', in the pinned program and in every row, IS THE sha256 OF THE DUMP (.gsa) THAT YtjpjnhcdlfjimaaProg.lean LOADS. Nothing in Lean hashes anything: it is a label: what it is worth is what the hold of that sum in a sandbox is worth. -/
noncomputable def Try.pinned : Pinned := { name := "ytjpjnhcdlfjimaa", sum := "3c0c035cbc789b7411935803e673d9e861e8798ce864451852d4b1a55520699d", checked := Try.checked }
namespace Rows
def none {H : Type} : Left H := { results := [], args := [] }

/-- 'laws.FnBoxBetween': WHATEVER THE INPUT: true; the input reads as it did. -/
def fnBoxBetweenSpec : ChangeSpec := { name := "fnBoxBetween", fn := fun _ => fun
  | [d] => { results := [.lit (.bool true)], args := [d] }
  | _ => none }
def fnBoxBetweenRow : OpenClaim := { program := "ytjpjnhcdlfjimaa", sum := "3c0c035cbc789b7411935803e673d9e861e8798ce864451852d4b1a55520699d", func := "loop.example/drawnanew/laws.FnBoxBetween", spec := "fnBoxBetween", apart := false }
def FnBoxBetweenSaid : Prop := fnBoxBetweenRow.holds Try.pinned (OpenSpec.ofChange fnBoxBetweenSpec)

/-- ITS FALSE NEIGHBOUR: 'it returns false'. Refute it at one input. -/
def fnBoxBetweenWrong : ChangeSpec := { name := "fnBoxBetween", fn := fun _ => fun
  | [d] => { results := [.lit (.bool false)], args := [d] }
  | _ => none }
def FnBoxBetweenWrongFalsely : Prop := fnBoxBetweenRow.holds Try.pinned (OpenSpec.ofChange fnBoxBetweenWrong)

/-- 'laws.FnPlaceOk': WHATEVER THE INPUT: true; the input reads as it did. -/
def fnPlaceOkSpec : ChangeSpec := { name := "fnPlaceOk", fn := fun _ => fun
  | [d] => { results := [.lit (.bool true)], args := [d] }
  | _ => none }
def fnPlaceOkRow : OpenClaim := { program := "ytjpjnhcdlfjimaa", sum := "3c0c035cbc789b7411935803e673d9e861e8798ce864451852d4b1a55520699d", func := "loop.example/drawnanew/laws.FnPlaceOk", spec := "fnPlaceOk", apart := false }
def FnPlaceOkSaid : Prop := fnPlaceOkRow.holds Try.pinned (OpenSpec.ofChange fnPlaceOkSpec)

/-- ITS FALSE NEIGHBOUR: 'it returns false'. Refute it at one input. -/
def fnPlaceOkWrong : ChangeSpec := { name := "fnPlaceOk", fn := fun _ => fun
  | [d] => { results := [.lit (.bool false)], args := [d] }
  | _ => none }
def FnPlaceOkWrongFalsely : Prop := fnPlaceOkRow.holds Try.pinned (OpenSpec.ofChange fnPlaceOkWrong)

/-- 'laws.FnPlaceUnder': WHATEVER THE INPUT: true; the input reads as it did. -/
def fnPlaceUnderSpec : ChangeSpec := { name := "fnPlaceUnder", fn := fun _ => fun
  | [d] => { results := [.lit (.bool true)], args := [d] }
  | _ => none }
def fnPlaceUnderRow : OpenClaim := { program := "ytjpjnhcdlfjimaa", sum := "3c0c035cbc789b7411935803e673d9e861e8798ce864451852d4b1a55520699d", func := "loop.example/drawnanew/laws.FnPlaceUnder", spec := "fnPlaceUnder", apart := false }
def FnPlaceUnderSaid : Prop := fnPlaceUnderRow.holds Try.pinned (OpenSpec.ofChange fnPlaceUnderSpec)

/-- ITS FALSE NEIGHBOUR: 'it returns false'. Refute it at one input. -/
def fnPlaceUnderWrong : ChangeSpec := { name := "fnPlaceUnder", fn := fun _ => fun
  | [d] => { results := [.lit (.bool false)], args := [d] }
  | _ => none }
def FnPlaceUnderWrongFalsely : Prop := fnPlaceUnderRow.holds Try.pinned (OpenSpec.ofChange fnPlaceUnderWrong)

/-- 'laws.FnExactPlaceOrder': WHATEVER THE INPUT: true; the input reads as it did. -/
def fnExactPlaceOrderSpec : ChangeSpec := { name := "fnExactPlaceOrder", fn := fun _ => fun
  | [d1, d2] => { results := [.lit (.bool true)], args := [d1, d2] }
  | _ => none }
def fnExactPlaceOrderRow : OpenClaim := { program := "ytjpjnhcdlfjimaa", sum := "3c0c035cbc789b7411935803e673d9e861e8798ce864451852d4b1a55520699d", func := "loop.example/drawnanew/laws.FnExactPlaceOrder", spec := "fnExactPlaceOrder", apart := false }
def FnExactPlaceOrderSaid : Prop := fnExactPlaceOrderRow.holds Try.pinned (OpenSpec.ofChange fnExactPlaceOrderSpec)

/-- ITS FALSE NEIGHBOUR: 'it returns false'. Refute it at one input. -/
def fnExactPlaceOrderWrong : ChangeSpec := { name := "fnExactPlaceOrder", fn := fun _ => fun
  | [d1, d2] => { results := [.lit (.bool false)], args := [d1, d2] }
  | _ => none }
def FnExactPlaceOrderWrongFalsely : Prop := fnExactPlaceOrderRow.holds Try.pinned (OpenSpec.ofChange fnExactPlaceOrderWrong)

/-- 'laws.FnExactPlaceUnder': WHATEVER THE INPUT: true; the input reads as it did. -/
def fnExactPlaceUnderSpec : ChangeSpec := { name := "fnExactPlaceUnder", fn := fun _ => fun
  | [d1, d2] => { results := [.lit (.bool true)], args := [d1, d2] }
  | _ => none }
def fnExactPlaceUnderRow : OpenClaim := { program := "ytjpjnhcdlfjimaa", sum := "3c0c035cbc789b7411935803e673d9e861e8798ce864451852d4b1a55520699d", func := "loop.example/drawnanew/laws.FnExactPlaceUnder", spec := "fnExactPlaceUnder", apart := false }
def FnExactPlaceUnderSaid : Prop := fnExactPlaceUnderRow.holds Try.pinned (OpenSpec.ofChange fnExactPlaceUnderSpec)

/-- ITS FALSE NEIGHBOUR: 'it returns false'. Refute it at one input. -/
def fnExactPlaceUnderWrong : ChangeSpec := { name := "fnExactPlaceUnder", fn := fun _ => fun
  | [d1, d2] => { results := [.lit (.bool false)], args := [d1, d2] }
  | _ => none }
def FnExactPlaceUnderWrongFalsely : Prop := fnExactPlaceUnderRow.holds Try.pinned (OpenSpec.ofChange fnExactPlaceUnderWrong)

/-- 'laws.FnPlaceOrder': WHATEVER THE INPUT: true; the input reads as it did. -/
def fnPlaceOrderSpec : ChangeSpec := { name := "fnPlaceOrder", fn := fun _ => fun
  | [d] => { results := [.lit (.bool true)], args := [d] }
  | _ => none }
def fnPlaceOrderRow : OpenClaim := { program := "ytjpjnhcdlfjimaa", sum := "3c0c035cbc789b7411935803e673d9e861e8798ce864451852d4b1a55520699d", func := "loop.example/drawnanew/laws.FnPlaceOrder", spec := "fnPlaceOrder", apart := false }
def FnPlaceOrderSaid : Prop := fnPlaceOrderRow.holds Try.pinned (OpenSpec.ofChange fnPlaceOrderSpec)

/-- ITS FALSE NEIGHBOUR: 'it returns false'. Refute it at one input. -/
def fnPlaceOrderWrong : ChangeSpec := { name := "fnPlaceOrder", fn := fun _ => fun
  | [d] => { results := [.lit (.bool false)], args := [d] }
  | _ => none }
def FnPlaceOrderWrongFalsely : Prop := fnPlaceOrderRow.holds Try.pinned (OpenSpec.ofChange fnPlaceOrderWrong)

/- THE SECOND FORM. 'bulk': how many values and letters a reading holds, each counted each time it is reached (what is shared counts as often as it is met; a slice's spare places count too). A statement '..UptoSaid' is the law's where the arguments, and the package variables that the reading takes, are together of bulk at most 1048576: NARROWER than '..Said'. Prove '..Said' where nothing that the law and all that it calls make is longer than what came in: it says more and counts as full. Else prove '..UptoSaid'. A law counts once. -/
mutual
def uptoBulk {H : Type} : DataW H → Nat
  | .lit (.string bytes) => bytes.length + 1
  | .lit _ => 1
  | .nil => 1
  | .ptr d => uptoBulk d + 1
  | .slice elems spare => uptoBulkAll elems + uptoBulkAll spare + 1
  | .agg parts => uptoBulkAll parts + 1
  | .iface _ d => uptoBulk d + 1
  | .map entries => uptoBulkEntries entries + 1
  | .held _ => 1
def uptoBulkAll {H : Type} : List (DataW H) → Nat
  | [] => 0
  | d :: r => uptoBulk d + uptoBulkAll r
def uptoBulkEntries {H : Type} : List (Lit × DataW H) → Nat
  | [] => 0
  | x :: r => uptoBulkEntry x + uptoBulkEntries r
def uptoBulkEntry {H : Type} : Lit × DataW H → Nat
  | (.string bytes, d) => bytes.length + uptoBulk d + 1
  | (_, d) => uptoBulk d + 1
 end
def uptoSmall : (H : Type) → List (DataW H) → Bool := fun _ ds => decide (uptoBulkAll ds ≤ 1048576)
def OpenSpec.upto (s : _root_.Go.ChangeSpec) : _root_.Go.OpenSpec := { _root_.Go.OpenSpec.ofChange s with cond := some uptoSmall }

/-- 'laws.FnBoxBetween', WHERE WHAT IT READS IS OF BULK AT MOST 1048576: true; the input reads as it did. -/
def fnBoxBetweenUptoRow : OpenClaim := { program := "ytjpjnhcdlfjimaa", sum := "3c0c035cbc789b7411935803e673d9e861e8798ce864451852d4b1a55520699d", func := "loop.example/drawnanew/laws.FnBoxBetween", spec := "fnBoxBetween", apart := false, narrowed := true }
def FnBoxBetweenUptoSaid : Prop := fnBoxBetweenUptoRow.holds Try.pinned (OpenSpec.upto fnBoxBetweenSpec)

/-- 'laws.FnPlaceOk', WHERE WHAT IT READS IS OF BULK AT MOST 1048576: true; the input reads as it did. -/
def fnPlaceOkUptoRow : OpenClaim := { program := "ytjpjnhcdlfjimaa", sum := "3c0c035cbc789b7411935803e673d9e861e8798ce864451852d4b1a55520699d", func := "loop.example/drawnanew/laws.FnPlaceOk", spec := "fnPlaceOk", apart := false, narrowed := true }
def FnPlaceOkUptoSaid : Prop := fnPlaceOkUptoRow.holds Try.pinned (OpenSpec.upto fnPlaceOkSpec)

/-- 'laws.FnPlaceUnder', WHERE WHAT IT READS IS OF BULK AT MOST 1048576: true; the input reads as it did. -/
def fnPlaceUnderUptoRow : OpenClaim := { program := "ytjpjnhcdlfjimaa", sum := "3c0c035cbc789b7411935803e673d9e861e8798ce864451852d4b1a55520699d", func := "loop.example/drawnanew/laws.FnPlaceUnder", spec := "fnPlaceUnder", apart := false, narrowed := true }
def FnPlaceUnderUptoSaid : Prop := fnPlaceUnderUptoRow.holds Try.pinned (OpenSpec.upto fnPlaceUnderSpec)

/-- 'laws.FnExactPlaceOrder', WHERE WHAT IT READS IS OF BULK AT MOST 1048576: true; the input reads as it did. -/
def fnExactPlaceOrderUptoRow : OpenClaim := { program := "ytjpjnhcdlfjimaa", sum := "3c0c035cbc789b7411935803e673d9e861e8798ce864451852d4b1a55520699d", func := "loop.example/drawnanew/laws.FnExactPlaceOrder", spec := "fnExactPlaceOrder", apart := false, narrowed := true }
def FnExactPlaceOrderUptoSaid : Prop := fnExactPlaceOrderUptoRow.holds Try.pinned (OpenSpec.upto fnExactPlaceOrderSpec)

/-- 'laws.FnExactPlaceUnder', WHERE WHAT IT READS IS OF BULK AT MOST 1048576: true; the input reads as it did. -/
def fnExactPlaceUnderUptoRow : OpenClaim := { program := "ytjpjnhcdlfjimaa", sum := "3c0c035cbc789b7411935803e673d9e861e8798ce864451852d4b1a55520699d", func := "loop.example/drawnanew/laws.FnExactPlaceUnder", spec := "fnExactPlaceUnder", apart := false, narrowed := true }
def FnExactPlaceUnderUptoSaid : Prop := fnExactPlaceUnderUptoRow.holds Try.pinned (OpenSpec.upto fnExactPlaceUnderSpec)

/-- 'laws.FnPlaceOrder', WHERE WHAT IT READS IS OF BULK AT MOST 1048576: true; the input reads as it did. -/
def fnPlaceOrderUptoRow : OpenClaim := { program := "ytjpjnhcdlfjimaa", sum := "3c0c035cbc789b7411935803e673d9e861e8798ce864451852d4b1a55520699d", func := "loop.example/drawnanew/laws.FnPlaceOrder", spec := "fnPlaceOrder", apart := false, narrowed := true }
def FnPlaceOrderUptoSaid : Prop := fnPlaceOrderUptoRow.holds Try.pinned (OpenSpec.upto fnPlaceOrderSpec)

end Rows
end Go.Proofs.Ytjpjnhcdlfjimaa

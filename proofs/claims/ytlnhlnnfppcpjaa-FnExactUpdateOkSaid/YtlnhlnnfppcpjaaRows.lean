/-
  No cell of these rows narrows 'for every input' (looked for: loops, veiled, ifaces, maps, wideKeys, modest, calm, conditions, laid).
  DERIVED. THE GIVEN ROWS OF THIS SEAT. 3 by the template 'for every input the law returns true; each argument reads behind the call as it read before'; 0 by the template 'total and deterministic' (their statements: YtlnhlnnfppcpjaaTotals.lean).
  GIVEN WITH THE SEED: the statements are not yours to turn. If you find one false, say at which input.
  Laid BY PROGRAM, IN A SANDBOX (cutbox-rows.mjs): the forced cells as the released guide's own fill.sh prints them over the translation df49e1f7c8445ae1… (all of the seat's roots in one cut). By AI agents, Wed Nov 11 2026. No macro, syntax, notation, axiom, sorry.
-/
import Derived.Test.YtlnhlnnfppcpjaaChecked
import GoSem.Claim
import GoSem.ClaimJoined
import GoSem.ClaimMapViews
import Derived.JoinedTies
import Derived.KernelRfl
namespace Go.Proofs.Ytlnhlnnfppcpjaa
/- THE CELL 'sum', in the pinned program and in every row, IS THE sha256 OF THE DUMP (.gsa) THAT YtlnhlnnfppcpjaaProg.lean LOADS. Nothing in Lean hashes anything: it is a label: what it is worth is what the hold of that sum in a sandbox is worth. -/
noncomputable def Try.pinned : Pinned := { name := "ytlnhlnnfppcpjaa", sum := "df49e1f7c8445ae13f2d743814388925b524a2745aff3247b378aed93d4aa1ea", checked := Try.checked }
namespace Rows
def none {H : Type} : Left H := { results := [], args := [] }

/-- 'laws.FnExactUpdateOk': WHATEVER THE INPUT: true; the input reads as it did. -/
def fnExactUpdateOkSpec : ChangeSpec := { name := "fnExactUpdateOk", fn := fun _ => fun
  | [d] => { results := [.lit (.bool true)], args := [d] }
  | _ => none }
def fnExactUpdateOkRow : OpenClaim := { program := "ytlnhlnnfppcpjaa", sum := "df49e1f7c8445ae13f2d743814388925b524a2745aff3247b378aed93d4aa1ea", func := "loop.example/drawnanew/laws.FnExactUpdateOk", spec := "fnExactUpdateOk", apart := false }
def FnExactUpdateOkSaid : Prop := fnExactUpdateOkRow.holds Try.pinned (OpenSpec.ofChange fnExactUpdateOkSpec)

/-- ITS FALSE NEIGHBOUR: 'it returns false'. Refute it at one input. -/
def fnExactUpdateOkWrong : ChangeSpec := { name := "fnExactUpdateOk", fn := fun _ => fun
  | [d] => { results := [.lit (.bool false)], args := [d] }
  | _ => none }
def FnExactUpdateOkWrongFalsely : Prop := fnExactUpdateOkRow.holds Try.pinned (OpenSpec.ofChange fnExactUpdateOkWrong)

/-- 'laws.FnStoreGet': WHATEVER THE INPUT: true; the input reads as it did. -/
def fnStoreGetSpec : ChangeSpec := { name := "fnStoreGet", fn := fun _ => fun
  | [d] => { results := [.lit (.bool true)], args := [d] }
  | _ => none }
def fnStoreGetRow : OpenClaim := { program := "ytlnhlnnfppcpjaa", sum := "df49e1f7c8445ae13f2d743814388925b524a2745aff3247b378aed93d4aa1ea", func := "loop.example/drawnanew/laws.FnStoreGet", spec := "fnStoreGet", apart := false }
def FnStoreGetSaid : Prop := fnStoreGetRow.holds Try.pinned (OpenSpec.ofChange fnStoreGetSpec)

/-- ITS FALSE NEIGHBOUR: 'it returns false'. Refute it at one input. -/
def fnStoreGetWrong : ChangeSpec := { name := "fnStoreGet", fn := fun _ => fun
  | [d] => { results := [.lit (.bool false)], args := [d] }
  | _ => none }
def FnStoreGetWrongFalsely : Prop := fnStoreGetRow.holds Try.pinned (OpenSpec.ofChange fnStoreGetWrong)

/-- 'laws.FnStorePut': WHATEVER THE INPUT: true; the input reads as it did. -/
def fnStorePutSpec : ChangeSpec := { name := "fnStorePut", fn := fun _ => fun
  | [d] => { results := [.lit (.bool true)], args := [d] }
  | _ => none }
def fnStorePutRow : OpenClaim := { program := "ytlnhlnnfppcpjaa", sum := "df49e1f7c8445ae13f2d743814388925b524a2745aff3247b378aed93d4aa1ea", func := "loop.example/drawnanew/laws.FnStorePut", spec := "fnStorePut", apart := false }
def FnStorePutSaid : Prop := fnStorePutRow.holds Try.pinned (OpenSpec.ofChange fnStorePutSpec)

/-- ITS FALSE NEIGHBOUR: 'it returns false'. Refute it at one input. -/
def fnStorePutWrong : ChangeSpec := { name := "fnStorePut", fn := fun _ => fun
  | [d] => { results := [.lit (.bool false)], args := [d] }
  | _ => none }
def FnStorePutWrongFalsely : Prop := fnStorePutRow.holds Try.pinned (OpenSpec.ofChange fnStorePutWrong)

/- THE SECOND FORM. 'bulk': how many values and letters a reading holds, each counted each time it is reached (what is shared counts as often as it is met; a slice's spare places count too). A statement '..UptoSaid' is the law's where the arguments, and the package variables that the reading takes, are together of bulk at most 1048576: NARROWER than '..Said'. Prove '..Said' where nothing that the law and all that it calls make is longer than what came in: it says more and counts as full. Else prove '..UptoSaid'. A law counts once. -/
mutual
def uptoBulk {H : Type} : DataW H → Nat
  | .lit (.string bytes) => bytes.length + 1
  | .lit _ => 1
  | .nil => 1
  | .ptr d => uptoBulk d + 1
  | .slice elems spare => uptoBulkAll elems + uptoBulkAll spare + 1
  | .agg parts => uptoBulkAll parts + 1
  | .iface _ d => uptoBulk d + 1
  | .map entries => uptoBulkEntries entries + 1
  | .held _ => 1
def uptoBulkAll {H : Type} : List (DataW H) → Nat
  | [] => 0
  | d :: r => uptoBulk d + uptoBulkAll r
def uptoBulkEntries {H : Type} : List (Lit × DataW H) → Nat
  | [] => 0
  | x :: r => uptoBulkEntry x + uptoBulkEntries r
def uptoBulkEntry {H : Type} : Lit × DataW H → Nat
  | (.string bytes, d) => bytes.length + uptoBulk d + 1
  | (_, d) => uptoBulk d + 1
 end
def uptoSmall : (H : Type) → List (DataW H) → Bool := fun _ ds => decide (uptoBulkAll ds ≤ 1048576)
def OpenSpec.upto (s : _root_.Go.ChangeSpec) : _root_.Go.OpenSpec := { _root_.Go.OpenSpec.ofChange s with cond := some uptoSmall }

/-- 'laws.FnExactUpdateOk', WHERE WHAT IT READS IS OF BULK AT MOST 1048576: true; the input reads as it did. -/
def fnExactUpdateOkUptoRow : OpenClaim := { program := "ytlnhlnnfppcpjaa", sum := "df49e1f7c8445ae13f2d743814388925b524a2745aff3247b378aed93d4aa1ea", func := "loop.example/drawnanew/laws.FnExactUpdateOk", spec := "fnExactUpdateOk", apart := false, narrowed := true }
def FnExactUpdateOkUptoSaid : Prop := fnExactUpdateOkUptoRow.holds Try.pinned (OpenSpec.upto fnExactUpdateOkSpec)

/-- 'laws.FnStoreGet', WHERE WHAT IT READS IS OF BULK AT MOST 1048576: true; the input reads as it did. -/
def fnStoreGetUptoRow : OpenClaim := { program := "ytlnhlnnfppcpjaa", sum := "df49e1f7c8445ae13f2d743814388925b524a2745aff3247b378aed93d4aa1ea", func := "loop.example/drawnanew/laws.FnStoreGet", spec := "fnStoreGet", apart := false, narrowed := true }
def FnStoreGetUptoSaid : Prop := fnStoreGetUptoRow.holds Try.pinned (OpenSpec.upto fnStoreGetSpec)

/-- 'laws.FnStorePut', WHERE WHAT IT READS IS OF BULK AT MOST 1048576: true; the input reads as it did. -/
def fnStorePutUptoRow : OpenClaim := { program := "ytlnhlnnfppcpjaa", sum := "df49e1f7c8445ae13f2d743814388925b524a2745aff3247b378aed93d4aa1ea", func := "loop.example/drawnanew/laws.FnStorePut", spec := "fnStorePut", apart := false, narrowed := true }
def FnStorePutUptoSaid : Prop := fnStorePutUptoRow.holds Try.pinned (OpenSpec.upto fnStorePutSpec)

end Rows
end Go.Proofs.Ytlnhlnnfppcpjaa

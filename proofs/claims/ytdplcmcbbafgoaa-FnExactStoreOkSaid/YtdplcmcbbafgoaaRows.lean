/-
  No cell of these rows narrows 'for every input' (looked for: loops, veiled, ifaces, maps, wideKeys, modest, calm, conditions, laid).
  DERIVED. THE GIVEN ROWS OF THIS SEAT. 5 by the template 'for every input the law returns true; each argument reads behind the call as it read before'; 0 by the template 'total and deterministic' (their statements: YtdplcmcbbafgoaaTotals.lean).
  GIVEN WITH THE SEED: the statements are not yours to turn. If you find one false, say at which input.
  Laid BY PROGRAM, IN A SANDBOX (cutbox-rows.mjs): the forced cells as the released guide's own fill.sh prints them over the translation 686184d4c464b7ef… (all of the seat's roots in one cut). By AI agents, Wed Nov 11 2026. No macro, syntax, notation, axiom, sorry.
-/
import Derived.Test.YtdplcmcbbafgoaaChecked
import GoSem.Claim
import GoSem.ClaimJoined
import GoSem.ClaimMapViews
import Derived.JoinedTies
import Derived.KernelRfl
namespace Go.Proofs.Ytdplcmcbbafgoaa
/- THE CELL 'sum', in the pinned program and in every row, IS THE sha256 OF THE DUMP (.gsa) THAT YtdplcmcbbafgoaaProg.lean LOADS. Nothing in Lean hashes anything: it is a label: what it is worth is what the hold of that sum in a sandbox is worth. -/
noncomputable def Try.pinned : Pinned := { name := "ytdplcmcbbafgoaa", sum := "686184d4c464b7efeb9251c930362631ccb1a86ac0022bed3c2f3ab61f486880", checked := Try.checked }
namespace Rows
def none {H : Type} : Left H := { results := [], args := [] }

/-- 'laws.FnFormOk': WHATEVER THE INPUT: true; the input reads as it did. -/
def fnFormOkSpec : ChangeSpec := { name := "fnFormOk", fn := fun _ => fun
  | [d] => { results := [.lit (.bool true)], args := [d] }
  | _ => none }
def fnFormOkRow : OpenClaim := { program := "ytdplcmcbbafgoaa", sum := "686184d4c464b7efeb9251c930362631ccb1a86ac0022bed3c2f3ab61f486880", func := "loop.example/drawnanew/laws.FnFormOk", spec := "fnFormOk", recurses := true, apart := false }
def FnFormOkSaid : Prop := fnFormOkRow.holds Try.pinned (OpenSpec.ofChange fnFormOkSpec)

/-- ITS FALSE NEIGHBOUR: 'it returns false'. Refute it at one input. -/
def fnFormOkWrong : ChangeSpec := { name := "fnFormOk", fn := fun _ => fun
  | [d] => { results := [.lit (.bool false)], args := [d] }
  | _ => none }
def FnFormOkWrongFalsely : Prop := fnFormOkRow.holds Try.pinned (OpenSpec.ofChange fnFormOkWrong)

/-- 'laws.FnExactEffectsLive': WHATEVER THE INPUT: true; the input reads as it did. -/
def fnExactEffectsLiveSpec : ChangeSpec := { name := "fnExactEffectsLive", fn := fun _ => fun
  | [d] => { results := [.lit (.bool true)], args := [d] }
  | _ => none }
def fnExactEffectsLiveRow : OpenClaim := { program := "ytdplcmcbbafgoaa", sum := "686184d4c464b7efeb9251c930362631ccb1a86ac0022bed3c2f3ab61f486880", func := "loop.example/drawnanew/laws.FnExactEffectsLive", spec := "fnExactEffectsLive", apart := false }
def FnExactEffectsLiveSaid : Prop := fnExactEffectsLiveRow.holds Try.pinned (OpenSpec.ofChange fnExactEffectsLiveSpec)

/-- ITS FALSE NEIGHBOUR: 'it returns false'. Refute it at one input. -/
def fnExactEffectsLiveWrong : ChangeSpec := { name := "fnExactEffectsLive", fn := fun _ => fun
  | [d] => { results := [.lit (.bool false)], args := [d] }
  | _ => none }
def FnExactEffectsLiveWrongFalsely : Prop := fnExactEffectsLiveRow.holds Try.pinned (OpenSpec.ofChange fnExactEffectsLiveWrong)

/-- 'laws.FnStoreOk': WHATEVER THE INPUT: true; the input reads as it did. -/
def fnStoreOkSpec : ChangeSpec := { name := "fnStoreOk", fn := fun _ => fun
  | [d] => { results := [.lit (.bool true)], args := [d] }
  | _ => none }
def fnStoreOkRow : OpenClaim := { program := "ytdplcmcbbafgoaa", sum := "686184d4c464b7efeb9251c930362631ccb1a86ac0022bed3c2f3ab61f486880", func := "loop.example/drawnanew/laws.FnStoreOk", spec := "fnStoreOk", apart := false }
def FnStoreOkSaid : Prop := fnStoreOkRow.holds Try.pinned (OpenSpec.ofChange fnStoreOkSpec)

/-- ITS FALSE NEIGHBOUR: 'it returns false'. Refute it at one input. -/
def fnStoreOkWrong : ChangeSpec := { name := "fnStoreOk", fn := fun _ => fun
  | [d] => { results := [.lit (.bool false)], args := [d] }
  | _ => none }
def FnStoreOkWrongFalsely : Prop := fnStoreOkRow.holds Try.pinned (OpenSpec.ofChange fnStoreOkWrong)

/-- 'laws.FnExactStoreOk': WHATEVER THE INPUT: true; the input reads as it did. -/
def fnExactStoreOkSpec : ChangeSpec := { name := "fnExactStoreOk", fn := fun _ => fun
  | [d] => { results := [.lit (.bool true)], args := [d] }
  | _ => none }
def fnExactStoreOkRow : OpenClaim := { program := "ytdplcmcbbafgoaa", sum := "686184d4c464b7efeb9251c930362631ccb1a86ac0022bed3c2f3ab61f486880", func := "loop.example/drawnanew/laws.FnExactStoreOk", spec := "fnExactStoreOk", apart := false }
def FnExactStoreOkSaid : Prop := fnExactStoreOkRow.holds Try.pinned (OpenSpec.ofChange fnExactStoreOkSpec)

/-- ITS FALSE NEIGHBOUR: 'it returns false'. Refute it at one input. -/
def fnExactStoreOkWrong : ChangeSpec := { name := "fnExactStoreOk", fn := fun _ => fun
  | [d] => { results := [.lit (.bool false)], args := [d] }
  | _ => none }
def FnExactStoreOkWrongFalsely : Prop := fnExactStoreOkRow.holds Try.pinned (OpenSpec.ofChange fnExactStoreOkWrong)

/-- 'laws.FnStoreCut': WHATEVER THE INPUT: true; the input reads as it did. -/
def fnStoreCutSpec : ChangeSpec := { name := "fnStoreCut", fn := fun _ => fun
  | [d] => { results := [.lit (.bool true)], args := [d] }
  | _ => none }
def fnStoreCutRow : OpenClaim := { program := "ytdplcmcbbafgoaa", sum := "686184d4c464b7efeb9251c930362631ccb1a86ac0022bed3c2f3ab61f486880", func := "loop.example/drawnanew/laws.FnStoreCut", spec := "fnStoreCut", apart := false }
def FnStoreCutSaid : Prop := fnStoreCutRow.holds Try.pinned (OpenSpec.ofChange fnStoreCutSpec)

/-- ITS FALSE NEIGHBOUR: 'it returns false'. Refute it at one input. -/
def fnStoreCutWrong : ChangeSpec := { name := "fnStoreCut", fn := fun _ => fun
  | [d] => { results := [.lit (.bool false)], args := [d] }
  | _ => none }
def FnStoreCutWrongFalsely : Prop := fnStoreCutRow.holds Try.pinned (OpenSpec.ofChange fnStoreCutWrong)

/- THE SECOND FORM. 'bulk': how many values and letters a reading holds, each counted each time it is reached (what is shared counts as often as it is met; a slice's spare places count too). A statement '..UptoSaid' is the law's where the arguments, and the package variables that the reading takes, are together of bulk at most 1048576: NARROWER than '..Said'. Prove '..Said' where nothing that the law and all that it calls make is longer than what came in: it says more and counts as full. Else prove '..UptoSaid'. A law counts once. -/
mutual
def uptoBulk {H : Type} : DataW H → Nat
  | .lit (.string bytes) => bytes.length + 1
  | .lit _ => 1
  | .nil => 1
  | .ptr d => uptoBulk d + 1
  | .slice elems spare => uptoBulkAll elems + uptoBulkAll spare + 1
  | .agg parts => uptoBulkAll parts + 1
  | .iface _ d => uptoBulk d + 1
  | .map entries => uptoBulkEntries entries + 1
  | .held _ => 1
def uptoBulkAll {H : Type} : List (DataW H) → Nat
  | [] => 0
  | d :: r => uptoBulk d + uptoBulkAll r
def uptoBulkEntries {H : Type} : List (Lit × DataW H) → Nat
  | [] => 0
  | x :: r => uptoBulkEntry x + uptoBulkEntries r
def uptoBulkEntry {H : Type} : Lit × DataW H → Nat
  | (.string bytes, d) => bytes.length + uptoBulk d + 1
  | (_, d) => uptoBulk d + 1
 end
def uptoSmall : (H : Type) → List (DataW H) → Bool := fun _ ds => decide (uptoBulkAll ds ≤ 1048576)
def OpenSpec.upto (s : _root_.Go.ChangeSpec) : _root_.Go.OpenSpec := { _root_.Go.OpenSpec.ofChange s with cond := some uptoSmall }

/-- 'laws.FnFormOk', WHERE WHAT IT READS IS OF BULK AT MOST 1048576: true; the input reads as it did. -/
def fnFormOkUptoRow : OpenClaim := { program := "ytdplcmcbbafgoaa", sum := "686184d4c464b7efeb9251c930362631ccb1a86ac0022bed3c2f3ab61f486880", func := "loop.example/drawnanew/laws.FnFormOk", spec := "fnFormOk", recurses := true, apart := false, narrowed := true }
def FnFormOkUptoSaid : Prop := fnFormOkUptoRow.holds Try.pinned (OpenSpec.upto fnFormOkSpec)

/-- 'laws.FnExactEffectsLive', WHERE WHAT IT READS IS OF BULK AT MOST 1048576: true; the input reads as it did. -/
def fnExactEffectsLiveUptoRow : OpenClaim := { program := "ytdplcmcbbafgoaa", sum := "686184d4c464b7efeb9251c930362631ccb1a86ac0022bed3c2f3ab61f486880", func := "loop.example/drawnanew/laws.FnExactEffectsLive", spec := "fnExactEffectsLive", apart := false, narrowed := true }
def FnExactEffectsLiveUptoSaid : Prop := fnExactEffectsLiveUptoRow.holds Try.pinned (OpenSpec.upto fnExactEffectsLiveSpec)

/-- 'laws.FnStoreOk', WHERE WHAT IT READS IS OF BULK AT MOST 1048576: true; the input reads as it did. -/
def fnStoreOkUptoRow : OpenClaim := { program := "ytdplcmcbbafgoaa", sum := "686184d4c464b7efeb9251c930362631ccb1a86ac0022bed3c2f3ab61f486880", func := "loop.example/drawnanew/laws.FnStoreOk", spec := "fnStoreOk", apart := false, narrowed := true }
def FnStoreOkUptoSaid : Prop := fnStoreOkUptoRow.holds Try.pinned (OpenSpec.upto fnStoreOkSpec)

/-- 'laws.FnExactStoreOk', WHERE WHAT IT READS IS OF BULK AT MOST 1048576: true; the input reads as it did. -/
def fnExactStoreOkUptoRow : OpenClaim := { program := "ytdplcmcbbafgoaa", sum := "686184d4c464b7efeb9251c930362631ccb1a86ac0022bed3c2f3ab61f486880", func := "loop.example/drawnanew/laws.FnExactStoreOk", spec := "fnExactStoreOk", apart := false, narrowed := true }
def FnExactStoreOkUptoSaid : Prop := fnExactStoreOkUptoRow.holds Try.pinned (OpenSpec.upto fnExactStoreOkSpec)

/-- 'laws.FnStoreCut', WHERE WHAT IT READS IS OF BULK AT MOST 1048576: true; the input reads as it did. -/
def fnStoreCutUptoRow : OpenClaim := { program := "ytdplcmcbbafgoaa", sum := "686184d4c464b7efeb9251c930362631ccb1a86ac0022bed3c2f3ab61f486880", func := "loop.example/drawnanew/laws.FnStoreCut", spec := "fnStoreCut", apart := false, narrowed := true }
def FnStoreCutUptoSaid : Prop := fnStoreCutUptoRow.holds Try.pinned (OpenSpec.upto fnStoreCutSpec)

end Rows
end Go.Proofs.Ytdplcmcbbafgoaa

/-
  DERIVED. GIVEN WITH THE SEED: THE CARDS: each row of YthbodcpgdllegaaDoorRows.lean that lists a variable, with what it lists TIED to the program's text (the seventh form; the later family's looks); each row that meets fmt, with fmt's text TOLD by the authors' own Lean function (tested against real Go, not proved from fmt's source: count such statements apart). THE CARD IS WHAT COUNTS. Prove the row's statement (the work); the ties are given (YthbodcpgdllegaaDoorTie.lean); close each card by the builder's one call (the guide's Derived/Test/ToyasCard.lean, 'card_holds'). Laid BY PROGRAM, IN A SANDBOX (cutbox-door.mjs). By AI agents, Wed Nov 11 2026. No macro, syntax, notation, axiom, sorry.
-/
import Derived.Test.YthbodcpgdllegaaDoorRows
import GoSem.ClaimSeven
namespace Go.Proofs.YthbodcpgdllegaaDoor
namespace Rows

/-- THE TIED CARD OF 'laws.FnExactValShow'. -/
def fnExactValShowCard : Claim7 := { stood := { row := fnExactValShowRow, standIns := [], harness := (true, "ca047e5509c0a028a6e6e50087c4166ca7151bb4ab61444218dcb045bdd3f345"), looks := false }, kinds := [], alts := [], laidByText := true, laidKinds := [.data, .data, .data], laidTests := true, laidLooks := .later }
def FnExactValShowCardSaid : Prop := Claim7.holds Tryd.pinned (.plain (OpenSpec.ofChange fnExactValShowSpec)) fnExactValShowCard

/-- THE TIED CARD OF 'laws.FnValOk'. -/
def fnValOkCard : Claim7 := { stood := { row := fnValOkRow, standIns := [], harness := (true, "ca047e5509c0a028a6e6e50087c4166ca7151bb4ab61444218dcb045bdd3f345"), looks := false }, kinds := [], alts := [], laidByText := true, laidKinds := [.data, .data, .data], laidTests := true, laidLooks := .later }
def FnValOkCardSaid : Prop := Claim7.holds Tryd.pinned (.plain (OpenSpec.ofChange fnValOkSpec)) fnValOkCard

/-- THE TIED CARD OF 'laws.FnValTrue'. -/
def fnValTrueCard : Claim7 := { stood := { row := fnValTrueRow, standIns := [], harness := (true, "ca047e5509c0a028a6e6e50087c4166ca7151bb4ab61444218dcb045bdd3f345"), looks := false }, kinds := [], alts := [], laidByText := true, laidKinds := [.data, .data, .data], laidTests := true, laidLooks := .later }
def FnValTrueCardSaid : Prop := Claim7.holds Tryd.pinned (.plain (OpenSpec.ofChange fnValTrueSpec)) fnValTrueCard

/-- THE TIED CARD OF 'laws.FnValShow'. -/
def fnValShowCard : Claim7 := { stood := { row := fnValShowRow, standIns := [], harness := (true, "ca047e5509c0a028a6e6e50087c4166ca7151bb4ab61444218dcb045bdd3f345"), looks := false }, kinds := [], alts := [], laidByText := true, laidKinds := [.data, .data, .data], laidTests := true, laidLooks := .later }
def FnValShowCardSaid : Prop := Claim7.holds Tryd.pinned (.plain (OpenSpec.ofChange fnValShowSpec)) fnValShowCard

/-- THE TIED CARD OF 'laws.FnExactValDo'. -/
def fnExactValDoCard : Claim7 := { stood := { row := fnExactValDoRow, standIns := [], harness := (true, "ca047e5509c0a028a6e6e50087c4166ca7151bb4ab61444218dcb045bdd3f345"), looks := false }, kinds := [], alts := [], laidByText := true, laidKinds := [.data, .data, .data], laidTests := true, laidLooks := .later }
def FnExactValDoCardSaid : Prop := Claim7.holds Tryd.pinned (.plain (OpenSpec.ofChange fnExactValDoSpec)) fnExactValDoCard

/-- THE TIED CARD OF 'laws.FnValDo'. -/
def fnValDoCard : Claim7 := { stood := { row := fnValDoRow, standIns := [], harness := (true, "ca047e5509c0a028a6e6e50087c4166ca7151bb4ab61444218dcb045bdd3f345"), looks := false }, kinds := [], alts := [], laidByText := true, laidKinds := [.data, .data, .data], laidTests := true, laidLooks := .later }
def FnValDoCardSaid : Prop := Claim7.holds Tryd.pinned (.plain (OpenSpec.ofChange fnValDoSpec)) fnValDoCard

/-- THE SECOND FORM's CARD OF 'laws.FnExactValShow'. -/
def fnExactValShowUptoCard : Claim7 := { stood := { row := fnExactValShowUptoRow, standIns := [], harness := (true, "ca047e5509c0a028a6e6e50087c4166ca7151bb4ab61444218dcb045bdd3f345"), looks := false }, kinds := [], alts := [], laidByText := true, laidKinds := [.data, .data, .data], laidTests := true, laidLooks := .later }
def FnExactValShowUptoCardSaid : Prop := Claim7.holds Tryd.pinned (.plain (OpenSpec.upto fnExactValShowSpec)) fnExactValShowUptoCard

/-- THE SECOND FORM's CARD OF 'laws.FnValOk'. -/
def fnValOkUptoCard : Claim7 := { stood := { row := fnValOkUptoRow, standIns := [], harness := (true, "ca047e5509c0a028a6e6e50087c4166ca7151bb4ab61444218dcb045bdd3f345"), looks := false }, kinds := [], alts := [], laidByText := true, laidKinds := [.data, .data, .data], laidTests := true, laidLooks := .later }
def FnValOkUptoCardSaid : Prop := Claim7.holds Tryd.pinned (.plain (OpenSpec.upto fnValOkSpec)) fnValOkUptoCard

/-- THE SECOND FORM's CARD OF 'laws.FnValTrue'. -/
def fnValTrueUptoCard : Claim7 := { stood := { row := fnValTrueUptoRow, standIns := [], harness := (true, "ca047e5509c0a028a6e6e50087c4166ca7151bb4ab61444218dcb045bdd3f345"), looks := false }, kinds := [], alts := [], laidByText := true, laidKinds := [.data, .data, .data], laidTests := true, laidLooks := .later }
def FnValTrueUptoCardSaid : Prop := Claim7.holds Tryd.pinned (.plain (OpenSpec.upto fnValTrueSpec)) fnValTrueUptoCard

/-- THE SECOND FORM's CARD OF 'laws.FnValShow'. -/
def fnValShowUptoCard : Claim7 := { stood := { row := fnValShowUptoRow, standIns := [], harness := (true, "ca047e5509c0a028a6e6e50087c4166ca7151bb4ab61444218dcb045bdd3f345"), looks := false }, kinds := [], alts := [], laidByText := true, laidKinds := [.data, .data, .data], laidTests := true, laidLooks := .later }
def FnValShowUptoCardSaid : Prop := Claim7.holds Tryd.pinned (.plain (OpenSpec.upto fnValShowSpec)) fnValShowUptoCard

/-- THE SECOND FORM's CARD OF 'laws.FnExactValDo'. -/
def fnExactValDoUptoCard : Claim7 := { stood := { row := fnExactValDoUptoRow, standIns := [], harness := (true, "ca047e5509c0a028a6e6e50087c4166ca7151bb4ab61444218dcb045bdd3f345"), looks := false }, kinds := [], alts := [], laidByText := true, laidKinds := [.data, .data, .data], laidTests := true, laidLooks := .later }
def FnExactValDoUptoCardSaid : Prop := Claim7.holds Tryd.pinned (.plain (OpenSpec.upto fnExactValDoSpec)) fnExactValDoUptoCard

/-- THE SECOND FORM's CARD OF 'laws.FnValDo'. -/
def fnValDoUptoCard : Claim7 := { stood := { row := fnValDoUptoRow, standIns := [], harness := (true, "ca047e5509c0a028a6e6e50087c4166ca7151bb4ab61444218dcb045bdd3f345"), looks := false }, kinds := [], alts := [], laidByText := true, laidKinds := [.data, .data, .data], laidTests := true, laidLooks := .later }
def FnValDoUptoCardSaid : Prop := Claim7.holds Tryd.pinned (.plain (OpenSpec.upto fnValDoSpec)) fnValDoUptoCard
end Rows
end Go.Proofs.YthbodcpgdllegaaDoor

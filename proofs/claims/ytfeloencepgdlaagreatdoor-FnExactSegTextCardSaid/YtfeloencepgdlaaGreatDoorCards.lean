/-
  DERIVED. GIVEN WITH THE SEED: THE CARDS: each row of YtfeloencepgdlaaGreatDoorRows.lean that lists a variable, with what it lists TIED to the program's text (the seventh form; the later family's looks); each row that meets fmt, with fmt's text TOLD by the authors' own Lean function (tested against real Go, not proved from fmt's source: count such statements apart). THE CARD IS WHAT COUNTS. Prove the row's statement (the work); the ties are given (YtfeloencepgdlaaGreatDoorTie.lean); close each card by the builder's one call (the guide's Derived/Test/ToyasCard.lean, 'card_holds'). Laid BY PROGRAM, IN A SANDBOX (cutbox-door.mjs). By AI agents, Wed Nov 11 2026. No macro, syntax, notation, axiom, sorry.
-/
import Derived.Test.YtfeloencepgdlaaGreatDoorRows
import GoSem.ClaimSeven
namespace Go.Proofs.YtfeloencepgdlaaGreatDoor
namespace Rows

/-- THE TIED CARD OF 'laws.FnExactSegText'. -/
def fnExactSegTextCard : Claim7 := { stood := { row := fnExactSegTextRow, standIns := [], harness := (true, "41a0f374b3dd26bd952da768d3f093948a4bd236fc68413cf9709ef183ab2a24"), looks := true }, kinds := [], alts := [], laidByText := true, laidKinds := [.data, .data, .data, .sentinel, .sentinel, .data], laidTests := true, laidLooks := .later }
def FnExactSegTextCardSaid : Prop := Claim7.holds Tryz.pinned (.plain (OpenSpec.ofChange fnExactSegTextSpec)) fnExactSegTextCard

/-- THE SECOND FORM's CARD OF 'laws.FnExactSegText'. -/
def fnExactSegTextUptoCard : Claim7 := { stood := { row := fnExactSegTextUptoRow, standIns := [], harness := (true, "41a0f374b3dd26bd952da768d3f093948a4bd236fc68413cf9709ef183ab2a24"), looks := true }, kinds := [], alts := [], laidByText := true, laidKinds := [.data, .data, .data, .sentinel, .sentinel, .data], laidTests := true, laidLooks := .later }
def FnExactSegTextUptoCardSaid : Prop := Claim7.holds Tryz.pinned (.plain (OpenSpec.upto fnExactSegTextSpec)) fnExactSegTextUptoCard
end Rows
end Go.Proofs.YtfeloencepgdlaaGreatDoor

/-
  DERIVED. GIVEN WITH THE SEED: THE CARDS: each row of YtcdeojfeebmonaaDoorRows.lean that lists a variable, with what it lists TIED to the program's text (the seventh form; the later family's looks); each row that meets fmt, with fmt's text TOLD by the authors' own Lean function (tested against real Go, not proved from fmt's source: count such statements apart). THE CARD IS WHAT COUNTS. Prove the row's statement (the work); the ties are given (YtcdeojfeebmonaaDoorTie.lean); close each card by the builder's one call (the guide's Derived/Test/ToyasCard.lean, 'card_holds'). Laid BY PROGRAM, IN A SANDBOX (cutbox-door.mjs). By AI agents, Wed Nov 11 2026. No macro, syntax, notation, axiom, sorry.
-/
import Derived.Test.YtcdeojfeebmonaaDoorRows
import GoSem.ClaimSeven
namespace Go.Proofs.YtcdeojfeebmonaaDoor
namespace Rows

/-- THE TIED CARD OF 'laws.FnExactSegLeq'. -/
def fnExactSegLeqCard : Claim7 := { stood := { row := fnExactSegLeqRow, standIns := [], harness := (true, "d13da768ee2cbb741d93845f8708ef01de5ac941da3ced9027a6144c2c163236"), looks := false }, kinds := [], alts := [], laidByText := true, laidKinds := [.data, .data], laidTests := true, laidLooks := .later }
def FnExactSegLeqCardSaid : Prop := Claim7.holds Tryd.pinned (.plain (OpenSpec.ofChange fnExactSegLeqSpec)) fnExactSegLeqCard

/-- THE SECOND FORM's CARD OF 'laws.FnExactSegLeq'. -/
def fnExactSegLeqUptoCard : Claim7 := { stood := { row := fnExactSegLeqUptoRow, standIns := [], harness := (true, "d13da768ee2cbb741d93845f8708ef01de5ac941da3ced9027a6144c2c163236"), looks := false }, kinds := [], alts := [], laidByText := true, laidKinds := [.data, .data], laidTests := true, laidLooks := .later }
def FnExactSegLeqUptoCardSaid : Prop := Claim7.holds Tryd.pinned (.plain (OpenSpec.upto fnExactSegLeqSpec)) fnExactSegLeqUptoCard
end Rows
end Go.Proofs.YtcdeojfeebmonaaDoor

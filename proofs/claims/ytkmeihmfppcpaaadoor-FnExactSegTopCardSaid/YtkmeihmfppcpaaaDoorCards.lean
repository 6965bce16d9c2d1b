/-
  DERIVED. GIVEN WITH THE SEED: THE CARDS: each row of YtkmeihmfppcpaaaDoorRows.lean that lists a variable, with what it lists TIED to the program's text (the seventh form; the later family's looks); each row that meets fmt, with fmt's text TOLD by the authors' own Lean function (tested against real Go, not proved from fmt's source: count such statements apart). THE CARD IS WHAT COUNTS. Prove the row's statement (the work); the ties are given (YtkmeihmfppcpaaaDoorTie.lean); close each card by the builder's one call (the guide's Derived/Test/ToyasCard.lean, 'card_holds'). Laid BY PROGRAM, IN A SANDBOX (cutbox-door.mjs). By AI agents, Wed Nov 11 2026. No macro, syntax, notation, axiom, sorry.
-/
import Derived.Test.YtkmeihmfppcpaaaDoorRows
import GoSem.ClaimSeven
namespace Go.Proofs.YtkmeihmfppcpaaaDoor
namespace Rows

/-- THE TIED CARD OF 'laws.FnExactSegTop'. -/
def fnExactSegTopCard : Claim7 := { stood := { row := fnExactSegTopRow, standIns := [], harness := (true, "d08adcc890381532fc63ff47daecd84fd413bbfdebeae4950cec78712567e7e8"), looks := false }, kinds := [], alts := [], laidByText := true, laidKinds := [.data], laidTests := true, laidLooks := .later }
def FnExactSegTopCardSaid : Prop := Claim7.holds Tryd.pinned (.plain (OpenSpec.ofChange fnExactSegTopSpec)) fnExactSegTopCard

/-- THE SECOND FORM's CARD OF 'laws.FnExactSegTop'. -/
def fnExactSegTopUptoCard : Claim7 := { stood := { row := fnExactSegTopUptoRow, standIns := [], harness := (true, "d08adcc890381532fc63ff47daecd84fd413bbfdebeae4950cec78712567e7e8"), looks := false }, kinds := [], alts := [], laidByText := true, laidKinds := [.data], laidTests := true, laidLooks := .later }
def FnExactSegTopUptoCardSaid : Prop := Claim7.holds Tryd.pinned (.plain (OpenSpec.upto fnExactSegTopSpec)) fnExactSegTopUptoCard
end Rows
end Go.Proofs.YtkmeihmfppcpaaaDoor

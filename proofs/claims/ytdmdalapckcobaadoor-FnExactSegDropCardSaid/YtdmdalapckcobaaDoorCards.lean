/-
  DERIVED. GIVEN WITH THE SEED: THE CARDS: each row of YtdmdalapckcobaaDoorRows.lean that lists a variable, with what it lists TIED to the program's text (the seventh form; the later family's looks); each row that meets fmt, with fmt's text TOLD by the authors' own Lean function (tested against real Go, not proved from fmt's source: count such statements apart). THE CARD IS WHAT COUNTS. Prove the row's statement (the work); the ties are given (YtdmdalapckcobaaDoorTie.lean); close each card by the builder's one call (the guide's Derived/Test/ToyasCard.lean, 'card_holds'). Laid BY PROGRAM, IN A SANDBOX (cutbox-door.mjs). By AI agents, Wed Nov 11 2026. No macro, syntax, notation, axiom, sorry.
-/
import Derived.Test.YtdmdalapckcobaaDoorRows
import GoSem.ClaimSeven
namespace Go.Proofs.YtdmdalapckcobaaDoor
namespace Rows

/-- THE TIED CARD OF 'laws.FnExactSegDrop'. -/
def fnExactSegDropCard : Claim7 := { stood := { row := fnExactSegDropRow, standIns := [], harness := (true, "d2b1a67630172d4659f0c6181380a94c9fb5118219943cf2462fb15b6d064706"), looks := false }, kinds := [], alts := [], laidByText := true, laidKinds := [.data, .data], laidTests := true, laidLooks := .later }
def FnExactSegDropCardSaid : Prop := Claim7.holds Tryd.pinned (.plain (OpenSpec.ofChange fnExactSegDropSpec)) fnExactSegDropCard

/-- THE TIED CARD OF 'laws.FnSegDropped'. -/
def fnSegDroppedCard : Claim7 := { stood := { row := fnSegDroppedRow, standIns := [], harness := (true, "d2b1a67630172d4659f0c6181380a94c9fb5118219943cf2462fb15b6d064706"), looks := false }, kinds := [], alts := [], laidByText := true, laidKinds := [.data, .data], laidTests := true, laidLooks := .later }
def FnSegDroppedCardSaid : Prop := Claim7.holds Tryd.pinned (.plain (OpenSpec.ofChange fnSegDroppedSpec)) fnSegDroppedCard

/-- THE SECOND FORM's CARD OF 'laws.FnExactSegDrop'. -/
def fnExactSegDropUptoCard : Claim7 := { stood := { row := fnExactSegDropUptoRow, standIns := [], harness := (true, "d2b1a67630172d4659f0c6181380a94c9fb5118219943cf2462fb15b6d064706"), looks := false }, kinds := [], alts := [], laidByText := true, laidKinds := [.data, .data], laidTests := true, laidLooks := .later }
def FnExactSegDropUptoCardSaid : Prop := Claim7.holds Tryd.pinned (.plain (OpenSpec.upto fnExactSegDropSpec)) fnExactSegDropUptoCard

/-- THE SECOND FORM's CARD OF 'laws.FnSegDropped'. -/
def fnSegDroppedUptoCard : Claim7 := { stood := { row := fnSegDroppedUptoRow, standIns := [], harness := (true, "d2b1a67630172d4659f0c6181380a94c9fb5118219943cf2462fb15b6d064706"), looks := false }, kinds := [], alts := [], laidByText := true, laidKinds := [.data, .data], laidTests := true, laidLooks := .later }
def FnSegDroppedUptoCardSaid : Prop := Claim7.holds Tryd.pinned (.plain (OpenSpec.upto fnSegDroppedSpec)) fnSegDroppedUptoCard
end Rows
end Go.Proofs.YtdmdalapckcobaaDoor

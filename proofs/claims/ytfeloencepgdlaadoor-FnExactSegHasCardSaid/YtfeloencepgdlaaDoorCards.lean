/-
  DERIVED. GIVEN WITH THE SEED: THE CARDS: each row of YtfeloencepgdlaaDoorRows.lean that lists a variable, with what it lists TIED to the program's text (the seventh form; the later family's looks); each row that meets fmt, with fmt's text TOLD by the authors' own Lean function (tested against real Go, not proved from fmt's source: count such statements apart). THE CARD IS WHAT COUNTS. Prove the row's statement (the work); the ties are given (YtfeloencepgdlaaDoorTie.lean); close each card by the builder's one call (the guide's Derived/Test/ToyasCard.lean, 'card_holds'). Laid BY PROGRAM, IN A SANDBOX (cutbox-door.mjs). By AI agents, Wed Nov 11 2026. No macro, syntax, notation, axiom, sorry.
-/
import Derived.Test.YtfeloencepgdlaaDoorRows
import GoSem.ClaimSeven
namespace Go.Proofs.YtfeloencepgdlaaDoor
namespace Rows

/-- THE TIED CARD OF 'laws.FnExactSegOk'. -/
def fnExactSegOkCard : Claim7 := { stood := { row := fnExactSegOkRow, standIns := [], harness := (true, "4ff79172f30eb3ddf67581aea4a9b3efb2cc79c10924cc2e81c73948debd7b25"), looks := false }, kinds := [], alts := [], laidByText := true, laidKinds := [.data], laidTests := true, laidLooks := .later }
def FnExactSegOkCardSaid : Prop := Claim7.holds Tryd.pinned (.plain (OpenSpec.ofChange fnExactSegOkSpec)) fnExactSegOkCard

/-- THE TIED CARD OF 'laws.FnExactSegHas'. -/
def fnExactSegHasCard : Claim7 := { stood := { row := fnExactSegHasRow, standIns := [], harness := (true, "4ff79172f30eb3ddf67581aea4a9b3efb2cc79c10924cc2e81c73948debd7b25"), looks := false }, kinds := [], alts := [], laidByText := true, laidKinds := [.data], laidTests := true, laidLooks := .later }
def FnExactSegHasCardSaid : Prop := Claim7.holds Tryd.pinned (.plain (OpenSpec.ofChange fnExactSegHasSpec)) fnExactSegHasCard

/-- THE TIED CARD OF 'laws.FnExactSegLeq'. -/
def fnExactSegLeqCard : Claim7 := { stood := { row := fnExactSegLeqRow, standIns := [], harness := (true, "4ff79172f30eb3ddf67581aea4a9b3efb2cc79c10924cc2e81c73948debd7b25"), looks := false }, kinds := [], alts := [], laidByText := true, laidKinds := [.data, .data], laidTests := true, laidLooks := .later }
def FnExactSegLeqCardSaid : Prop := Claim7.holds Tryd.pinned (.plain (OpenSpec.ofChange fnExactSegLeqSpec)) fnExactSegLeqCard

/-- THE SECOND FORM's CARD OF 'laws.FnExactSegOk'. -/
def fnExactSegOkUptoCard : Claim7 := { stood := { row := fnExactSegOkUptoRow, standIns := [], harness := (true, "4ff79172f30eb3ddf67581aea4a9b3efb2cc79c10924cc2e81c73948debd7b25"), looks := false }, kinds := [], alts := [], laidByText := true, laidKinds := [.data], laidTests := true, laidLooks := .later }
def FnExactSegOkUptoCardSaid : Prop := Claim7.holds Tryd.pinned (.plain (OpenSpec.upto fnExactSegOkSpec)) fnExactSegOkUptoCard

/-- THE SECOND FORM's CARD OF 'laws.FnExactSegHas'. -/
def fnExactSegHasUptoCard : Claim7 := { stood := { row := fnExactSegHasUptoRow, standIns := [], harness := (true, "4ff79172f30eb3ddf67581aea4a9b3efb2cc79c10924cc2e81c73948debd7b25"), looks := false }, kinds := [], alts := [], laidByText := true, laidKinds := [.data], laidTests := true, laidLooks := .later }
def FnExactSegHasUptoCardSaid : Prop := Claim7.holds Tryd.pinned (.plain (OpenSpec.upto fnExactSegHasSpec)) fnExactSegHasUptoCard

/-- THE SECOND FORM's CARD OF 'laws.FnExactSegLeq'. -/
def fnExactSegLeqUptoCard : Claim7 := { stood := { row := fnExactSegLeqUptoRow, standIns := [], harness := (true, "4ff79172f30eb3ddf67581aea4a9b3efb2cc79c10924cc2e81c73948debd7b25"), looks := false }, kinds := [], alts := [], laidByText := true, laidKinds := [.data, .data], laidTests := true, laidLooks := .later }
def FnExactSegLeqUptoCardSaid : Prop := Claim7.holds Tryd.pinned (.plain (OpenSpec.upto fnExactSegLeqSpec)) fnExactSegLeqUptoCard
end Rows
end Go.Proofs.YtfeloencepgdlaaDoor

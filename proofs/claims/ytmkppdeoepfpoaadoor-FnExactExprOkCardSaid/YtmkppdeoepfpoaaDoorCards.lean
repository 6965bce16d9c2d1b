/-
  DERIVED. GIVEN WITH THE SEED: THE CARDS: each row of YtmkppdeoepfpoaaDoorRows.lean that lists a variable, with what it lists TIED to the program's text (the seventh form; the later family's looks); each row that meets fmt, with fmt's text TOLD by the authors' own Lean function (tested against real Go, not proved from fmt's source: count such statements apart). THE CARD IS WHAT COUNTS. Prove the row's statement (the work); the ties are given (YtmkppdeoepfpoaaDoorTie.lean); close each card by the builder's one call (the guide's Derived/Test/ToyasCard.lean, 'card_holds'). Laid BY PROGRAM, IN A SANDBOX (cutbox-door.mjs). By AI agents, Wed Nov 11 2026. No macro, syntax, notation, axiom, sorry.
-/
import Derived.Test.YtmkppdeoepfpoaaDoorRows
import GoSem.ClaimSeven
namespace Go.Proofs.YtmkppdeoepfpoaaDoor
namespace Rows

/-- THE TIED CARD OF 'laws.FnExactSymRead'. -/
def fnExactSymReadCard : Claim7 := { stood := { row := fnExactSymReadRow, standIns := [], harness := (true, "2f4318e9745a7b2ae2afabdac8184922b2c6751e58a58e76a4ccbfc2fcc9b1ef"), looks := true }, kinds := [], alts := [], laidByText := true, laidKinds := [.data, .data, .data, .sentinel, .sentinel], laidTests := true, laidLooks := .later }
def FnExactSymReadCardSaid : Prop := Claim7.holds Tryd.pinned (.plain (OpenSpec.ofChange fnExactSymReadSpec)) fnExactSymReadCard

/-- THE TIED CARD OF 'laws.FnExactExprOk'. -/
def fnExactExprOkCard : Claim7 := { stood := { row := fnExactExprOkRow, standIns := [], harness := (true, "2f4318e9745a7b2ae2afabdac8184922b2c6751e58a58e76a4ccbfc2fcc9b1ef"), looks := true }, kinds := [], alts := [], laidByText := true, laidKinds := [.data, .data, .data, .sentinel, .sentinel], laidTests := true, laidLooks := .later }
def FnExactExprOkCardSaid : Prop := Claim7.holds Tryd.pinned (.plain (OpenSpec.ofChange fnExactExprOkSpec)) fnExactExprOkCard

/-- THE TIED CARD OF 'laws.FnExactCondOk'. -/
def fnExactCondOkCard : Claim7 := { stood := { row := fnExactCondOkRow, standIns := [], harness := (true, "2f4318e9745a7b2ae2afabdac8184922b2c6751e58a58e76a4ccbfc2fcc9b1ef"), looks := true }, kinds := [], alts := [], laidByText := true, laidKinds := [.data, .data, .data, .sentinel, .sentinel], laidTests := true, laidLooks := .later }
def FnExactCondOkCardSaid : Prop := Claim7.holds Tryd.pinned (.plain (OpenSpec.ofChange fnExactCondOkSpec)) fnExactCondOkCard

/-- THE SECOND FORM's CARD OF 'laws.FnExactSymRead'. -/
def fnExactSymReadUptoCard : Claim7 := { stood := { row := fnExactSymReadUptoRow, standIns := [], harness := (true, "2f4318e9745a7b2ae2afabdac8184922b2c6751e58a58e76a4ccbfc2fcc9b1ef"), looks := true }, kinds := [], alts := [], laidByText := true, laidKinds := [.data, .data, .data, .sentinel, .sentinel], laidTests := true, laidLooks := .later }
def FnExactSymReadUptoCardSaid : Prop := Claim7.holds Tryd.pinned (.plain (OpenSpec.upto fnExactSymReadSpec)) fnExactSymReadUptoCard

/-- THE SECOND FORM's CARD OF 'laws.FnExactExprOk'. -/
def fnExactExprOkUptoCard : Claim7 := { stood := { row := fnExactExprOkUptoRow, standIns := [], harness := (true, "2f4318e9745a7b2ae2afabdac8184922b2c6751e58a58e76a4ccbfc2fcc9b1ef"), looks := true }, kinds := [], alts := [], laidByText := true, laidKinds := [.data, .data, .data, .sentinel, .sentinel], laidTests := true, laidLooks := .later }
def FnExactExprOkUptoCardSaid : Prop := Claim7.holds Tryd.pinned (.plain (OpenSpec.upto fnExactExprOkSpec)) fnExactExprOkUptoCard

/-- THE SECOND FORM's CARD OF 'laws.FnExactCondOk'. -/
def fnExactCondOkUptoCard : Claim7 := { stood := { row := fnExactCondOkUptoRow, standIns := [], harness := (true, "2f4318e9745a7b2ae2afabdac8184922b2c6751e58a58e76a4ccbfc2fcc9b1ef"), looks := true }, kinds := [], alts := [], laidByText := true, laidKinds := [.data, .data, .data, .sentinel, .sentinel], laidTests := true, laidLooks := .later }
def FnExactCondOkUptoCardSaid : Prop := Claim7.holds Tryd.pinned (.plain (OpenSpec.upto fnExactCondOkSpec)) fnExactCondOkUptoCard
end Rows
end Go.Proofs.YtmkppdeoepfpoaaDoor

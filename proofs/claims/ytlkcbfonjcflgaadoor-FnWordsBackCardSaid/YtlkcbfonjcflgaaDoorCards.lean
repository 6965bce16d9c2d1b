/-
  DERIVED. GIVEN WITH THE SEED: THE CARDS: each row of YtlkcbfonjcflgaaDoorRows.lean that lists a variable, with what it lists TIED to the program's text (the seventh form; the later family's looks); each row that meets fmt, with fmt's text TOLD by the authors' own Lean function (tested against real Go, not proved from fmt's source: count such statements apart). THE CARD IS WHAT COUNTS. Prove the row's statement (the work); the ties are given (YtlkcbfonjcflgaaDoorTie.lean); close each card by the builder's one call (the guide's Derived/Test/ToyasCard.lean, 'card_holds'). Laid BY PROGRAM, IN A SANDBOX (cutbox-door.mjs). By AI agents, Wed Nov 11 2026. No macro, syntax, notation, axiom, sorry.
-/
import Derived.Test.YtlkcbfonjcflgaaDoorRows
import GoSem.ClaimSeven
namespace Go.Proofs.YtlkcbfonjcflgaaDoor
namespace Rows

/-- THE TIED CARD OF 'laws.FnExactSymRead'. -/
def fnExactSymReadCard : Claim7 := { stood := { row := fnExactSymReadRow, standIns := [], harness := (true, "78d59cfec7adb6f3ac852b8697612ef8344d8f2b1723b1115958ba26054b002d"), looks := true }, kinds := [], alts := [], laidByText := true, laidKinds := [.data, .data, .data, .sentinel, .sentinel], laidTests := true, laidLooks := .later }
def FnExactSymReadCardSaid : Prop := Claim7.holds Tryd.pinned (.plain (OpenSpec.ofChange fnExactSymReadSpec)) fnExactSymReadCard

/-- THE TIED CARD OF 'laws.FnExactFactsText'. -/
def fnExactFactsTextCard : Claim7 := { stood := { row := fnExactFactsTextRow, standIns := [], harness := (true, "78d59cfec7adb6f3ac852b8697612ef8344d8f2b1723b1115958ba26054b002d"), looks := true }, kinds := [], alts := [], laidByText := true, laidKinds := [.data, .data, .data, .sentinel, .sentinel], laidTests := true, laidLooks := .later }
def FnExactFactsTextCardSaid : Prop := Claim7.holds Tryd.pinned (.plain (OpenSpec.ofChange fnExactFactsTextSpec)) fnExactFactsTextCard

/-- THE TIED CARD OF 'laws.FnExactOrderText'. -/
def fnExactOrderTextCard : Claim7 := { stood := { row := fnExactOrderTextRow, standIns := [], harness := (true, "78d59cfec7adb6f3ac852b8697612ef8344d8f2b1723b1115958ba26054b002d"), looks := true }, kinds := [], alts := [], laidByText := true, laidKinds := [.data, .data, .data], laidTests := true, laidLooks := .later }
def FnExactOrderTextCardSaid : Prop := Claim7.holds Tryd.pinned (.plain (OpenSpec.ofChange fnExactOrderTextSpec)) fnExactOrderTextCard

/-- THE TIED CARD OF 'laws.FnExactExprOk'. -/
def fnExactExprOkCard : Claim7 := { stood := { row := fnExactExprOkRow, standIns := [], harness := (true, "78d59cfec7adb6f3ac852b8697612ef8344d8f2b1723b1115958ba26054b002d"), looks := true }, kinds := [], alts := [], laidByText := true, laidKinds := [.data, .data, .data, .sentinel, .sentinel], laidTests := true, laidLooks := .later }
def FnExactExprOkCardSaid : Prop := Claim7.holds Tryd.pinned (.plain (OpenSpec.ofChange fnExactExprOkSpec)) fnExactExprOkCard

/-- THE TIED CARD OF 'laws.FnExactCondOk'. -/
def fnExactCondOkCard : Claim7 := { stood := { row := fnExactCondOkRow, standIns := [], harness := (true, "78d59cfec7adb6f3ac852b8697612ef8344d8f2b1723b1115958ba26054b002d"), looks := true }, kinds := [], alts := [], laidByText := true, laidKinds := [.data, .data, .data, .sentinel, .sentinel], laidTests := true, laidLooks := .later }
def FnExactCondOkCardSaid : Prop := Claim7.holds Tryd.pinned (.plain (OpenSpec.ofChange fnExactCondOkSpec)) fnExactCondOkCard

/-- THE TIED CARD OF 'laws.FnWordsBack'. -/
def fnWordsBackCard : Claim7 := { stood := { row := fnWordsBackRow, standIns := [], harness := (true, "78d59cfec7adb6f3ac852b8697612ef8344d8f2b1723b1115958ba26054b002d"), looks := true }, kinds := [], alts := [], laidByText := true, laidKinds := [.data, .data, .data, .sentinel, .sentinel], laidTests := true, laidLooks := .later }
def FnWordsBackCardSaid : Prop := Claim7.holds Tryd.pinned (.plain (OpenSpec.ofChange fnWordsBackSpec)) fnWordsBackCard

/-- THE SECOND FORM's CARD OF 'laws.FnExactSymRead'. -/
def fnExactSymReadUptoCard : Claim7 := { stood := { row := fnExactSymReadUptoRow, standIns := [], harness := (true, "78d59cfec7adb6f3ac852b8697612ef8344d8f2b1723b1115958ba26054b002d"), looks := true }, kinds := [], alts := [], laidByText := true, laidKinds := [.data, .data, .data, .sentinel, .sentinel], laidTests := true, laidLooks := .later }
def FnExactSymReadUptoCardSaid : Prop := Claim7.holds Tryd.pinned (.plain (OpenSpec.upto fnExactSymReadSpec)) fnExactSymReadUptoCard

/-- THE SECOND FORM's CARD OF 'laws.FnExactFactsText'. -/
def fnExactFactsTextUptoCard : Claim7 := { stood := { row := fnExactFactsTextUptoRow, standIns := [], harness := (true, "78d59cfec7adb6f3ac852b8697612ef8344d8f2b1723b1115958ba26054b002d"), looks := true }, kinds := [], alts := [], laidByText := true, laidKinds := [.data, .data, .data, .sentinel, .sentinel], laidTests := true, laidLooks := .later }
def FnExactFactsTextUptoCardSaid : Prop := Claim7.holds Tryd.pinned (.plain (OpenSpec.upto fnExactFactsTextSpec)) fnExactFactsTextUptoCard

/-- THE SECOND FORM's CARD OF 'laws.FnExactOrderText'. -/
def fnExactOrderTextUptoCard : Claim7 := { stood := { row := fnExactOrderTextUptoRow, standIns := [], harness := (true, "78d59cfec7adb6f3ac852b8697612ef8344d8f2b1723b1115958ba26054b002d"), looks := true }, kinds := [], alts := [], laidByText := true, laidKinds := [.data, .data, .data], laidTests := true, laidLooks := .later }
def FnExactOrderTextUptoCardSaid : Prop := Claim7.holds Tryd.pinned (.plain (OpenSpec.upto fnExactOrderTextSpec)) fnExactOrderTextUptoCard

/-- THE SECOND FORM's CARD OF 'laws.FnExactExprOk'. -/
def fnExactExprOkUptoCard : Claim7 := { stood := { row := fnExactExprOkUptoRow, standIns := [], harness := (true, "78d59cfec7adb6f3ac852b8697612ef8344d8f2b1723b1115958ba26054b002d"), looks := true }, kinds := [], alts := [], laidByText := true, laidKinds := [.data, .data, .data, .sentinel, .sentinel], laidTests := true, laidLooks := .later }
def FnExactExprOkUptoCardSaid : Prop := Claim7.holds Tryd.pinned (.plain (OpenSpec.upto fnExactExprOkSpec)) fnExactExprOkUptoCard

/-- THE SECOND FORM's CARD OF 'laws.FnExactCondOk'. -/
def fnExactCondOkUptoCard : Claim7 := { stood := { row := fnExactCondOkUptoRow, standIns := [], harness := (true, "78d59cfec7adb6f3ac852b8697612ef8344d8f2b1723b1115958ba26054b002d"), looks := true }, kinds := [], alts := [], laidByText := true, laidKinds := [.data, .data, .data, .sentinel, .sentinel], laidTests := true, laidLooks := .later }
def FnExactCondOkUptoCardSaid : Prop := Claim7.holds Tryd.pinned (.plain (OpenSpec.upto fnExactCondOkSpec)) fnExactCondOkUptoCard

/-- THE SECOND FORM's CARD OF 'laws.FnWordsBack'. -/
def fnWordsBackUptoCard : Claim7 := { stood := { row := fnWordsBackUptoRow, standIns := [], harness := (true, "78d59cfec7adb6f3ac852b8697612ef8344d8f2b1723b1115958ba26054b002d"), looks := true }, kinds := [], alts := [], laidByText := true, laidKinds := [.data, .data, .data, .sentinel, .sentinel], laidTests := true, laidLooks := .later }
def FnWordsBackUptoCardSaid : Prop := Claim7.holds Tryd.pinned (.plain (OpenSpec.upto fnWordsBackSpec)) fnWordsBackUptoCard
end Rows
end Go.Proofs.YtlkcbfonjcflgaaDoor

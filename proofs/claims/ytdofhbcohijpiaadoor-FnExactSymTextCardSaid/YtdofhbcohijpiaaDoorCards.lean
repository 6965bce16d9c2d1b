/-
  DERIVED. GIVEN WITH THE SEED: THE CARDS: each row of YtdofhbcohijpiaaDoorRows.lean that lists a variable, with what it lists TIED to the program's text (the seventh form; the later family's looks); each row that meets fmt, with fmt's text TOLD by the authors' own Lean function (tested against real Go, not proved from fmt's source: count such statements apart). THE CARD IS WHAT COUNTS. Prove the row's statement (the work); the ties are given (YtdofhbcohijpiaaDoorTie.lean); close each card by the builder's one call (the guide's Derived/Test/ToyasCard.lean, 'card_holds'). Laid BY PROGRAM, IN A SANDBOX (cutbox-door.mjs). By AI agents, Wed Nov 11 2026. No macro, syntax, notation, axiom, sorry.
-/
import Derived.Test.YtdofhbcohijpiaaDoorRows
import GoSem.ClaimSeven
namespace Go.Proofs.YtdofhbcohijpiaaDoor
namespace Rows

/-- THE TIED CARD OF 'laws.FnExactRangeText'. -/
def fnExactRangeTextCard : Claim7 := { stood := { row := fnExactRangeTextRow, standIns := [], harness := (true, "acaf67f38f8462c928117127aac67d004da6013b9b2c84050cd01e9992601940"), looks := true }, kinds := [], alts := [], laidByText := true, laidKinds := [.data, .data, .data, .data], laidTests := true, laidLooks := .later }
def FnExactRangeTextCardSaid : Prop := Claim7.holds Tryd.pinned (.plain (OpenSpec.ofChange fnExactRangeTextSpec)) fnExactRangeTextCard

/-- THE TIED CARD OF 'laws.FnExactValText'. -/
def fnExactValTextCard : Claim7 := { stood := { row := fnExactValTextRow, standIns := [], harness := (true, "acaf67f38f8462c928117127aac67d004da6013b9b2c84050cd01e9992601940"), looks := true }, kinds := [], alts := [], laidByText := true, laidKinds := [.data, .data, .data, .data], laidTests := true, laidLooks := .later }
def FnExactValTextCardSaid : Prop := Claim7.holds Tryd.pinned (.plain (OpenSpec.ofChange fnExactValTextSpec)) fnExactValTextCard

/-- THE TIED CARD OF 'laws.FnExactRangeRead'. -/
def fnExactRangeReadCard : Claim7 := { stood := { row := fnExactRangeReadRow, standIns := [], harness := (true, "acaf67f38f8462c928117127aac67d004da6013b9b2c84050cd01e9992601940"), looks := true }, kinds := [], alts := [], laidByText := true, laidKinds := [.data, .data, .data, .sentinel, .sentinel, .data], laidTests := true, laidLooks := .later }
def FnExactRangeReadCardSaid : Prop := Claim7.holds Tryd.pinned (.plain (OpenSpec.ofChange fnExactRangeReadSpec)) fnExactRangeReadCard

/-- THE TIED CARD OF 'laws.FnExactValRead'. -/
def fnExactValReadCard : Claim7 := { stood := { row := fnExactValReadRow, standIns := [], harness := (true, "acaf67f38f8462c928117127aac67d004da6013b9b2c84050cd01e9992601940"), looks := true }, kinds := [], alts := [], laidByText := true, laidKinds := [.data, .data, .data, .sentinel, .sentinel, .data], laidTests := true, laidLooks := .later }
def FnExactValReadCardSaid : Prop := Claim7.holds Tryd.pinned (.plain (OpenSpec.ofChange fnExactValReadSpec)) fnExactValReadCard

/-- THE TIED CARD OF 'laws.FnExactWordOk'. -/
def fnExactWordOkCard : Claim7 := { stood := { row := fnExactWordOkRow, standIns := [], harness := (true, "acaf67f38f8462c928117127aac67d004da6013b9b2c84050cd01e9992601940"), looks := true }, kinds := [], alts := [], laidByText := true, laidKinds := [.data, .data, .data, .sentinel, .sentinel], laidTests := true, laidLooks := .later }
def FnExactWordOkCardSaid : Prop := Claim7.holds Tryd.pinned (.plain (OpenSpec.ofChange fnExactWordOkSpec)) fnExactWordOkCard

/-- THE TIED CARD OF 'laws.FnExactWords'. -/
def fnExactWordsCard : Claim7 := { stood := { row := fnExactWordsRow, standIns := [], harness := (true, "acaf67f38f8462c928117127aac67d004da6013b9b2c84050cd01e9992601940"), looks := true }, kinds := [], alts := [], laidByText := true, laidKinds := [.data, .data, .data, .sentinel, .sentinel], laidTests := true, laidLooks := .later }
def FnExactWordsCardSaid : Prop := Claim7.holds Tryd.pinned (.plain (OpenSpec.ofChange fnExactWordsSpec)) fnExactWordsCard

/-- THE TIED CARD OF 'laws.FnExactWordsText'. -/
def fnExactWordsTextCard : Claim7 := { stood := { row := fnExactWordsTextRow, standIns := [], harness := (true, "acaf67f38f8462c928117127aac67d004da6013b9b2c84050cd01e9992601940"), looks := true }, kinds := [], alts := [], laidByText := true, laidKinds := [.data, .data, .data, .sentinel, .sentinel], laidTests := true, laidLooks := .later }
def FnExactWordsTextCardSaid : Prop := Claim7.holds Tryd.pinned (.plain (OpenSpec.ofChange fnExactWordsTextSpec)) fnExactWordsTextCard

/-- THE TIED CARD OF 'laws.FnExactSymText'. -/
def fnExactSymTextCard : Claim7 := { stood := { row := fnExactSymTextRow, standIns := [], harness := (true, "acaf67f38f8462c928117127aac67d004da6013b9b2c84050cd01e9992601940"), looks := true }, kinds := [], alts := [], laidByText := true, laidKinds := [.data, .data, .data, .sentinel, .sentinel], laidTests := true, laidLooks := .later }
def FnExactSymTextCardSaid : Prop := Claim7.holds Tryd.pinned (.plain (OpenSpec.ofChange fnExactSymTextSpec)) fnExactSymTextCard

/-- THE SECOND FORM's CARD OF 'laws.FnExactRangeText'. -/
def fnExactRangeTextUptoCard : Claim7 := { stood := { row := fnExactRangeTextUptoRow, standIns := [], harness := (true, "acaf67f38f8462c928117127aac67d004da6013b9b2c84050cd01e9992601940"), looks := true }, kinds := [], alts := [], laidByText := true, laidKinds := [.data, .data, .data, .data], laidTests := true, laidLooks := .later }
def FnExactRangeTextUptoCardSaid : Prop := Claim7.holds Tryd.pinned (.plain (OpenSpec.upto fnExactRangeTextSpec)) fnExactRangeTextUptoCard

/-- THE SECOND FORM's CARD OF 'laws.FnExactValText'. -/
def fnExactValTextUptoCard : Claim7 := { stood := { row := fnExactValTextUptoRow, standIns := [], harness := (true, "acaf67f38f8462c928117127aac67d004da6013b9b2c84050cd01e9992601940"), looks := true }, kinds := [], alts := [], laidByText := true, laidKinds := [.data, .data, .data, .data], laidTests := true, laidLooks := .later }
def FnExactValTextUptoCardSaid : Prop := Claim7.holds Tryd.pinned (.plain (OpenSpec.upto fnExactValTextSpec)) fnExactValTextUptoCard

/-- THE SECOND FORM's CARD OF 'laws.FnExactRangeRead'. -/
def fnExactRangeReadUptoCard : Claim7 := { stood := { row := fnExactRangeReadUptoRow, standIns := [], harness := (true, "acaf67f38f8462c928117127aac67d004da6013b9b2c84050cd01e9992601940"), looks := true }, kinds := [], alts := [], laidByText := true, laidKinds := [.data, .data, .data, .sentinel, .sentinel, .data], laidTests := true, laidLooks := .later }
def FnExactRangeReadUptoCardSaid : Prop := Claim7.holds Tryd.pinned (.plain (OpenSpec.upto fnExactRangeReadSpec)) fnExactRangeReadUptoCard

/-- THE SECOND FORM's CARD OF 'laws.FnExactValRead'. -/
def fnExactValReadUptoCard : Claim7 := { stood := { row := fnExactValReadUptoRow, standIns := [], harness := (true, "acaf67f38f8462c928117127aac67d004da6013b9b2c84050cd01e9992601940"), looks := true }, kinds := [], alts := [], laidByText := true, laidKinds := [.data, .data, .data, .sentinel, .sentinel, .data], laidTests := true, laidLooks := .later }
def FnExactValReadUptoCardSaid : Prop := Claim7.holds Tryd.pinned (.plain (OpenSpec.upto fnExactValReadSpec)) fnExactValReadUptoCard

/-- THE SECOND FORM's CARD OF 'laws.FnExactWordOk'. -/
def fnExactWordOkUptoCard : Claim7 := { stood := { row := fnExactWordOkUptoRow, standIns := [], harness := (true, "acaf67f38f8462c928117127aac67d004da6013b9b2c84050cd01e9992601940"), looks := true }, kinds := [], alts := [], laidByText := true, laidKinds := [.data, .data, .data, .sentinel, .sentinel], laidTests := true, laidLooks := .later }
def FnExactWordOkUptoCardSaid : Prop := Claim7.holds Tryd.pinned (.plain (OpenSpec.upto fnExactWordOkSpec)) fnExactWordOkUptoCard

/-- THE SECOND FORM's CARD OF 'laws.FnExactWords'. -/
def fnExactWordsUptoCard : Claim7 := { stood := { row := fnExactWordsUptoRow, standIns := [], harness := (true, "acaf67f38f8462c928117127aac67d004da6013b9b2c84050cd01e9992601940"), looks := true }, kinds := [], alts := [], laidByText := true, laidKinds := [.data, .data, .data, .sentinel, .sentinel], laidTests := true, laidLooks := .later }
def FnExactWordsUptoCardSaid : Prop := Claim7.holds Tryd.pinned (.plain (OpenSpec.upto fnExactWordsSpec)) fnExactWordsUptoCard

/-- THE SECOND FORM's CARD OF 'laws.FnExactWordsText'. -/
def fnExactWordsTextUptoCard : Claim7 := { stood := { row := fnExactWordsTextUptoRow, standIns := [], harness := (true, "acaf67f38f8462c928117127aac67d004da6013b9b2c84050cd01e9992601940"), looks := true }, kinds := [], alts := [], laidByText := true, laidKinds := [.data, .data, .data, .sentinel, .sentinel], laidTests := true, laidLooks := .later }
def FnExactWordsTextUptoCardSaid : Prop := Claim7.holds Tryd.pinned (.plain (OpenSpec.upto fnExactWordsTextSpec)) fnExactWordsTextUptoCard

/-- THE SECOND FORM's CARD OF 'laws.FnExactSymText'. -/
def fnExactSymTextUptoCard : Claim7 := { stood := { row := fnExactSymTextUptoRow, standIns := [], harness := (true, "acaf67f38f8462c928117127aac67d004da6013b9b2c84050cd01e9992601940"), looks := true }, kinds := [], alts := [], laidByText := true, laidKinds := [.data, .data, .data, .sentinel, .sentinel], laidTests := true, laidLooks := .later }
def FnExactSymTextUptoCardSaid : Prop := Claim7.holds Tryd.pinned (.plain (OpenSpec.upto fnExactSymTextSpec)) fnExactSymTextUptoCard
end Rows
end Go.Proofs.YtdofhbcohijpiaaDoor

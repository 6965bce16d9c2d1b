/-
  DERIVED. GIVEN WITH THE SEED: THE CARDS: each row of YtognjmgkbmmjjaaDoorRows.lean that lists a variable, with what it lists TIED to the program's text (the seventh form; the later family's looks); each row that meets fmt, with fmt's text TOLD by the authors' own Lean function (tested against real Go, not proved from fmt's source: count such statements apart). THE CARD IS WHAT COUNTS. Prove the row's statement (the work); the ties are given (YtognjmgkbmmjjaaDoorTie.lean); close each card by the builder's one call (the guide's Derived/Test/ToyasCard.lean, 'card_holds'). Laid BY PROGRAM, IN A SANDBOX (cutbox-door.mjs). By AI agents, Wed Nov 11 2026. No macro, syntax, notation, axiom, sorry.
-/
import Derived.Test.YtognjmgkbmmjjaaDoorRows
import GoSem.ClaimSeven
namespace Go.Proofs.YtognjmgkbmmjjaaDoor
namespace Rows

/-- THE TIED CARD OF 'laws.FnExactRangeOk'. -/
def fnExactRangeOkCard : Claim7 := { stood := { row := fnExactRangeOkRow, standIns := [], harness := (true, "ef9a3895f856d961eb04fe2093637677249c993cd91588f4e10b98b8709c3e5d"), looks := true }, kinds := [], alts := [], laidByText := true, laidKinds := [.data], laidTests := true, laidLooks := .later }
def FnExactRangeOkCardSaid : Prop := Claim7.holds Tryd.pinned (.plain (OpenSpec.ofChange fnExactRangeOkSpec)) fnExactRangeOkCard

/-- THE TIED CARD OF 'laws.FnExactRangeHas'. -/
def fnExactRangeHasCard : Claim7 := { stood := { row := fnExactRangeHasRow, standIns := [], harness := (true, "ef9a3895f856d961eb04fe2093637677249c993cd91588f4e10b98b8709c3e5d"), looks := true }, kinds := [], alts := [], laidByText := true, laidKinds := [.data], laidTests := true, laidLooks := .later }
def FnExactRangeHasCardSaid : Prop := Claim7.holds Tryd.pinned (.plain (OpenSpec.ofChange fnExactRangeHasSpec)) fnExactRangeHasCard

/-- THE TIED CARD OF 'laws.FnExactValOk'. -/
def fnExactValOkCard : Claim7 := { stood := { row := fnExactValOkRow, standIns := [], harness := (true, "ef9a3895f856d961eb04fe2093637677249c993cd91588f4e10b98b8709c3e5d"), looks := true }, kinds := [], alts := [], laidByText := true, laidKinds := [.data], laidTests := true, laidLooks := .later }
def FnExactValOkCardSaid : Prop := Claim7.holds Tryd.pinned (.plain (OpenSpec.ofChange fnExactValOkSpec)) fnExactValOkCard

/-- THE TIED CARD OF 'laws.FnWordsBack'. -/
def fnWordsBackCard : Claim7 := { stood := { row := fnWordsBackRow, standIns := [], harness := (true, "ef9a3895f856d961eb04fe2093637677249c993cd91588f4e10b98b8709c3e5d"), looks := true }, kinds := [], alts := [], laidByText := true, laidKinds := [.data, .data, .data, .sentinel, .sentinel], laidTests := true, laidLooks := .later }
def FnWordsBackCardSaid : Prop := Claim7.holds Tryd.pinned (.plain (OpenSpec.ofChange fnWordsBackSpec)) fnWordsBackCard

/-- THE TIED CARD OF 'laws.FnExactRangeLeq'. -/
def fnExactRangeLeqCard : Claim7 := { stood := { row := fnExactRangeLeqRow, standIns := [], harness := (true, "ef9a3895f856d961eb04fe2093637677249c993cd91588f4e10b98b8709c3e5d"), looks := true }, kinds := [], alts := [], laidByText := true, laidKinds := [.data], laidTests := true, laidLooks := .later }
def FnExactRangeLeqCardSaid : Prop := Claim7.holds Tryd.pinned (.plain (OpenSpec.ofChange fnExactRangeLeqSpec)) fnExactRangeLeqCard

/-- THE TIED CARD OF 'laws.FnExactValLeq'. -/
def fnExactValLeqCard : Claim7 := { stood := { row := fnExactValLeqRow, standIns := [], harness := (true, "ef9a3895f856d961eb04fe2093637677249c993cd91588f4e10b98b8709c3e5d"), looks := true }, kinds := [], alts := [], laidByText := true, laidKinds := [.data], laidTests := true, laidLooks := .later }
def FnExactValLeqCardSaid : Prop := Claim7.holds Tryd.pinned (.plain (OpenSpec.ofChange fnExactValLeqSpec)) fnExactValLeqCard

/-- THE TIED CARD OF 'laws.FnExactValHas'. -/
def fnExactValHasCard : Claim7 := { stood := { row := fnExactValHasRow, standIns := [], harness := (true, "ef9a3895f856d961eb04fe2093637677249c993cd91588f4e10b98b8709c3e5d"), looks := true }, kinds := [], alts := [], laidByText := true, laidKinds := [.data], laidTests := true, laidLooks := .later }
def FnExactValHasCardSaid : Prop := Claim7.holds Tryd.pinned (.plain (OpenSpec.ofChange fnExactValHasSpec)) fnExactValHasCard

/-- THE TIED CARD OF 'laws.FnExactRangeJoin'. -/
def fnExactRangeJoinCard : Claim7 := { stood := { row := fnExactRangeJoinRow, standIns := [], harness := (true, "ef9a3895f856d961eb04fe2093637677249c993cd91588f4e10b98b8709c3e5d"), looks := true }, kinds := [], alts := [], laidByText := true, laidKinds := [.data], laidTests := true, laidLooks := .later }
def FnExactRangeJoinCardSaid : Prop := Claim7.holds Tryd.pinned (.plain (OpenSpec.ofChange fnExactRangeJoinSpec)) fnExactRangeJoinCard

/-- THE SECOND FORM's CARD OF 'laws.FnExactRangeOk'. -/
def fnExactRangeOkUptoCard : Claim7 := { stood := { row := fnExactRangeOkUptoRow, standIns := [], harness := (true, "ef9a3895f856d961eb04fe2093637677249c993cd91588f4e10b98b8709c3e5d"), looks := true }, kinds := [], alts := [], laidByText := true, laidKinds := [.data], laidTests := true, laidLooks := .later }
def FnExactRangeOkUptoCardSaid : Prop := Claim7.holds Tryd.pinned (.plain (OpenSpec.upto fnExactRangeOkSpec)) fnExactRangeOkUptoCard

/-- THE SECOND FORM's CARD OF 'laws.FnExactRangeHas'. -/
def fnExactRangeHasUptoCard : Claim7 := { stood := { row := fnExactRangeHasUptoRow, standIns := [], harness := (true, "ef9a3895f856d961eb04fe2093637677249c993cd91588f4e10b98b8709c3e5d"), looks := true }, kinds := [], alts := [], laidByText := true, laidKinds := [.data], laidTests := true, laidLooks := .later }
def FnExactRangeHasUptoCardSaid : Prop := Claim7.holds Tryd.pinned (.plain (OpenSpec.upto fnExactRangeHasSpec)) fnExactRangeHasUptoCard

/-- THE SECOND FORM's CARD OF 'laws.FnExactValOk'. -/
def fnExactValOkUptoCard : Claim7 := { stood := { row := fnExactValOkUptoRow, standIns := [], harness := (true, "ef9a3895f856d961eb04fe2093637677249c993cd91588f4e10b98b8709c3e5d"), looks := true }, kinds := [], alts := [], laidByText := true, laidKinds := [.data], laidTests := true, laidLooks := .later }
def FnExactValOkUptoCardSaid : Prop := Claim7.holds Tryd.pinned (.plain (OpenSpec.upto fnExactValOkSpec)) fnExactValOkUptoCard

/-- THE SECOND FORM's CARD OF 'laws.FnWordsBack'. -/
def fnWordsBackUptoCard : Claim7 := { stood := { row := fnWordsBackUptoRow, standIns := [], harness := (true, "ef9a3895f856d961eb04fe2093637677249c993cd91588f4e10b98b8709c3e5d"), looks := true }, kinds := [], alts := [], laidByText := true, laidKinds := [.data, .data, .data, .sentinel, .sentinel], laidTests := true, laidLooks := .later }
def FnWordsBackUptoCardSaid : Prop := Claim7.holds Tryd.pinned (.plain (OpenSpec.upto fnWordsBackSpec)) fnWordsBackUptoCard

/-- THE SECOND FORM's CARD OF 'laws.FnExactRangeLeq'. -/
def fnExactRangeLeqUptoCard : Claim7 := { stood := { row := fnExactRangeLeqUptoRow, standIns := [], harness := (true, "ef9a3895f856d961eb04fe2093637677249c993cd91588f4e10b98b8709c3e5d"), looks := true }, kinds := [], alts := [], laidByText := true, laidKinds := [.data], laidTests := true, laidLooks := .later }
def FnExactRangeLeqUptoCardSaid : Prop := Claim7.holds Tryd.pinned (.plain (OpenSpec.upto fnExactRangeLeqSpec)) fnExactRangeLeqUptoCard

/-- THE SECOND FORM's CARD OF 'laws.FnExactValLeq'. -/
def fnExactValLeqUptoCard : Claim7 := { stood := { row := fnExactValLeqUptoRow, standIns := [], harness := (true, "ef9a3895f856d961eb04fe2093637677249c993cd91588f4e10b98b8709c3e5d"), looks := true }, kinds := [], alts := [], laidByText := true, laidKinds := [.data], laidTests := true, laidLooks := .later }
def FnExactValLeqUptoCardSaid : Prop := Claim7.holds Tryd.pinned (.plain (OpenSpec.upto fnExactValLeqSpec)) fnExactValLeqUptoCard

/-- THE SECOND FORM's CARD OF 'laws.FnExactValHas'. -/
def fnExactValHasUptoCard : Claim7 := { stood := { row := fnExactValHasUptoRow, standIns := [], harness := (true, "ef9a3895f856d961eb04fe2093637677249c993cd91588f4e10b98b8709c3e5d"), looks := true }, kinds := [], alts := [], laidByText := true, laidKinds := [.data], laidTests := true, laidLooks := .later }
def FnExactValHasUptoCardSaid : Prop := Claim7.holds Tryd.pinned (.plain (OpenSpec.upto fnExactValHasSpec)) fnExactValHasUptoCard

/-- THE SECOND FORM's CARD OF 'laws.FnExactRangeJoin'. -/
def fnExactRangeJoinUptoCard : Claim7 := { stood := { row := fnExactRangeJoinUptoRow, standIns := [], harness := (true, "ef9a3895f856d961eb04fe2093637677249c993cd91588f4e10b98b8709c3e5d"), looks := true }, kinds := [], alts := [], laidByText := true, laidKinds := [.data], laidTests := true, laidLooks := .later }
def FnExactRangeJoinUptoCardSaid : Prop := Claim7.holds Tryd.pinned (.plain (OpenSpec.upto fnExactRangeJoinSpec)) fnExactRangeJoinUptoCard
end Rows
end Go.Proofs.YtognjmgkbmmjjaaDoor

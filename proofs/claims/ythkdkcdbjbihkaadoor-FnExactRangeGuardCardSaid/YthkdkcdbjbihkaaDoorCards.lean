/-
  DERIVED. GIVEN WITH THE SEED: THE CARDS: each row of YthkdkcdbjbihkaaDoorRows.lean that lists a variable, with what it lists TIED to the program's text (the seventh form; the later family's looks); each row that meets fmt, with fmt's text TOLD by the authors' own Lean function (tested against real Go, not proved from fmt's source: count such statements apart). THE CARD IS WHAT COUNTS. Prove the row's statement (the work); the ties are given (YthkdkcdbjbihkaaDoorTie.lean); close each card by the builder's one call (the guide's Derived/Test/ToyasCard.lean, 'card_holds'). Laid BY PROGRAM, IN A SANDBOX (cutbox-door.mjs). By AI agents, Wed Nov 11 2026. No macro, syntax, notation, axiom, sorry.
-/
import Derived.Test.YthkdkcdbjbihkaaDoorRows
import GoSem.ClaimSeven
namespace Go.Proofs.YthkdkcdbjbihkaaDoor
namespace Rows

/-- THE TIED CARD OF 'laws.FnExactRangeWiden'. -/
def fnExactRangeWidenCard : Claim7 := { stood := { row := fnExactRangeWidenRow, standIns := [], harness := (true, "6f3379c8b539c8f9af4a6b7d09d328928e5295789c51890118cd2bf1f4662d32"), looks := false }, kinds := [], alts := [], laidByText := true, laidKinds := [.data], laidTests := true, laidLooks := .later }
def FnExactRangeWidenCardSaid : Prop := Claim7.holds Tryd.pinned (.plain (OpenSpec.ofChange fnExactRangeWidenSpec)) fnExactRangeWidenCard

/-- THE TIED CARD OF 'laws.FnExactValWiden'. -/
def fnExactValWidenCard : Claim7 := { stood := { row := fnExactValWidenRow, standIns := [], harness := (true, "6f3379c8b539c8f9af4a6b7d09d328928e5295789c51890118cd2bf1f4662d32"), looks := false }, kinds := [], alts := [], laidByText := true, laidKinds := [.data, .data], laidTests := true, laidLooks := .later }
def FnExactValWidenCardSaid : Prop := Claim7.holds Tryd.pinned (.plain (OpenSpec.ofChange fnExactValWidenSpec)) fnExactValWidenCard

/-- THE TIED CARD OF 'laws.FnExactRangeGuard'. -/
def fnExactRangeGuardCard : Claim7 := { stood := { row := fnExactRangeGuardRow, standIns := [], harness := (true, "6f3379c8b539c8f9af4a6b7d09d328928e5295789c51890118cd2bf1f4662d32"), looks := false }, kinds := [], alts := [], laidByText := true, laidKinds := [.data], laidTests := true, laidLooks := .later }
def FnExactRangeGuardCardSaid : Prop := Claim7.holds Tryd.pinned (.plain (OpenSpec.ofChange fnExactRangeGuardSpec)) fnExactRangeGuardCard

/-- THE TIED CARD OF 'laws.FnRangeRests'. -/
def fnRangeRestsCard : Claim7 := { stood := { row := fnRangeRestsRow, standIns := [], harness := (true, "6f3379c8b539c8f9af4a6b7d09d328928e5295789c51890118cd2bf1f4662d32"), looks := false }, kinds := [], alts := [], laidByText := true, laidKinds := [.data], laidTests := true, laidLooks := .later }
def FnRangeRestsCardSaid : Prop := Claim7.holds Tryd.pinned (.plain (OpenSpec.ofChange fnRangeRestsSpec)) fnRangeRestsCard

/-- THE TIED CARD OF 'laws.FnRangeSums'. -/
def fnRangeSumsCard : Claim7 := { stood := { row := fnRangeSumsRow, standIns := [], harness := (true, "6f3379c8b539c8f9af4a6b7d09d328928e5295789c51890118cd2bf1f4662d32"), looks := false }, kinds := [], alts := [], laidByText := true, laidKinds := [.data], laidTests := true, laidLooks := .later }
def FnRangeSumsCardSaid : Prop := Claim7.holds Tryd.pinned (.plain (OpenSpec.ofChange fnRangeSumsSpec)) fnRangeSumsCard

/-- THE SECOND FORM's CARD OF 'laws.FnExactRangeWiden'. -/
def fnExactRangeWidenUptoCard : Claim7 := { stood := { row := fnExactRangeWidenUptoRow, standIns := [], harness := (true, "6f3379c8b539c8f9af4a6b7d09d328928e5295789c51890118cd2bf1f4662d32"), looks := false }, kinds := [], alts := [], laidByText := true, laidKinds := [.data], laidTests := true, laidLooks := .later }
def FnExactRangeWidenUptoCardSaid : Prop := Claim7.holds Tryd.pinned (.plain (OpenSpec.upto fnExactRangeWidenSpec)) fnExactRangeWidenUptoCard

/-- THE SECOND FORM's CARD OF 'laws.FnExactValWiden'. -/
def fnExactValWidenUptoCard : Claim7 := { stood := { row := fnExactValWidenUptoRow, standIns := [], harness := (true, "6f3379c8b539c8f9af4a6b7d09d328928e5295789c51890118cd2bf1f4662d32"), looks := false }, kinds := [], alts := [], laidByText := true, laidKinds := [.data, .data], laidTests := true, laidLooks := .later }
def FnExactValWidenUptoCardSaid : Prop := Claim7.holds Tryd.pinned (.plain (OpenSpec.upto fnExactValWidenSpec)) fnExactValWidenUptoCard

/-- THE SECOND FORM's CARD OF 'laws.FnExactRangeGuard'. -/
def fnExactRangeGuardUptoCard : Claim7 := { stood := { row := fnExactRangeGuardUptoRow, standIns := [], harness := (true, "6f3379c8b539c8f9af4a6b7d09d328928e5295789c51890118cd2bf1f4662d32"), looks := false }, kinds := [], alts := [], laidByText := true, laidKinds := [.data], laidTests := true, laidLooks := .later }
def FnExactRangeGuardUptoCardSaid : Prop := Claim7.holds Tryd.pinned (.plain (OpenSpec.upto fnExactRangeGuardSpec)) fnExactRangeGuardUptoCard

/-- THE SECOND FORM's CARD OF 'laws.FnRangeRests'. -/
def fnRangeRestsUptoCard : Claim7 := { stood := { row := fnRangeRestsUptoRow, standIns := [], harness := (true, "6f3379c8b539c8f9af4a6b7d09d328928e5295789c51890118cd2bf1f4662d32"), looks := false }, kinds := [], alts := [], laidByText := true, laidKinds := [.data], laidTests := true, laidLooks := .later }
def FnRangeRestsUptoCardSaid : Prop := Claim7.holds Tryd.pinned (.plain (OpenSpec.upto fnRangeRestsSpec)) fnRangeRestsUptoCard

/-- THE SECOND FORM's CARD OF 'laws.FnRangeSums'. -/
def fnRangeSumsUptoCard : Claim7 := { stood := { row := fnRangeSumsUptoRow, standIns := [], harness := (true, "6f3379c8b539c8f9af4a6b7d09d328928e5295789c51890118cd2bf1f4662d32"), looks := false }, kinds := [], alts := [], laidByText := true, laidKinds := [.data], laidTests := true, laidLooks := .later }
def FnRangeSumsUptoCardSaid : Prop := Claim7.holds Tryd.pinned (.plain (OpenSpec.upto fnRangeSumsSpec)) fnRangeSumsUptoCard
end Rows
end Go.Proofs.YthkdkcdbjbihkaaDoor

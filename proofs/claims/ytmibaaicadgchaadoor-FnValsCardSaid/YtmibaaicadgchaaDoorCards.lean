/-
  DERIVED. GIVEN WITH THE SEED: THE CARDS: each row of YtmibaaicadgchaaDoorRows.lean that lists a variable, with what it lists TIED to the program's text (the seventh form; the later family's looks); each row that meets fmt, with fmt's text TOLD by the authors' own Lean function (tested against real Go, not proved from fmt's source: count such statements apart). THE CARD IS WHAT COUNTS. Prove the row's statement (the work); the ties are given (YtmibaaicadgchaaDoorTie.lean); close each card by the builder's one call (the guide's Derived/Test/ToyasCard.lean, 'card_holds'). Laid BY PROGRAM, IN A SANDBOX (cutbox-door.mjs). By AI agents, Wed Nov 11 2026. No macro, syntax, notation, axiom, sorry.
-/
import Derived.Test.YtmibaaicadgchaaDoorRows
import GoSem.ClaimSeven
namespace Go.Proofs.YtmibaaicadgchaaDoor
namespace Rows

/-- THE TIED CARD OF 'laws.FnRangeSums'. -/
def fnRangeSumsCard : Claim7 := { stood := { row := fnRangeSumsRow, standIns := [], harness := (true, "a74f12d4c52ed86bc2e50e00eb823b86487ed218adff46a53d32af600817edc9"), looks := true }, kinds := [], alts := [], laidByText := true, laidKinds := [.data], laidTests := true, laidLooks := .later }
def FnRangeSumsCardSaid : Prop := Claim7.holds Tryd.pinned (.plain (OpenSpec.ofChange fnRangeSumsSpec)) fnRangeSumsCard

/-- THE TIED CARD OF 'laws.FnRangeOrder'. -/
def fnRangeOrderCard : Claim7 := { stood := { row := fnRangeOrderRow, standIns := [], harness := (true, "a74f12d4c52ed86bc2e50e00eb823b86487ed218adff46a53d32af600817edc9"), looks := true }, kinds := [], alts := [], laidByText := true, laidKinds := [.data, .data, .data, .sentinel, .sentinel, .data], laidTests := true, laidLooks := .later }
def FnRangeOrderCardSaid : Prop := Claim7.holds Tryd.pinned (.plain (OpenSpec.ofChange fnRangeOrderSpec)) fnRangeOrderCard

/-- THE TIED CARD OF 'laws.FnVals'. -/
def fnValsCard : Claim7 := { stood := { row := fnValsRow, standIns := [], harness := (true, "a74f12d4c52ed86bc2e50e00eb823b86487ed218adff46a53d32af600817edc9"), looks := true }, kinds := [], alts := [], laidByText := true, laidKinds := [.data, .data, .data, .sentinel, .sentinel, .data, .data], laidTests := true, laidLooks := .later }
def FnValsCardSaid : Prop := Claim7.holds Tryd.pinned (.plain (OpenSpec.ofChange fnValsSpec)) fnValsCard

/-- THE SECOND FORM's CARD OF 'laws.FnRangeSums'. -/
def fnRangeSumsUptoCard : Claim7 := { stood := { row := fnRangeSumsUptoRow, standIns := [], harness := (true, "a74f12d4c52ed86bc2e50e00eb823b86487ed218adff46a53d32af600817edc9"), looks := true }, kinds := [], alts := [], laidByText := true, laidKinds := [.data], laidTests := true, laidLooks := .later }
def FnRangeSumsUptoCardSaid : Prop := Claim7.holds Tryd.pinned (.plain (OpenSpec.upto fnRangeSumsSpec)) fnRangeSumsUptoCard

/-- THE SECOND FORM's CARD OF 'laws.FnRangeOrder'. -/
def fnRangeOrderUptoCard : Claim7 := { stood := { row := fnRangeOrderUptoRow, standIns := [], harness := (true, "a74f12d4c52ed86bc2e50e00eb823b86487ed218adff46a53d32af600817edc9"), looks := true }, kinds := [], alts := [], laidByText := true, laidKinds := [.data, .data, .data, .sentinel, .sentinel, .data], laidTests := true, laidLooks := .later }
def FnRangeOrderUptoCardSaid : Prop := Claim7.holds Tryd.pinned (.plain (OpenSpec.upto fnRangeOrderSpec)) fnRangeOrderUptoCard

/-- THE SECOND FORM's CARD OF 'laws.FnVals'. -/
def fnValsUptoCard : Claim7 := { stood := { row := fnValsUptoRow, standIns := [], harness := (true, "a74f12d4c52ed86bc2e50e00eb823b86487ed218adff46a53d32af600817edc9"), looks := true }, kinds := [], alts := [], laidByText := true, laidKinds := [.data, .data, .data, .sentinel, .sentinel, .data, .data], laidTests := true, laidLooks := .later }
def FnValsUptoCardSaid : Prop := Claim7.holds Tryd.pinned (.plain (OpenSpec.upto fnValsSpec)) fnValsUptoCard
end Rows
end Go.Proofs.YtmibaaicadgchaaDoor

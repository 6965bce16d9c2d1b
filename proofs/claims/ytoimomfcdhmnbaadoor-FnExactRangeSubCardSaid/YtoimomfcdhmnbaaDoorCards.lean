/-
  DERIVED. GIVEN WITH THE SEED: THE CARDS: each row of YtoimomfcdhmnbaaDoorRows.lean that lists a variable, with what it lists TIED to the program's text (the seventh form; the later family's looks); each row that meets fmt, with fmt's text TOLD by the authors' own Lean function (tested against real Go, not proved from fmt's source: count such statements apart). THE CARD IS WHAT COUNTS. Prove the row's statement (the work); the ties are given (YtoimomfcdhmnbaaDoorTie.lean); close each card by the builder's one call (the guide's Derived/Test/ToyasCard.lean, 'card_holds'). Laid BY PROGRAM, IN A SANDBOX (cutbox-door.mjs). By AI agents, Wed Nov 11 2026. No macro, syntax, notation, axiom, sorry.
-/
import Derived.Test.YtoimomfcdhmnbaaDoorRows
import GoSem.ClaimSeven
namespace Go.Proofs.YtoimomfcdhmnbaaDoor
namespace Rows

/-- THE TIED CARD OF 'laws.FnExactRangeNeg'. -/
def fnExactRangeNegCard : Claim7 := { stood := { row := fnExactRangeNegRow, standIns := [], harness := (true, "2853f04138c19234fc5ebce767c15cbba191dd23b8f12457ed30701ed342e501"), looks := false }, kinds := [], alts := [], laidByText := true, laidKinds := [.data], laidTests := true, laidLooks := .later }
def FnExactRangeNegCardSaid : Prop := Claim7.holds Tryd.pinned (.plain (OpenSpec.ofChange fnExactRangeNegSpec)) fnExactRangeNegCard

/-- THE TIED CARD OF 'laws.FnExactRangeAdd'. -/
def fnExactRangeAddCard : Claim7 := { stood := { row := fnExactRangeAddRow, standIns := [], harness := (true, "2853f04138c19234fc5ebce767c15cbba191dd23b8f12457ed30701ed342e501"), looks := false }, kinds := [], alts := [], laidByText := true, laidKinds := [.data], laidTests := true, laidLooks := .later }
def FnExactRangeAddCardSaid : Prop := Claim7.holds Tryd.pinned (.plain (OpenSpec.ofChange fnExactRangeAddSpec)) fnExactRangeAddCard

/-- THE TIED CARD OF 'laws.FnExactRangeMeet'. -/
def fnExactRangeMeetCard : Claim7 := { stood := { row := fnExactRangeMeetRow, standIns := [], harness := (true, "2853f04138c19234fc5ebce767c15cbba191dd23b8f12457ed30701ed342e501"), looks := false }, kinds := [], alts := [], laidByText := true, laidKinds := [.data], laidTests := true, laidLooks := .later }
def FnExactRangeMeetCardSaid : Prop := Claim7.holds Tryd.pinned (.plain (OpenSpec.ofChange fnExactRangeMeetSpec)) fnExactRangeMeetCard

/-- THE TIED CARD OF 'laws.FnExactRangeSub'. -/
def fnExactRangeSubCard : Claim7 := { stood := { row := fnExactRangeSubRow, standIns := [], harness := (true, "2853f04138c19234fc5ebce767c15cbba191dd23b8f12457ed30701ed342e501"), looks := false }, kinds := [], alts := [], laidByText := true, laidKinds := [.data], laidTests := true, laidLooks := .later }
def FnExactRangeSubCardSaid : Prop := Claim7.holds Tryd.pinned (.plain (OpenSpec.ofChange fnExactRangeSubSpec)) fnExactRangeSubCard

/-- THE TIED CARD OF 'laws.FnExactValJoin'. -/
def fnExactValJoinCard : Claim7 := { stood := { row := fnExactValJoinRow, standIns := [], harness := (true, "2853f04138c19234fc5ebce767c15cbba191dd23b8f12457ed30701ed342e501"), looks := false }, kinds := [], alts := [], laidByText := true, laidKinds := [.data, .data], laidTests := true, laidLooks := .later }
def FnExactValJoinCardSaid : Prop := Claim7.holds Tryd.pinned (.plain (OpenSpec.ofChange fnExactValJoinSpec)) fnExactValJoinCard

/-- THE TIED CARD OF 'laws.FnExactRangeMul'. -/
def fnExactRangeMulCard : Claim7 := { stood := { row := fnExactRangeMulRow, standIns := [], harness := (true, "2853f04138c19234fc5ebce767c15cbba191dd23b8f12457ed30701ed342e501"), looks := false }, kinds := [], alts := [], laidByText := true, laidKinds := [.data], laidTests := true, laidLooks := .later }
def FnExactRangeMulCardSaid : Prop := Claim7.holds Tryd.pinned (.plain (OpenSpec.ofChange fnExactRangeMulSpec)) fnExactRangeMulCard

/-- THE SECOND FORM's CARD OF 'laws.FnExactRangeNeg'. -/
def fnExactRangeNegUptoCard : Claim7 := { stood := { row := fnExactRangeNegUptoRow, standIns := [], harness := (true, "2853f04138c19234fc5ebce767c15cbba191dd23b8f12457ed30701ed342e501"), looks := false }, kinds := [], alts := [], laidByText := true, laidKinds := [.data], laidTests := true, laidLooks := .later }
def FnExactRangeNegUptoCardSaid : Prop := Claim7.holds Tryd.pinned (.plain (OpenSpec.upto fnExactRangeNegSpec)) fnExactRangeNegUptoCard

/-- THE SECOND FORM's CARD OF 'laws.FnExactRangeAdd'. -/
def fnExactRangeAddUptoCard : Claim7 := { stood := { row := fnExactRangeAddUptoRow, standIns := [], harness := (true, "2853f04138c19234fc5ebce767c15cbba191dd23b8f12457ed30701ed342e501"), looks := false }, kinds := [], alts := [], laidByText := true, laidKinds := [.data], laidTests := true, laidLooks := .later }
def FnExactRangeAddUptoCardSaid : Prop := Claim7.holds Tryd.pinned (.plain (OpenSpec.upto fnExactRangeAddSpec)) fnExactRangeAddUptoCard

/-- THE SECOND FORM's CARD OF 'laws.FnExactRangeMeet'. -/
def fnExactRangeMeetUptoCard : Claim7 := { stood := { row := fnExactRangeMeetUptoRow, standIns := [], harness := (true, "2853f04138c19234fc5ebce767c15cbba191dd23b8f12457ed30701ed342e501"), looks := false }, kinds := [], alts := [], laidByText := true, laidKinds := [.data], laidTests := true, laidLooks := .later }
def FnExactRangeMeetUptoCardSaid : Prop := Claim7.holds Tryd.pinned (.plain (OpenSpec.upto fnExactRangeMeetSpec)) fnExactRangeMeetUptoCard

/-- THE SECOND FORM's CARD OF 'laws.FnExactRangeSub'. -/
def fnExactRangeSubUptoCard : Claim7 := { stood := { row := fnExactRangeSubUptoRow, standIns := [], harness := (true, "2853f04138c19234fc5ebce767c15cbba191dd23b8f12457ed30701ed342e501"), looks := false }, kinds := [], alts := [], laidByText := true, laidKinds := [.data], laidTests := true, laidLooks := .later }
def FnExactRangeSubUptoCardSaid : Prop := Claim7.holds Tryd.pinned (.plain (OpenSpec.upto fnExactRangeSubSpec)) fnExactRangeSubUptoCard

/-- THE SECOND FORM's CARD OF 'laws.FnExactValJoin'. -/
def fnExactValJoinUptoCard : Claim7 := { stood := { row := fnExactValJoinUptoRow, standIns := [], harness := (true, "2853f04138c19234fc5ebce767c15cbba191dd23b8f12457ed30701ed342e501"), looks := false }, kinds := [], alts := [], laidByText := true, laidKinds := [.data, .data], laidTests := true, laidLooks := .later }
def FnExactValJoinUptoCardSaid : Prop := Claim7.holds Tryd.pinned (.plain (OpenSpec.upto fnExactValJoinSpec)) fnExactValJoinUptoCard

/-- THE SECOND FORM's CARD OF 'laws.FnExactRangeMul'. -/
def fnExactRangeMulUptoCard : Claim7 := { stood := { row := fnExactRangeMulUptoRow, standIns := [], harness := (true, "2853f04138c19234fc5ebce767c15cbba191dd23b8f12457ed30701ed342e501"), looks := false }, kinds := [], alts := [], laidByText := true, laidKinds := [.data], laidTests := true, laidLooks := .later }
def FnExactRangeMulUptoCardSaid : Prop := Claim7.holds Tryd.pinned (.plain (OpenSpec.upto fnExactRangeMulSpec)) fnExactRangeMulUptoCard
end Rows
end Go.Proofs.YtoimomfcdhmnbaaDoor

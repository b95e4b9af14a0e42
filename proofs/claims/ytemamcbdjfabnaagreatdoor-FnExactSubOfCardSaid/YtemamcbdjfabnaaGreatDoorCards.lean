/-
  DERIVED. GIVEN WITH THE SEED: THE CARDS: each row of YtemamcbdjfabnaaGreatDoorRows.lean that lists a variable, with what it lists TIED to the program's text (the seventh form; the later family's looks); each row that meets fmt, with fmt's text TOLD by the authors' own Lean function (tested against real Go, not proved from fmt's source: count such statements apart). THE CARD IS WHAT COUNTS. Prove the row's statement (the work); the ties are given (YtemamcbdjfabnaaGreatDoorTie.lean); close each card by the builder's one call (the guide's Derived/Test/ToyasCard.lean, 'card_holds'). Laid BY PROGRAM, IN A SANDBOX (cutbox-door.mjs). By AI agents, Wed Nov 11 2026. No macro, syntax, notation, axiom, sorry.
-/
import Derived.Test.YtemamcbdjfabnaaGreatDoorRows
import GoSem.ClaimSeven
namespace Go.Proofs.YtemamcbdjfabnaaGreatDoor
namespace Rows

/-- THE TIED CARD OF 'laws.FnExactTextOf'. -/
def fnExactTextOfCard : Claim7 := { stood := { row := fnExactTextOfRow, standIns := [], harness := (true, "1b4a9d23ecb22fe70bd171e6ec1138e36fd07d797cbafa7b5d92d766e964fe7a"), looks := true }, kinds := [], alts := [], laidByText := true, laidKinds := [.data, .data, .data], laidTests := true, laidLooks := .later }
def FnExactTextOfCardSaid : Prop := Claim7.holds Tryz.pinned (.plain (OpenSpec.ofChange fnExactTextOfSpec)) fnExactTextOfCard

/-- THE TIED CARD OF 'laws.FnExactGoodValue'. -/
def fnExactGoodValueCard : Claim7 := { stood := { row := fnExactGoodValueRow, standIns := [], harness := (true, "1b4a9d23ecb22fe70bd171e6ec1138e36fd07d797cbafa7b5d92d766e964fe7a"), looks := true }, kinds := [], alts := [], laidByText := true, laidKinds := [.data, .data, .data], laidTests := true, laidLooks := .later }
def FnExactGoodValueCardSaid : Prop := Claim7.holds Tryz.pinned (.plain (OpenSpec.ofChange fnExactGoodValueSpec)) fnExactGoodValueCard

/-- THE TIED CARD OF 'laws.FnExactValueText'. -/
def fnExactValueTextCard : Claim7 := { stood := { row := fnExactValueTextRow, standIns := [], harness := (true, "1b4a9d23ecb22fe70bd171e6ec1138e36fd07d797cbafa7b5d92d766e964fe7a"), looks := true }, kinds := [], alts := [], laidByText := true, laidKinds := [.data, .data, .data], laidTests := true, laidLooks := .later }
def FnExactValueTextCardSaid : Prop := Claim7.holds Tryz.pinned (.plain (OpenSpec.ofChange fnExactValueTextSpec)) fnExactValueTextCard

/-- THE TIED CARD OF 'laws.FnExactDeepOf'. -/
def fnExactDeepOfCard : Claim7 := { stood := { row := fnExactDeepOfRow, standIns := [], harness := (true, "1b4a9d23ecb22fe70bd171e6ec1138e36fd07d797cbafa7b5d92d766e964fe7a"), looks := true }, kinds := [], alts := [], laidByText := true, laidKinds := [.data, .data, .data], laidTests := true, laidLooks := .later }
def FnExactDeepOfCardSaid : Prop := Claim7.holds Tryz.pinned (.plain (OpenSpec.ofChange fnExactDeepOfSpec)) fnExactDeepOfCard

/-- THE TIED CARD OF 'laws.FnExactKeyOf'. -/
def fnExactKeyOfCard : Claim7 := { stood := { row := fnExactKeyOfRow, standIns := [], harness := (true, "1b4a9d23ecb22fe70bd171e6ec1138e36fd07d797cbafa7b5d92d766e964fe7a"), looks := true }, kinds := [], alts := [], laidByText := true, laidKinds := [.data, .data, .data], laidTests := true, laidLooks := .later }
def FnExactKeyOfCardSaid : Prop := Claim7.holds Tryz.pinned (.plain (OpenSpec.ofChange fnExactKeyOfSpec)) fnExactKeyOfCard

/-- THE TIED CARD OF 'laws.FnExactPairKey'. -/
def fnExactPairKeyCard : Claim7 := { stood := { row := fnExactPairKeyRow, standIns := [], harness := (true, "1b4a9d23ecb22fe70bd171e6ec1138e36fd07d797cbafa7b5d92d766e964fe7a"), looks := true }, kinds := [], alts := [], laidByText := true, laidKinds := [.data, .data, .data], laidTests := true, laidLooks := .later }
def FnExactPairKeyCardSaid : Prop := Claim7.holds Tryz.pinned (.plain (OpenSpec.ofChange fnExactPairKeySpec)) fnExactPairKeyCard

/-- THE TIED CARD OF 'laws.FnExactKidsOf'. -/
def fnExactKidsOfCard : Claim7 := { stood := { row := fnExactKidsOfRow, standIns := [], harness := (true, "1b4a9d23ecb22fe70bd171e6ec1138e36fd07d797cbafa7b5d92d766e964fe7a"), looks := true }, kinds := [], alts := [], laidByText := true, laidKinds := [.data, .data, .data], laidTests := true, laidLooks := .later }
def FnExactKidsOfCardSaid : Prop := Claim7.holds Tryz.pinned (.plain (OpenSpec.ofChange fnExactKidsOfSpec)) fnExactKidsOfCard

/-- THE TIED CARD OF 'laws.FnExactIsClean'. -/
def fnExactIsCleanCard : Claim7 := { stood := { row := fnExactIsCleanRow, standIns := [], harness := (true, "1b4a9d23ecb22fe70bd171e6ec1138e36fd07d797cbafa7b5d92d766e964fe7a"), looks := true }, kinds := [], alts := [], laidByText := true, laidKinds := [.data, .data, .data], laidTests := true, laidLooks := .later }
def FnExactIsCleanCardSaid : Prop := Claim7.holds Tryz.pinned (.plain (OpenSpec.ofChange fnExactIsCleanSpec)) fnExactIsCleanCard

/-- THE TIED CARD OF 'laws.FnExactCompareValue'. -/
def fnExactCompareValueCard : Claim7 := { stood := { row := fnExactCompareValueRow, standIns := [], harness := (true, "1b4a9d23ecb22fe70bd171e6ec1138e36fd07d797cbafa7b5d92d766e964fe7a"), looks := true }, kinds := [], alts := [], laidByText := true, laidKinds := [.data, .data, .data], laidTests := true, laidLooks := .later }
def FnExactCompareValueCardSaid : Prop := Claim7.holds Tryz.pinned (.plain (OpenSpec.ofChange fnExactCompareValueSpec)) fnExactCompareValueCard

/-- THE TIED CARD OF 'laws.FnExactSubOf'. -/
def fnExactSubOfCard : Claim7 := { stood := { row := fnExactSubOfRow, standIns := [], harness := (true, "1b4a9d23ecb22fe70bd171e6ec1138e36fd07d797cbafa7b5d92d766e964fe7a"), looks := true }, kinds := [], alts := [], laidByText := true, laidKinds := [.data, .data, .data], laidTests := true, laidLooks := .later }
def FnExactSubOfCardSaid : Prop := Claim7.holds Tryz.pinned (.plain (OpenSpec.ofChange fnExactSubOfSpec)) fnExactSubOfCard

/-- THE SECOND FORM's CARD OF 'laws.FnExactTextOf'. -/
def fnExactTextOfUptoCard : Claim7 := { stood := { row := fnExactTextOfUptoRow, standIns := [], harness := (true, "1b4a9d23ecb22fe70bd171e6ec1138e36fd07d797cbafa7b5d92d766e964fe7a"), looks := true }, kinds := [], alts := [], laidByText := true, laidKinds := [.data, .data, .data], laidTests := true, laidLooks := .later }
def FnExactTextOfUptoCardSaid : Prop := Claim7.holds Tryz.pinned (.plain (OpenSpec.upto fnExactTextOfSpec)) fnExactTextOfUptoCard

/-- THE SECOND FORM's CARD OF 'laws.FnExactGoodValue'. -/
def fnExactGoodValueUptoCard : Claim7 := { stood := { row := fnExactGoodValueUptoRow, standIns := [], harness := (true, "1b4a9d23ecb22fe70bd171e6ec1138e36fd07d797cbafa7b5d92d766e964fe7a"), looks := true }, kinds := [], alts := [], laidByText := true, laidKinds := [.data, .data, .data], laidTests := true, laidLooks := .later }
def FnExactGoodValueUptoCardSaid : Prop := Claim7.holds Tryz.pinned (.plain (OpenSpec.upto fnExactGoodValueSpec)) fnExactGoodValueUptoCard

/-- THE SECOND FORM's CARD OF 'laws.FnExactValueText'. -/
def fnExactValueTextUptoCard : Claim7 := { stood := { row := fnExactValueTextUptoRow, standIns := [], harness := (true, "1b4a9d23ecb22fe70bd171e6ec1138e36fd07d797cbafa7b5d92d766e964fe7a"), looks := true }, kinds := [], alts := [], laidByText := true, laidKinds := [.data, .data, .data], laidTests := true, laidLooks := .later }
def FnExactValueTextUptoCardSaid : Prop := Claim7.holds Tryz.pinned (.plain (OpenSpec.upto fnExactValueTextSpec)) fnExactValueTextUptoCard

/-- THE SECOND FORM's CARD OF 'laws.FnExactDeepOf'. -/
def fnExactDeepOfUptoCard : Claim7 := { stood := { row := fnExactDeepOfUptoRow, standIns := [], harness := (true, "1b4a9d23ecb22fe70bd171e6ec1138e36fd07d797cbafa7b5d92d766e964fe7a"), looks := true }, kinds := [], alts := [], laidByText := true, laidKinds := [.data, .data, .data], laidTests := true, laidLooks := .later }
def FnExactDeepOfUptoCardSaid : Prop := Claim7.holds Tryz.pinned (.plain (OpenSpec.upto fnExactDeepOfSpec)) fnExactDeepOfUptoCard

/-- THE SECOND FORM's CARD OF 'laws.FnExactKeyOf'. -/
def fnExactKeyOfUptoCard : Claim7 := { stood := { row := fnExactKeyOfUptoRow, standIns := [], harness := (true, "1b4a9d23ecb22fe70bd171e6ec1138e36fd07d797cbafa7b5d92d766e964fe7a"), looks := true }, kinds := [], alts := [], laidByText := true, laidKinds := [.data, .data, .data], laidTests := true, laidLooks := .later }
def FnExactKeyOfUptoCardSaid : Prop := Claim7.holds Tryz.pinned (.plain (OpenSpec.upto fnExactKeyOfSpec)) fnExactKeyOfUptoCard

/-- THE SECOND FORM's CARD OF 'laws.FnExactPairKey'. -/
def fnExactPairKeyUptoCard : Claim7 := { stood := { row := fnExactPairKeyUptoRow, standIns := [], harness := (true, "1b4a9d23ecb22fe70bd171e6ec1138e36fd07d797cbafa7b5d92d766e964fe7a"), looks := true }, kinds := [], alts := [], laidByText := true, laidKinds := [.data, .data, .data], laidTests := true, laidLooks := .later }
def FnExactPairKeyUptoCardSaid : Prop := Claim7.holds Tryz.pinned (.plain (OpenSpec.upto fnExactPairKeySpec)) fnExactPairKeyUptoCard

/-- THE SECOND FORM's CARD OF 'laws.FnExactKidsOf'. -/
def fnExactKidsOfUptoCard : Claim7 := { stood := { row := fnExactKidsOfUptoRow, standIns := [], harness := (true, "1b4a9d23ecb22fe70bd171e6ec1138e36fd07d797cbafa7b5d92d766e964fe7a"), looks := true }, kinds := [], alts := [], laidByText := true, laidKinds := [.data, .data, .data], laidTests := true, laidLooks := .later }
def FnExactKidsOfUptoCardSaid : Prop := Claim7.holds Tryz.pinned (.plain (OpenSpec.upto fnExactKidsOfSpec)) fnExactKidsOfUptoCard

/-- THE SECOND FORM's CARD OF 'laws.FnExactIsClean'. -/
def fnExactIsCleanUptoCard : Claim7 := { stood := { row := fnExactIsCleanUptoRow, standIns := [], harness := (true, "1b4a9d23ecb22fe70bd171e6ec1138e36fd07d797cbafa7b5d92d766e964fe7a"), looks := true }, kinds := [], alts := [], laidByText := true, laidKinds := [.data, .data, .data], laidTests := true, laidLooks := .later }
def FnExactIsCleanUptoCardSaid : Prop := Claim7.holds Tryz.pinned (.plain (OpenSpec.upto fnExactIsCleanSpec)) fnExactIsCleanUptoCard

/-- THE SECOND FORM's CARD OF 'laws.FnExactCompareValue'. -/
def fnExactCompareValueUptoCard : Claim7 := { stood := { row := fnExactCompareValueUptoRow, standIns := [], harness := (true, "1b4a9d23ecb22fe70bd171e6ec1138e36fd07d797cbafa7b5d92d766e964fe7a"), looks := true }, kinds := [], alts := [], laidByText := true, laidKinds := [.data, .data, .data], laidTests := true, laidLooks := .later }
def FnExactCompareValueUptoCardSaid : Prop := Claim7.holds Tryz.pinned (.plain (OpenSpec.upto fnExactCompareValueSpec)) fnExactCompareValueUptoCard

/-- THE SECOND FORM's CARD OF 'laws.FnExactSubOf'. -/
def fnExactSubOfUptoCard : Claim7 := { stood := { row := fnExactSubOfUptoRow, standIns := [], harness := (true, "1b4a9d23ecb22fe70bd171e6ec1138e36fd07d797cbafa7b5d92d766e964fe7a"), looks := true }, kinds := [], alts := [], laidByText := true, laidKinds := [.data, .data, .data], laidTests := true, laidLooks := .later }
def FnExactSubOfUptoCardSaid : Prop := Claim7.holds Tryz.pinned (.plain (OpenSpec.upto fnExactSubOfSpec)) fnExactSubOfUptoCard
end Rows
end Go.Proofs.YtemamcbdjfabnaaGreatDoor

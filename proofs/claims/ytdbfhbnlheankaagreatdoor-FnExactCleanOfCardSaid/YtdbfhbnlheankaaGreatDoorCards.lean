/-
  DERIVED. GIVEN WITH THE SEED: THE CARDS: each row of YtdbfhbnlheankaaGreatDoorRows.lean that lists a variable, with what it lists TIED to the program's text (the seventh form; the later family's looks); each row that meets fmt, with fmt's text TOLD by the authors' own Lean function (tested against real Go, not proved from fmt's source: count such statements apart). THE CARD IS WHAT COUNTS. Prove the row's statement (the work); the ties are given (YtdbfhbnlheankaaGreatDoorTie.lean); close each card by the builder's one call (the guide's Derived/Test/ToyasCard.lean, 'card_holds'). Laid BY PROGRAM, IN A SANDBOX (cutbox-door.mjs). By AI agents, Wed Nov 11 2026. No macro, syntax, notation, axiom, sorry.
-/
import Derived.Test.YtdbfhbnlheankaaGreatDoorRows
import GoSem.ClaimSeven
namespace Go.Proofs.YtdbfhbnlheankaaGreatDoor
namespace Rows

/-- THE TIED CARD OF 'laws.FnExactCleanOf'. -/
def fnExactCleanOfCard : Claim7 := { stood := { row := fnExactCleanOfRow, standIns := [], harness := (true, "b9d19699d265cdfc0ce8d23c4144622a10e60596eaf878dde5e3a3fc08309177"), looks := true }, kinds := [], alts := [], laidByText := true, laidKinds := [.data, .data, .data], laidTests := true, laidLooks := .later }
def FnExactCleanOfCardSaid : Prop := Claim7.holds Tryz.pinned (.plain (OpenSpec.ofChange fnExactCleanOfSpec)) fnExactCleanOfCard

/-- THE TIED CARD OF 'laws.FnExactPathsIn'. -/
def fnExactPathsInCard : Claim7 := { stood := { row := fnExactPathsInRow, standIns := [], harness := (true, "b9d19699d265cdfc0ce8d23c4144622a10e60596eaf878dde5e3a3fc08309177"), looks := true }, kinds := [], alts := [], laidByText := true, laidKinds := [.data, .data, .data], laidTests := true, laidLooks := .later }
def FnExactPathsInCardSaid : Prop := Claim7.holds Tryz.pinned (.plain (OpenSpec.ofChange fnExactPathsInSpec)) fnExactPathsInCard

/-- THE TIED CARD OF 'laws.FnExactReadKey'. -/
def fnExactReadKeyCard : Claim7 := { stood := { row := fnExactReadKeyRow, standIns := [], harness := (true, "b9d19699d265cdfc0ce8d23c4144622a10e60596eaf878dde5e3a3fc08309177"), looks := true }, kinds := [], alts := [], laidByText := true, laidKinds := [.data, .data, .data], laidTests := true, laidLooks := .later }
def FnExactReadKeyCardSaid : Prop := Claim7.holds Tryz.pinned (.plain (OpenSpec.ofChange fnExactReadKeySpec)) fnExactReadKeyCard

/-- THE TIED CARD OF 'laws.FnExactIdOf'. -/
def fnExactIdOfCard : Claim7 := { stood := { row := fnExactIdOfRow, standIns := [], harness := (true, "b9d19699d265cdfc0ce8d23c4144622a10e60596eaf878dde5e3a3fc08309177"), looks := true }, kinds := [], alts := [], laidByText := true, laidKinds := [.data, .data, .data, .sentinel, .sentinel], laidTests := true, laidLooks := .later }
def FnExactIdOfCardSaid : Prop := Claim7.holds Tryz.pinned (.plain (OpenSpec.ofChange fnExactIdOfSpec)) fnExactIdOfCard

/-- THE TIED CARD OF 'laws.FnExactTidyText'. -/
def fnExactTidyTextCard : Claim7 := { stood := { row := fnExactTidyTextRow, standIns := [], harness := (true, "b9d19699d265cdfc0ce8d23c4144622a10e60596eaf878dde5e3a3fc08309177"), looks := true }, kinds := [], alts := [], laidByText := true, laidKinds := [.data, .data, .data, .data, .sentinel, .sentinel, .pinned], laidTests := true, laidLooks := .later }
def FnExactTidyTextCardSaid : Prop := Claim7.holds Tryz.pinned (.plain (OpenSpec.ofChange fnExactTidyTextSpec)) fnExactTidyTextCard

/-- THE TIED CARD OF 'laws.FnExactReadValue'. -/
def fnExactReadValueCard : Claim7 := { stood := { row := fnExactReadValueRow, standIns := [], harness := (true, "b9d19699d265cdfc0ce8d23c4144622a10e60596eaf878dde5e3a3fc08309177"), looks := true }, kinds := [], alts := [], laidByText := true, laidKinds := [.data, .data, .data, .data, .sentinel, .sentinel, .pinned], laidTests := true, laidLooks := .later }
def FnExactReadValueCardSaid : Prop := Claim7.holds Tryz.pinned (.plain (OpenSpec.ofChange fnExactReadValueSpec)) fnExactReadValueCard

/-- THE SECOND FORM's CARD OF 'laws.FnExactCleanOf'. -/
def fnExactCleanOfUptoCard : Claim7 := { stood := { row := fnExactCleanOfUptoRow, standIns := [], harness := (true, "b9d19699d265cdfc0ce8d23c4144622a10e60596eaf878dde5e3a3fc08309177"), looks := true }, kinds := [], alts := [], laidByText := true, laidKinds := [.data, .data, .data], laidTests := true, laidLooks := .later }
def FnExactCleanOfUptoCardSaid : Prop := Claim7.holds Tryz.pinned (.plain (OpenSpec.upto fnExactCleanOfSpec)) fnExactCleanOfUptoCard

/-- THE SECOND FORM's CARD OF 'laws.FnExactPathsIn'. -/
def fnExactPathsInUptoCard : Claim7 := { stood := { row := fnExactPathsInUptoRow, standIns := [], harness := (true, "b9d19699d265cdfc0ce8d23c4144622a10e60596eaf878dde5e3a3fc08309177"), looks := true }, kinds := [], alts := [], laidByText := true, laidKinds := [.data, .data, .data], laidTests := true, laidLooks := .later }
def FnExactPathsInUptoCardSaid : Prop := Claim7.holds Tryz.pinned (.plain (OpenSpec.upto fnExactPathsInSpec)) fnExactPathsInUptoCard

/-- THE SECOND FORM's CARD OF 'laws.FnExactReadKey'. -/
def fnExactReadKeyUptoCard : Claim7 := { stood := { row := fnExactReadKeyUptoRow, standIns := [], harness := (true, "b9d19699d265cdfc0ce8d23c4144622a10e60596eaf878dde5e3a3fc08309177"), looks := true }, kinds := [], alts := [], laidByText := true, laidKinds := [.data, .data, .data], laidTests := true, laidLooks := .later }
def FnExactReadKeyUptoCardSaid : Prop := Claim7.holds Tryz.pinned (.plain (OpenSpec.upto fnExactReadKeySpec)) fnExactReadKeyUptoCard

/-- THE SECOND FORM's CARD OF 'laws.FnExactIdOf'. -/
def fnExactIdOfUptoCard : Claim7 := { stood := { row := fnExactIdOfUptoRow, standIns := [], harness := (true, "b9d19699d265cdfc0ce8d23c4144622a10e60596eaf878dde5e3a3fc08309177"), looks := true }, kinds := [], alts := [], laidByText := true, laidKinds := [.data, .data, .data, .sentinel, .sentinel], laidTests := true, laidLooks := .later }
def FnExactIdOfUptoCardSaid : Prop := Claim7.holds Tryz.pinned (.plain (OpenSpec.upto fnExactIdOfSpec)) fnExactIdOfUptoCard

/-- THE SECOND FORM's CARD OF 'laws.FnExactTidyText'. -/
def fnExactTidyTextUptoCard : Claim7 := { stood := { row := fnExactTidyTextUptoRow, standIns := [], harness := (true, "b9d19699d265cdfc0ce8d23c4144622a10e60596eaf878dde5e3a3fc08309177"), looks := true }, kinds := [], alts := [], laidByText := true, laidKinds := [.data, .data, .data, .data, .sentinel, .sentinel, .pinned], laidTests := true, laidLooks := .later }
def FnExactTidyTextUptoCardSaid : Prop := Claim7.holds Tryz.pinned (.plain (OpenSpec.upto fnExactTidyTextSpec)) fnExactTidyTextUptoCard

/-- THE SECOND FORM's CARD OF 'laws.FnExactReadValue'. -/
def fnExactReadValueUptoCard : Claim7 := { stood := { row := fnExactReadValueUptoRow, standIns := [], harness := (true, "b9d19699d265cdfc0ce8d23c4144622a10e60596eaf878dde5e3a3fc08309177"), looks := true }, kinds := [], alts := [], laidByText := true, laidKinds := [.data, .data, .data, .data, .sentinel, .sentinel, .pinned], laidTests := true, laidLooks := .later }
def FnExactReadValueUptoCardSaid : Prop := Claim7.holds Tryz.pinned (.plain (OpenSpec.upto fnExactReadValueSpec)) fnExactReadValueUptoCard
end Rows
end Go.Proofs.YtdbfhbnlheankaaGreatDoor

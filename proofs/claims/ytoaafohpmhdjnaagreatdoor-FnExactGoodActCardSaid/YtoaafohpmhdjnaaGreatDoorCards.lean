/-
  DERIVED. GIVEN WITH THE SEED: THE CARDS: each row of YtoaafohpmhdjnaaGreatDoorRows.lean that lists a variable, with what it lists TIED to the program's text (the seventh form; the later family's looks); each row that meets fmt, with fmt's text TOLD by the authors' own Lean function (tested against real Go, not proved from fmt's source: count such statements apart). THE CARD IS WHAT COUNTS. Prove the row's statement (the work); the ties are given (YtoaafohpmhdjnaaGreatDoorTie.lean); close each card by the builder's one call (the guide's Derived/Test/ToyasCard.lean, 'card_holds'). Laid BY PROGRAM, IN A SANDBOX (cutbox-door.mjs). By AI agents, Wed Nov 11 2026. No macro, syntax, notation, axiom, sorry.
-/
import Derived.Test.YtoaafohpmhdjnaaGreatDoorRows
import GoSem.ClaimSeven
namespace Go.Proofs.YtoaafohpmhdjnaaGreatDoor
namespace Rows

/-- THE TIED CARD OF 'laws.FnExactPathsIn'. -/
def fnExactPathsInCard : Claim7 := { stood := { row := fnExactPathsInRow, standIns := [], harness := (true, "6e86f2ee91307de541ad9f4ec8203223655c35e618dc784dd34502f29de5d321"), looks := true }, kinds := [], alts := [], laidByText := true, laidKinds := [.data, .data, .data], laidTests := true, laidLooks := .later }
def FnExactPathsInCardSaid : Prop := Claim7.holds Tryz.pinned (.plain (OpenSpec.ofChange fnExactPathsInSpec)) fnExactPathsInCard

/-- THE TIED CARD OF 'laws.FnExactHasAt'. -/
def fnExactHasAtCard : Claim7 := { stood := { row := fnExactHasAtRow, standIns := [], harness := (true, "6e86f2ee91307de541ad9f4ec8203223655c35e618dc784dd34502f29de5d321"), looks := true }, kinds := [], alts := [], laidByText := true, laidKinds := [.data, .data, .data, .data, .sentinel, .sentinel, .pinned], laidTests := true, laidLooks := .later }
def FnExactHasAtCardSaid : Prop := Claim7.holds Tryz.pinned (.plain (OpenSpec.ofChange fnExactHasAtSpec)) fnExactHasAtCard

/-- THE TIED CARD OF 'laws.FnExactGetAt'. -/
def fnExactGetAtCard : Claim7 := { stood := { row := fnExactGetAtRow, standIns := [], harness := (true, "6e86f2ee91307de541ad9f4ec8203223655c35e618dc784dd34502f29de5d321"), looks := true }, kinds := [], alts := [], laidByText := true, laidKinds := [.data, .data, .data, .data, .sentinel, .sentinel, .pinned], laidTests := true, laidLooks := .later }
def FnExactGetAtCardSaid : Prop := Claim7.holds Tryz.pinned (.plain (OpenSpec.ofChange fnExactGetAtSpec)) fnExactGetAtCard

/-- THE TIED CARD OF 'laws.FnExactGoodAct'. -/
def fnExactGoodActCard : Claim7 := { stood := { row := fnExactGoodActRow, standIns := [], harness := (true, "6e86f2ee91307de541ad9f4ec8203223655c35e618dc784dd34502f29de5d321"), looks := true }, kinds := [], alts := [], laidByText := true, laidKinds := [.data, .data, .data, .data, .pinned], laidTests := true, laidLooks := .later }
def FnExactGoodActCardSaid : Prop := Claim7.holds Tryz.pinned (.plain (OpenSpec.ofChange fnExactGoodActSpec)) fnExactGoodActCard

/-- THE TIED CARD OF 'laws.FnExactRemoveAt'. -/
def fnExactRemoveAtCard : Claim7 := { stood := { row := fnExactRemoveAtRow, standIns := [], harness := (true, "6e86f2ee91307de541ad9f4ec8203223655c35e618dc784dd34502f29de5d321"), looks := true }, kinds := [], alts := [], laidByText := true, laidKinds := [.data, .data, .data, .data, .sentinel, .sentinel, .pinned], laidTests := true, laidLooks := .later }
def FnExactRemoveAtCardSaid : Prop := Claim7.holds Tryz.pinned (.plain (OpenSpec.ofChange fnExactRemoveAtSpec)) fnExactRemoveAtCard

/-- THE TIED CARD OF 'laws.FnExactGoodFilter'. -/
def fnExactGoodFilterCard : Claim7 := { stood := { row := fnExactGoodFilterRow, standIns := [], harness := (true, "6e86f2ee91307de541ad9f4ec8203223655c35e618dc784dd34502f29de5d321"), looks := true }, kinds := [], alts := [], laidByText := true, laidKinds := [.data, .data, .data, .data, .pinned], laidTests := true, laidLooks := .later }
def FnExactGoodFilterCardSaid : Prop := Claim7.holds Tryz.pinned (.plain (OpenSpec.ofChange fnExactGoodFilterSpec)) fnExactGoodFilterCard

/-- THE TIED CARD OF 'laws.FnExactTermsIn'. -/
def fnExactTermsInCard : Claim7 := { stood := { row := fnExactTermsInRow, standIns := [], harness := (true, "6e86f2ee91307de541ad9f4ec8203223655c35e618dc784dd34502f29de5d321"), looks := true }, kinds := [], alts := [], laidByText := true, laidKinds := [.data, .data, .data, .data, .pinned], laidTests := true, laidLooks := .later }
def FnExactTermsInCardSaid : Prop := Claim7.holds Tryz.pinned (.plain (OpenSpec.ofChange fnExactTermsInSpec)) fnExactTermsInCard

/-- THE TIED CARD OF 'laws.FnExactNegateFilter'. -/
def fnExactNegateFilterCard : Claim7 := { stood := { row := fnExactNegateFilterRow, standIns := [], harness := (true, "6e86f2ee91307de541ad9f4ec8203223655c35e618dc784dd34502f29de5d321"), looks := true }, kinds := [], alts := [], laidByText := true, laidKinds := [.data, .data, .data, .data, .pinned], laidTests := true, laidLooks := .later }
def FnExactNegateFilterCardSaid : Prop := Claim7.holds Tryz.pinned (.plain (OpenSpec.ofChange fnExactNegateFilterSpec)) fnExactNegateFilterCard

/-- THE TIED CARD OF 'laws.FnExactAndFilters'. -/
def fnExactAndFiltersCard : Claim7 := { stood := { row := fnExactAndFiltersRow, standIns := [], harness := (true, "6e86f2ee91307de541ad9f4ec8203223655c35e618dc784dd34502f29de5d321"), looks := true }, kinds := [], alts := [], laidByText := true, laidKinds := [.data, .data, .data, .data, .pinned], laidTests := true, laidLooks := .later }
def FnExactAndFiltersCardSaid : Prop := Claim7.holds Tryz.pinned (.plain (OpenSpec.ofChange fnExactAndFiltersSpec)) fnExactAndFiltersCard

/-- THE TIED CARD OF 'laws.FnExactPlainFilter'. -/
def fnExactPlainFilterCard : Claim7 := { stood := { row := fnExactPlainFilterRow, standIns := [], harness := (true, "6e86f2ee91307de541ad9f4ec8203223655c35e618dc784dd34502f29de5d321"), looks := true }, kinds := [], alts := [], laidByText := true, laidKinds := [.data, .data, .data, .data, .pinned], laidTests := true, laidLooks := .later }
def FnExactPlainFilterCardSaid : Prop := Claim7.holds Tryz.pinned (.plain (OpenSpec.ofChange fnExactPlainFilterSpec)) fnExactPlainFilterCard

/-- THE TIED CARD OF 'laws.FnExactMatchFilter'. -/
def fnExactMatchFilterCard : Claim7 := { stood := { row := fnExactMatchFilterRow, standIns := [], harness := (true, "6e86f2ee91307de541ad9f4ec8203223655c35e618dc784dd34502f29de5d321"), looks := true }, kinds := [], alts := [], laidByText := true, laidKinds := [.data, .data, .data, .data, .sentinel, .sentinel, .pinned], laidTests := true, laidLooks := .later }
def FnExactMatchFilterCardSaid : Prop := Claim7.holds Tryz.pinned (.plain (OpenSpec.ofChange fnExactMatchFilterSpec)) fnExactMatchFilterCard

/-- THE TIED CARD OF 'laws.FnExactSelectValues'. -/
def fnExactSelectValuesCard : Claim7 := { stood := { row := fnExactSelectValuesRow, standIns := [], harness := (true, "6e86f2ee91307de541ad9f4ec8203223655c35e618dc784dd34502f29de5d321"), looks := true }, kinds := [], alts := [], laidByText := true, laidKinds := [.data, .data, .data, .data, .sentinel, .sentinel, .pinned], laidTests := true, laidLooks := .later }
def FnExactSelectValuesCardSaid : Prop := Claim7.holds Tryz.pinned (.plain (OpenSpec.ofChange fnExactSelectValuesSpec)) fnExactSelectValuesCard

/-- THE SECOND FORM's CARD OF 'laws.FnExactPathsIn'. -/
def fnExactPathsInUptoCard : Claim7 := { stood := { row := fnExactPathsInUptoRow, standIns := [], harness := (true, "6e86f2ee91307de541ad9f4ec8203223655c35e618dc784dd34502f29de5d321"), looks := true }, kinds := [], alts := [], laidByText := true, laidKinds := [.data, .data, .data], laidTests := true, laidLooks := .later }
def FnExactPathsInUptoCardSaid : Prop := Claim7.holds Tryz.pinned (.plain (OpenSpec.upto fnExactPathsInSpec)) fnExactPathsInUptoCard

/-- THE SECOND FORM's CARD OF 'laws.FnExactHasAt'. -/
def fnExactHasAtUptoCard : Claim7 := { stood := { row := fnExactHasAtUptoRow, standIns := [], harness := (true, "6e86f2ee91307de541ad9f4ec8203223655c35e618dc784dd34502f29de5d321"), looks := true }, kinds := [], alts := [], laidByText := true, laidKinds := [.data, .data, .data, .data, .sentinel, .sentinel, .pinned], laidTests := true, laidLooks := .later }
def FnExactHasAtUptoCardSaid : Prop := Claim7.holds Tryz.pinned (.plain (OpenSpec.upto fnExactHasAtSpec)) fnExactHasAtUptoCard

/-- THE SECOND FORM's CARD OF 'laws.FnExactGetAt'. -/
def fnExactGetAtUptoCard : Claim7 := { stood := { row := fnExactGetAtUptoRow, standIns := [], harness := (true, "6e86f2ee91307de541ad9f4ec8203223655c35e618dc784dd34502f29de5d321"), looks := true }, kinds := [], alts := [], laidByText := true, laidKinds := [.data, .data, .data, .data, .sentinel, .sentinel, .pinned], laidTests := true, laidLooks := .later }
def FnExactGetAtUptoCardSaid : Prop := Claim7.holds Tryz.pinned (.plain (OpenSpec.upto fnExactGetAtSpec)) fnExactGetAtUptoCard

/-- THE SECOND FORM's CARD OF 'laws.FnExactGoodAct'. -/
def fnExactGoodActUptoCard : Claim7 := { stood := { row := fnExactGoodActUptoRow, standIns := [], harness := (true, "6e86f2ee91307de541ad9f4ec8203223655c35e618dc784dd34502f29de5d321"), looks := true }, kinds := [], alts := [], laidByText := true, laidKinds := [.data, .data, .data, .data, .pinned], laidTests := true, laidLooks := .later }
def FnExactGoodActUptoCardSaid : Prop := Claim7.holds Tryz.pinned (.plain (OpenSpec.upto fnExactGoodActSpec)) fnExactGoodActUptoCard

/-- THE SECOND FORM's CARD OF 'laws.FnExactRemoveAt'. -/
def fnExactRemoveAtUptoCard : Claim7 := { stood := { row := fnExactRemoveAtUptoRow, standIns := [], harness := (true, "6e86f2ee91307de541ad9f4ec8203223655c35e618dc784dd34502f29de5d321"), looks := true }, kinds := [], alts := [], laidByText := true, laidKinds := [.data, .data, .data, .data, .sentinel, .sentinel, .pinned], laidTests := true, laidLooks := .later }
def FnExactRemoveAtUptoCardSaid : Prop := Claim7.holds Tryz.pinned (.plain (OpenSpec.upto fnExactRemoveAtSpec)) fnExactRemoveAtUptoCard

/-- THE SECOND FORM's CARD OF 'laws.FnExactGoodFilter'. -/
def fnExactGoodFilterUptoCard : Claim7 := { stood := { row := fnExactGoodFilterUptoRow, standIns := [], harness := (true, "6e86f2ee91307de541ad9f4ec8203223655c35e618dc784dd34502f29de5d321"), looks := true }, kinds := [], alts := [], laidByText := true, laidKinds := [.data, .data, .data, .data, .pinned], laidTests := true, laidLooks := .later }
def FnExactGoodFilterUptoCardSaid : Prop := Claim7.holds Tryz.pinned (.plain (OpenSpec.upto fnExactGoodFilterSpec)) fnExactGoodFilterUptoCard

/-- THE SECOND FORM's CARD OF 'laws.FnExactTermsIn'. -/
def fnExactTermsInUptoCard : Claim7 := { stood := { row := fnExactTermsInUptoRow, standIns := [], harness := (true, "6e86f2ee91307de541ad9f4ec8203223655c35e618dc784dd34502f29de5d321"), looks := true }, kinds := [], alts := [], laidByText := true, laidKinds := [.data, .data, .data, .data, .pinned], laidTests := true, laidLooks := .later }
def FnExactTermsInUptoCardSaid : Prop := Claim7.holds Tryz.pinned (.plain (OpenSpec.upto fnExactTermsInSpec)) fnExactTermsInUptoCard

/-- THE SECOND FORM's CARD OF 'laws.FnExactNegateFilter'. -/
def fnExactNegateFilterUptoCard : Claim7 := { stood := { row := fnExactNegateFilterUptoRow, standIns := [], harness := (true, "6e86f2ee91307de541ad9f4ec8203223655c35e618dc784dd34502f29de5d321"), looks := true }, kinds := [], alts := [], laidByText := true, laidKinds := [.data, .data, .data, .data, .pinned], laidTests := true, laidLooks := .later }
def FnExactNegateFilterUptoCardSaid : Prop := Claim7.holds Tryz.pinned (.plain (OpenSpec.upto fnExactNegateFilterSpec)) fnExactNegateFilterUptoCard

/-- THE SECOND FORM's CARD OF 'laws.FnExactAndFilters'. -/
def fnExactAndFiltersUptoCard : Claim7 := { stood := { row := fnExactAndFiltersUptoRow, standIns := [], harness := (true, "6e86f2ee91307de541ad9f4ec8203223655c35e618dc784dd34502f29de5d321"), looks := true }, kinds := [], alts := [], laidByText := true, laidKinds := [.data, .data, .data, .data, .pinned], laidTests := true, laidLooks := .later }
def FnExactAndFiltersUptoCardSaid : Prop := Claim7.holds Tryz.pinned (.plain (OpenSpec.upto fnExactAndFiltersSpec)) fnExactAndFiltersUptoCard

/-- THE SECOND FORM's CARD OF 'laws.FnExactPlainFilter'. -/
def fnExactPlainFilterUptoCard : Claim7 := { stood := { row := fnExactPlainFilterUptoRow, standIns := [], harness := (true, "6e86f2ee91307de541ad9f4ec8203223655c35e618dc784dd34502f29de5d321"), looks := true }, kinds := [], alts := [], laidByText := true, laidKinds := [.data, .data, .data, .data, .pinned], laidTests := true, laidLooks := .later }
def FnExactPlainFilterUptoCardSaid : Prop := Claim7.holds Tryz.pinned (.plain (OpenSpec.upto fnExactPlainFilterSpec)) fnExactPlainFilterUptoCard

/-- THE SECOND FORM's CARD OF 'laws.FnExactMatchFilter'. -/
def fnExactMatchFilterUptoCard : Claim7 := { stood := { row := fnExactMatchFilterUptoRow, standIns := [], harness := (true, "6e86f2ee91307de541ad9f4ec8203223655c35e618dc784dd34502f29de5d321"), looks := true }, kinds := [], alts := [], laidByText := true, laidKinds := [.data, .data, .data, .data, .sentinel, .sentinel, .pinned], laidTests := true, laidLooks := .later }
def FnExactMatchFilterUptoCardSaid : Prop := Claim7.holds Tryz.pinned (.plain (OpenSpec.upto fnExactMatchFilterSpec)) fnExactMatchFilterUptoCard

/-- THE SECOND FORM's CARD OF 'laws.FnExactSelectValues'. -/
def fnExactSelectValuesUptoCard : Claim7 := { stood := { row := fnExactSelectValuesUptoRow, standIns := [], harness := (true, "6e86f2ee91307de541ad9f4ec8203223655c35e618dc784dd34502f29de5d321"), looks := true }, kinds := [], alts := [], laidByText := true, laidKinds := [.data, .data, .data, .data, .sentinel, .sentinel, .pinned], laidTests := true, laidLooks := .later }
def FnExactSelectValuesUptoCardSaid : Prop := Claim7.holds Tryz.pinned (.plain (OpenSpec.upto fnExactSelectValuesSpec)) fnExactSelectValuesUptoCard
end Rows
end Go.Proofs.YtoaafohpmhdjnaaGreatDoor

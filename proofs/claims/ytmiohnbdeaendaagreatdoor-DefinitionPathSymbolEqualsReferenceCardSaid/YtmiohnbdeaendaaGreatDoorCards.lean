/-
  DERIVED. GIVEN WITH THE SEED: THE CARDS: each row of YtmiohnbdeaendaaGreatDoorRows.lean that lists a variable, with what it lists TIED to the program's text (the seventh form; the later family's looks); each row that meets fmt, with fmt's text TOLD by the authors' own Lean function (tested against real Go, not proved from fmt's source: count such statements apart). THE CARD IS WHAT COUNTS. Prove the row's statement (the work); the ties are given (YtmiohnbdeaendaaGreatDoorTie.lean); close each card by the builder's one call (the guide's Derived/Test/ToyasCard.lean, 'card_holds'). Laid BY PROGRAM, IN A SANDBOX (cutbox-door.mjs). By AI agents, Wed Nov 11 2026. No macro, syntax, notation, axiom, sorry.
-/
import Derived.Test.YtmiohnbdeaendaaGreatDoorRows
import GoSem.ClaimSeven
namespace Go.Proofs.YtmiohnbdeaendaaGreatDoor
namespace Rows

/-- THE TIED CARD OF 'glossatorkeep4.DefinitionEnclosingNested'. -/
def definitionEnclosingNestedCard : Claim7 := { stood := { row := definitionEnclosingNestedRow, standIns := [], harness := (true, "60845e39b22b985430d8cfbcb75612f2a89de2316a6bdb6dbc1b9613b73a5fc6"), looks := true }, kinds := [], alts := [], laidByText := true, laidKinds := [.data, .listed, .sentinel, .sentinel, .data, .data, .data], laidTests := true, laidLooks := .later }
def DefinitionEnclosingNestedCardSaid : Prop := Claim7.holds Tryz.pinned (.plain (OpenSpec.ofChange definitionEnclosingNestedSpec)) definitionEnclosingNestedCard

/-- THE TIED CARD OF 'glossatorlaw4.DefinitionFindEqualsReference'. -/
def definitionFindEqualsReferenceCard : Claim7 := { stood := { row := definitionFindEqualsReferenceRow, standIns := [], harness := (true, "60845e39b22b985430d8cfbcb75612f2a89de2316a6bdb6dbc1b9613b73a5fc6"), looks := true }, kinds := [], alts := [], laidByText := true, laidKinds := [.data, .listed, .sentinel, .sentinel, .data, .data, .data], laidTests := true, laidLooks := .later }
def DefinitionFindEqualsReferenceCardSaid : Prop := Claim7.holds Tryz.pinned (.plain (OpenSpec.ofChange definitionFindEqualsReferenceSpec)) definitionFindEqualsReferenceCard

/-- THE TIED CARD OF 'glossatorlaw4.DefinitionEnclosingEqualsReference'. -/
def definitionEnclosingEqualsReferenceCard : Claim7 := { stood := { row := definitionEnclosingEqualsReferenceRow, standIns := [], harness := (true, "60845e39b22b985430d8cfbcb75612f2a89de2316a6bdb6dbc1b9613b73a5fc6"), looks := true }, kinds := [], alts := [], laidByText := true, laidKinds := [.data, .listed, .sentinel, .sentinel, .data, .data, .data], laidTests := true, laidLooks := .later }
def DefinitionEnclosingEqualsReferenceCardSaid : Prop := Claim7.holds Tryz.pinned (.plain (OpenSpec.ofChange definitionEnclosingEqualsReferenceSpec)) definitionEnclosingEqualsReferenceCard

/-- THE TIED CARD OF 'glossatorlaw4.DefinitionPathSymbolEqualsReference'. -/
def definitionPathSymbolEqualsReferenceCard : Claim7 := { stood := { row := definitionPathSymbolEqualsReferenceRow, standIns := [], harness := (true, "60845e39b22b985430d8cfbcb75612f2a89de2316a6bdb6dbc1b9613b73a5fc6"), looks := true }, kinds := [], alts := [], laidByText := true, laidKinds := [.data, .listed, .sentinel, .sentinel, .data, .data, .data], laidTests := true, laidLooks := .later }
def DefinitionPathSymbolEqualsReferenceCardSaid : Prop := Claim7.holds Tryz.pinned (.plain (OpenSpec.ofChange definitionPathSymbolEqualsReferenceSpec)) definitionPathSymbolEqualsReferenceCard

/-- THE TIED CARD OF 'glossatorlaw4.DefinitionImplementationsEqualsReference'. -/
def definitionImplementationsEqualsReferenceCard : Claim7 := { stood := { row := definitionImplementationsEqualsReferenceRow, standIns := [], harness := (true, "60845e39b22b985430d8cfbcb75612f2a89de2316a6bdb6dbc1b9613b73a5fc6"), looks := true }, kinds := [], alts := [], laidByText := true, laidKinds := [.data, .listed, .sentinel, .sentinel, .data, .data, .data], laidTests := true, laidLooks := .later }
def DefinitionImplementationsEqualsReferenceCardSaid : Prop := Claim7.holds Tryz.pinned (.plain (OpenSpec.ofChange definitionImplementationsEqualsReferenceSpec)) definitionImplementationsEqualsReferenceCard

/-- THE TIED CARD OF 'glossatorkeep4.InlayhintSorted'. -/
def inlayhintSortedCard : Claim7 := { stood := { row := inlayhintSortedRow, standIns := [], harness := (true, "60845e39b22b985430d8cfbcb75612f2a89de2316a6bdb6dbc1b9613b73a5fc6"), looks := true }, kinds := [], alts := [], laidByText := true, laidKinds := [.data, .listed, .sentinel, .sentinel, .data, .data, .data], laidTests := true, laidLooks := .later }
def InlayhintSortedCardSaid : Prop := Claim7.holds Tryz.pinned (.plain (OpenSpec.ofChange inlayhintSortedSpec)) inlayhintSortedCard

/-- THE TIED CARD OF 'glossatorlaw4.InlayhintParametersEqualReference'. -/
def inlayhintParametersEqualReferenceCard : Claim7 := { stood := { row := inlayhintParametersEqualReferenceRow, standIns := [], harness := (true, "60845e39b22b985430d8cfbcb75612f2a89de2316a6bdb6dbc1b9613b73a5fc6"), looks := true }, kinds := [], alts := [], laidByText := true, laidKinds := [.data, .listed, .sentinel, .sentinel, .data, .data, .data], laidTests := true, laidLooks := .later }
def InlayhintParametersEqualReferenceCardSaid : Prop := Claim7.holds Tryz.pinned (.plain (OpenSpec.ofChange inlayhintParametersEqualReferenceSpec)) inlayhintParametersEqualReferenceCard

/-- THE TIED CARD OF 'glossatorlaw4.InlayhintTypesEqualReference'. -/
def inlayhintTypesEqualReferenceCard : Claim7 := { stood := { row := inlayhintTypesEqualReferenceRow, standIns := [], harness := (true, "60845e39b22b985430d8cfbcb75612f2a89de2316a6bdb6dbc1b9613b73a5fc6"), looks := true }, kinds := [], alts := [], laidByText := true, laidKinds := [.data, .listed, .sentinel, .sentinel, .data, .data, .data], laidTests := true, laidLooks := .later }
def InlayhintTypesEqualReferenceCardSaid : Prop := Claim7.holds Tryz.pinned (.plain (OpenSpec.ofChange inlayhintTypesEqualReferenceSpec)) inlayhintTypesEqualReferenceCard

/-- THE SECOND FORM's CARD OF 'glossatorkeep4.DefinitionEnclosingNested'. -/
def definitionEnclosingNestedUptoCard : Claim7 := { stood := { row := definitionEnclosingNestedUptoRow, standIns := [], harness := (true, "60845e39b22b985430d8cfbcb75612f2a89de2316a6bdb6dbc1b9613b73a5fc6"), looks := true }, kinds := [], alts := [], laidByText := true, laidKinds := [.data, .listed, .sentinel, .sentinel, .data, .data, .data], laidTests := true, laidLooks := .later }
def DefinitionEnclosingNestedUptoCardSaid : Prop := Claim7.holds Tryz.pinned (.plain (OpenSpec.upto definitionEnclosingNestedSpec)) definitionEnclosingNestedUptoCard

/-- THE SECOND FORM's CARD OF 'glossatorlaw4.DefinitionFindEqualsReference'. -/
def definitionFindEqualsReferenceUptoCard : Claim7 := { stood := { row := definitionFindEqualsReferenceUptoRow, standIns := [], harness := (true, "60845e39b22b985430d8cfbcb75612f2a89de2316a6bdb6dbc1b9613b73a5fc6"), looks := true }, kinds := [], alts := [], laidByText := true, laidKinds := [.data, .listed, .sentinel, .sentinel, .data, .data, .data], laidTests := true, laidLooks := .later }
def DefinitionFindEqualsReferenceUptoCardSaid : Prop := Claim7.holds Tryz.pinned (.plain (OpenSpec.upto definitionFindEqualsReferenceSpec)) definitionFindEqualsReferenceUptoCard

/-- THE SECOND FORM's CARD OF 'glossatorlaw4.DefinitionEnclosingEqualsReference'. -/
def definitionEnclosingEqualsReferenceUptoCard : Claim7 := { stood := { row := definitionEnclosingEqualsReferenceUptoRow, standIns := [], harness := (true, "60845e39b22b985430d8cfbcb75612f2a89de2316a6bdb6dbc1b9613b73a5fc6"), looks := true }, kinds := [], alts := [], laidByText := true, laidKinds := [.data, .listed, .sentinel, .sentinel, .data, .data, .data], laidTests := true, laidLooks := .later }
def DefinitionEnclosingEqualsReferenceUptoCardSaid : Prop := Claim7.holds Tryz.pinned (.plain (OpenSpec.upto definitionEnclosingEqualsReferenceSpec)) definitionEnclosingEqualsReferenceUptoCard

/-- THE SECOND FORM's CARD OF 'glossatorlaw4.DefinitionPathSymbolEqualsReference'. -/
def definitionPathSymbolEqualsReferenceUptoCard : Claim7 := { stood := { row := definitionPathSymbolEqualsReferenceUptoRow, standIns := [], harness := (true, "60845e39b22b985430d8cfbcb75612f2a89de2316a6bdb6dbc1b9613b73a5fc6"), looks := true }, kinds := [], alts := [], laidByText := true, laidKinds := [.data, .listed, .sentinel, .sentinel, .data, .data, .data], laidTests := true, laidLooks := .later }
def DefinitionPathSymbolEqualsReferenceUptoCardSaid : Prop := Claim7.holds Tryz.pinned (.plain (OpenSpec.upto definitionPathSymbolEqualsReferenceSpec)) definitionPathSymbolEqualsReferenceUptoCard

/-- THE SECOND FORM's CARD OF 'glossatorlaw4.DefinitionImplementationsEqualsReference'. -/
def definitionImplementationsEqualsReferenceUptoCard : Claim7 := { stood := { row := definitionImplementationsEqualsReferenceUptoRow, standIns := [], harness := (true, "60845e39b22b985430d8cfbcb75612f2a89de2316a6bdb6dbc1b9613b73a5fc6"), looks := true }, kinds := [], alts := [], laidByText := true, laidKinds := [.data, .listed, .sentinel, .sentinel, .data, .data, .data], laidTests := true, laidLooks := .later }
def DefinitionImplementationsEqualsReferenceUptoCardSaid : Prop := Claim7.holds Tryz.pinned (.plain (OpenSpec.upto definitionImplementationsEqualsReferenceSpec)) definitionImplementationsEqualsReferenceUptoCard

/-- THE SECOND FORM's CARD OF 'glossatorkeep4.InlayhintSorted'. -/
def inlayhintSortedUptoCard : Claim7 := { stood := { row := inlayhintSortedUptoRow, standIns := [], harness := (true, "60845e39b22b985430d8cfbcb75612f2a89de2316a6bdb6dbc1b9613b73a5fc6"), looks := true }, kinds := [], alts := [], laidByText := true, laidKinds := [.data, .listed, .sentinel, .sentinel, .data, .data, .data], laidTests := true, laidLooks := .later }
def InlayhintSortedUptoCardSaid : Prop := Claim7.holds Tryz.pinned (.plain (OpenSpec.upto inlayhintSortedSpec)) inlayhintSortedUptoCard

/-- THE SECOND FORM's CARD OF 'glossatorlaw4.InlayhintParametersEqualReference'. -/
def inlayhintParametersEqualReferenceUptoCard : Claim7 := { stood := { row := inlayhintParametersEqualReferenceUptoRow, standIns := [], harness := (true, "60845e39b22b985430d8cfbcb75612f2a89de2316a6bdb6dbc1b9613b73a5fc6"), looks := true }, kinds := [], alts := [], laidByText := true, laidKinds := [.data, .listed, .sentinel, .sentinel, .data, .data, .data], laidTests := true, laidLooks := .later }
def InlayhintParametersEqualReferenceUptoCardSaid : Prop := Claim7.holds Tryz.pinned (.plain (OpenSpec.upto inlayhintParametersEqualReferenceSpec)) inlayhintParametersEqualReferenceUptoCard

/-- THE SECOND FORM's CARD OF 'glossatorlaw4.InlayhintTypesEqualReference'. -/
def inlayhintTypesEqualReferenceUptoCard : Claim7 := { stood := { row := inlayhintTypesEqualReferenceUptoRow, standIns := [], harness := (true, "60845e39b22b985430d8cfbcb75612f2a89de2316a6bdb6dbc1b9613b73a5fc6"), looks := true }, kinds := [], alts := [], laidByText := true, laidKinds := [.data, .listed, .sentinel, .sentinel, .data, .data, .data], laidTests := true, laidLooks := .later }
def InlayhintTypesEqualReferenceUptoCardSaid : Prop := Claim7.holds Tryz.pinned (.plain (OpenSpec.upto inlayhintTypesEqualReferenceSpec)) inlayhintTypesEqualReferenceUptoCard
end Rows
end Go.Proofs.YtmiohnbdeaendaaGreatDoor

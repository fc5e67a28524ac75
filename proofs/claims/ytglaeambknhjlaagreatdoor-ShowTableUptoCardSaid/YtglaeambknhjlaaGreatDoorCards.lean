/-
  DERIVED. GIVEN WITH THE SEED: THE CARDS: each row of YtglaeambknhjlaaGreatDoorRows.lean that lists a variable, with what it lists TIED to the program's text (the seventh form; the later family's looks); each row that meets fmt, with fmt's text TOLD by the authors' own Lean function (tested against real Go, not proved from fmt's source: count such statements apart). THE CARD IS WHAT COUNTS. Prove the row's statement (the work); the ties are given (YtglaeambknhjlaaGreatDoorTie.lean); close each card by the builder's one call (the guide's Derived/Test/ToyasCard.lean, 'card_holds'). Laid BY PROGRAM, IN A SANDBOX (cutbox-door.mjs). By AI agents, Wed Nov 11 2026. No macro, syntax, notation, axiom, sorry.
-/
import Derived.Test.YtglaeambknhjlaaGreatDoorRows
import GoSem.ClaimSeven
namespace Go.Proofs.YtglaeambknhjlaaGreatDoor
namespace Rows

/-- THE TIED CARD OF 'cubitlaw25.ShowNumbers'. -/
def showNumbersCard : Claim7 := { stood := { row := showNumbersRow, standIns := [], harness := (true, "7d3cd22948449f0bb614e393d8141ba8b85814a04f837ecd86ba967e365b6c5c"), looks := false }, kinds := [], alts := [], laidByText := true, laidKinds := [.data, .data, .data], laidTests := true, laidLooks := .later }
def ShowNumbersCardSaid : Prop := Claim7.holds Tryz.pinned (.plain (OpenSpec.ofChange showNumbersSpec)) showNumbersCard

/-- THE TIED CARD OF 'cubitlaw25.ShowTable'. -/
def showTableCard : Claim7 := { stood := { row := showTableRow, standIns := [], harness := (true, "7d3cd22948449f0bb614e393d8141ba8b85814a04f837ecd86ba967e365b6c5c"), looks := false }, kinds := [], alts := [], laidByText := true, laidKinds := [.data, .data, .data], laidTests := true, laidLooks := .later }
def ShowTableCardSaid : Prop := Claim7.holds Tryz.pinned (.plain (OpenSpec.ofChange showTableSpec)) showTableCard

/-- THE TIED CARD OF 'cubitlaw02.RatPrints'. -/
def ratPrintsCard : Claim7 := { stood := { row := ratPrintsRow, standIns := [], harness := (true, "7d3cd22948449f0bb614e393d8141ba8b85814a04f837ecd86ba967e365b6c5c"), looks := false }, kinds := [], alts := [], laidByText := true, laidKinds := [.data, .pinned], laidTests := true, laidLooks := .later }
def RatPrintsCardSaid : Prop := Claim7.holds Tryz.pinned (.plain (OpenSpec.ofChange ratPrintsSpec)) ratPrintsCard

/-- THE TIED CARD OF 'cubitlaw02.RatMakes'. -/
def ratMakesCard : Claim7 := { stood := { row := ratMakesRow, standIns := [], harness := (true, "7d3cd22948449f0bb614e393d8141ba8b85814a04f837ecd86ba967e365b6c5c"), looks := false }, kinds := [], alts := [], laidByText := true, laidKinds := [.data, .pinned], laidTests := true, laidLooks := .later }
def RatMakesCardSaid : Prop := Claim7.holds Tryz.pinned (.plain (OpenSpec.ofChange ratMakesSpec)) ratMakesCard

/-- THE TIED CARD OF 'cubitlaw02.RatSums'. -/
def ratSumsCard : Claim7 := { stood := { row := ratSumsRow, standIns := [], harness := (true, "7d3cd22948449f0bb614e393d8141ba8b85814a04f837ecd86ba967e365b6c5c"), looks := false }, kinds := [], alts := [], laidByText := true, laidKinds := [.data, .pinned], laidTests := true, laidLooks := .later }
def RatSumsCardSaid : Prop := Claim7.holds Tryz.pinned (.plain (OpenSpec.ofChange ratSumsSpec)) ratSumsCard

/-- THE TIED CARD OF 'cubitlaw02.RatOrdered'. -/
def ratOrderedCard : Claim7 := { stood := { row := ratOrderedRow, standIns := [], harness := (true, "7d3cd22948449f0bb614e393d8141ba8b85814a04f837ecd86ba967e365b6c5c"), looks := false }, kinds := [], alts := [], laidByText := true, laidKinds := [.data, .pinned], laidTests := true, laidLooks := .later }
def RatOrderedCardSaid : Prop := Claim7.holds Tryz.pinned (.plain (OpenSpec.ofChange ratOrderedSpec)) ratOrderedCard

/-- THE TIED CARD OF 'cubitlaw02.RatChains'. -/
def ratChainsCard : Claim7 := { stood := { row := ratChainsRow, standIns := [], harness := (true, "7d3cd22948449f0bb614e393d8141ba8b85814a04f837ecd86ba967e365b6c5c"), looks := false }, kinds := [], alts := [], laidByText := true, laidKinds := [.data, .pinned], laidTests := true, laidLooks := .later }
def RatChainsCardSaid : Prop := Claim7.holds Tryz.pinned (.plain (OpenSpec.ofChange ratChainsSpec)) ratChainsCard

/-- THE TIED CARD OF 'cubitlaw02.RatFractions'. -/
def ratFractionsCard : Claim7 := { stood := { row := ratFractionsRow, standIns := [], harness := (true, "7d3cd22948449f0bb614e393d8141ba8b85814a04f837ecd86ba967e365b6c5c"), looks := false }, kinds := [], alts := [], laidByText := true, laidKinds := [.data, .pinned], laidTests := true, laidLooks := .later }
def RatFractionsCardSaid : Prop := Claim7.holds Tryz.pinned (.plain (OpenSpec.ofChange ratFractionsSpec)) ratFractionsCard

/-- THE TIED CARD OF 'cubitlaw02.RatOrders'. -/
def ratOrdersCard : Claim7 := { stood := { row := ratOrdersRow, standIns := [], harness := (true, "7d3cd22948449f0bb614e393d8141ba8b85814a04f837ecd86ba967e365b6c5c"), looks := false }, kinds := [], alts := [], laidByText := true, laidKinds := [.data, .pinned], laidTests := true, laidLooks := .later }
def RatOrdersCardSaid : Prop := Claim7.holds Tryz.pinned (.plain (OpenSpec.ofChange ratOrdersSpec)) ratOrdersCard

/-- THE TIED CARD OF 'cubitlaw02.RatSimple'. -/
def ratSimpleCard : Claim7 := { stood := { row := ratSimpleRow, standIns := [], harness := (true, "7d3cd22948449f0bb614e393d8141ba8b85814a04f837ecd86ba967e365b6c5c"), looks := false }, kinds := [], alts := [], laidByText := true, laidKinds := [.data, .pinned], laidTests := true, laidLooks := .later }
def RatSimpleCardSaid : Prop := Claim7.holds Tryz.pinned (.plain (OpenSpec.ofChange ratSimpleSpec)) ratSimpleCard

/-- THE TIED CARD OF 'cubitlaw02.RatBack'. -/
def ratBackCard : Claim7 := { stood := { row := ratBackRow, standIns := [], harness := (true, "7d3cd22948449f0bb614e393d8141ba8b85814a04f837ecd86ba967e365b6c5c"), looks := false }, kinds := [], alts := [], laidByText := true, laidKinds := [.data, .pinned], laidTests := true, laidLooks := .later }
def RatBackCardSaid : Prop := Claim7.holds Tryz.pinned (.plain (OpenSpec.ofChange ratBackSpec)) ratBackCard

/-- THE TIED CARD OF 'cubitlaw02.RatSimplest'. -/
def ratSimplestCard : Claim7 := { stood := { row := ratSimplestRow, standIns := [], harness := (true, "7d3cd22948449f0bb614e393d8141ba8b85814a04f837ecd86ba967e365b6c5c"), looks := false }, kinds := [], alts := [], laidByText := true, laidKinds := [.data, .pinned], laidTests := true, laidLooks := .later }
def RatSimplestCardSaid : Prop := Claim7.holds Tryz.pinned (.plain (OpenSpec.ofChange ratSimplestSpec)) ratSimplestCard

/-- THE TIED CARD OF 'cubitlaw02.RatField'. -/
def ratFieldCard : Claim7 := { stood := { row := ratFieldRow, standIns := [], harness := (true, "7d3cd22948449f0bb614e393d8141ba8b85814a04f837ecd86ba967e365b6c5c"), looks := false }, kinds := [], alts := [], laidByText := true, laidKinds := [.data, .pinned], laidTests := true, laidLooks := .later }
def RatFieldCardSaid : Prop := Claim7.holds Tryz.pinned (.plain (OpenSpec.ofChange ratFieldSpec)) ratFieldCard

/-- THE TIED CARD OF 'cubitlaw02.RatPowers'. -/
def ratPowersCard : Claim7 := { stood := { row := ratPowersRow, standIns := [], harness := (true, "7d3cd22948449f0bb614e393d8141ba8b85814a04f837ecd86ba967e365b6c5c"), looks := false }, kinds := [], alts := [], laidByText := true, laidKinds := [.data, .pinned], laidTests := true, laidLooks := .later }
def RatPowersCardSaid : Prop := Claim7.holds Tryz.pinned (.plain (OpenSpec.ofChange ratPowersSpec)) ratPowersCard

/-- THE TIED CARD OF 'cubitlaw02.RatReckons'. -/
def ratReckonsCard : Claim7 := { stood := { row := ratReckonsRow, standIns := [], harness := (true, "7d3cd22948449f0bb614e393d8141ba8b85814a04f837ecd86ba967e365b6c5c"), looks := false }, kinds := [], alts := [], laidByText := true, laidKinds := [.data, .pinned], laidTests := true, laidLooks := .later }
def RatReckonsCardSaid : Prop := Claim7.holds Tryz.pinned (.plain (OpenSpec.ofChange ratReckonsSpec)) ratReckonsCard

/-- THE TIED CARD OF 'cubitlaw25.ShowReads'. -/
def showReadsCard : Claim7 := { stood := { row := showReadsRow, standIns := [], harness := (true, "7d3cd22948449f0bb614e393d8141ba8b85814a04f837ecd86ba967e365b6c5c"), looks := false }, kinds := [], alts := [], laidByText := true, laidKinds := [.data, .data, .data, .data, .pinned], laidTests := true, laidLooks := .later }
def ShowReadsCardSaid : Prop := Claim7.holds Tryz.pinned (.plain (OpenSpec.ofChange showReadsSpec)) showReadsCard

/-- THE SECOND FORM's CARD OF 'cubitlaw25.ShowNumbers'. -/
def showNumbersUptoCard : Claim7 := { stood := { row := showNumbersUptoRow, standIns := [], harness := (true, "7d3cd22948449f0bb614e393d8141ba8b85814a04f837ecd86ba967e365b6c5c"), looks := false }, kinds := [], alts := [], laidByText := true, laidKinds := [.data, .data, .data], laidTests := true, laidLooks := .later }
def ShowNumbersUptoCardSaid : Prop := Claim7.holds Tryz.pinned (.plain (OpenSpec.upto showNumbersSpec)) showNumbersUptoCard

/-- THE SECOND FORM's CARD OF 'cubitlaw25.ShowTable'. -/
def showTableUptoCard : Claim7 := { stood := { row := showTableUptoRow, standIns := [], harness := (true, "7d3cd22948449f0bb614e393d8141ba8b85814a04f837ecd86ba967e365b6c5c"), looks := false }, kinds := [], alts := [], laidByText := true, laidKinds := [.data, .data, .data], laidTests := true, laidLooks := .later }
def ShowTableUptoCardSaid : Prop := Claim7.holds Tryz.pinned (.plain (OpenSpec.upto showTableSpec)) showTableUptoCard

/-- THE SECOND FORM's CARD OF 'cubitlaw02.RatPrints'. -/
def ratPrintsUptoCard : Claim7 := { stood := { row := ratPrintsUptoRow, standIns := [], harness := (true, "7d3cd22948449f0bb614e393d8141ba8b85814a04f837ecd86ba967e365b6c5c"), looks := false }, kinds := [], alts := [], laidByText := true, laidKinds := [.data, .pinned], laidTests := true, laidLooks := .later }
def RatPrintsUptoCardSaid : Prop := Claim7.holds Tryz.pinned (.plain (OpenSpec.upto ratPrintsSpec)) ratPrintsUptoCard

/-- THE SECOND FORM's CARD OF 'cubitlaw02.RatMakes'. -/
def ratMakesUptoCard : Claim7 := { stood := { row := ratMakesUptoRow, standIns := [], harness := (true, "7d3cd22948449f0bb614e393d8141ba8b85814a04f837ecd86ba967e365b6c5c"), looks := false }, kinds := [], alts := [], laidByText := true, laidKinds := [.data, .pinned], laidTests := true, laidLooks := .later }
def RatMakesUptoCardSaid : Prop := Claim7.holds Tryz.pinned (.plain (OpenSpec.upto ratMakesSpec)) ratMakesUptoCard

/-- THE SECOND FORM's CARD OF 'cubitlaw02.RatSums'. -/
def ratSumsUptoCard : Claim7 := { stood := { row := ratSumsUptoRow, standIns := [], harness := (true, "7d3cd22948449f0bb614e393d8141ba8b85814a04f837ecd86ba967e365b6c5c"), looks := false }, kinds := [], alts := [], laidByText := true, laidKinds := [.data, .pinned], laidTests := true, laidLooks := .later }
def RatSumsUptoCardSaid : Prop := Claim7.holds Tryz.pinned (.plain (OpenSpec.upto ratSumsSpec)) ratSumsUptoCard

/-- THE SECOND FORM's CARD OF 'cubitlaw02.RatOrdered'. -/
def ratOrderedUptoCard : Claim7 := { stood := { row := ratOrderedUptoRow, standIns := [], harness := (true, "7d3cd22948449f0bb614e393d8141ba8b85814a04f837ecd86ba967e365b6c5c"), looks := false }, kinds := [], alts := [], laidByText := true, laidKinds := [.data, .pinned], laidTests := true, laidLooks := .later }
def RatOrderedUptoCardSaid : Prop := Claim7.holds Tryz.pinned (.plain (OpenSpec.upto ratOrderedSpec)) ratOrderedUptoCard

/-- THE SECOND FORM's CARD OF 'cubitlaw02.RatChains'. -/
def ratChainsUptoCard : Claim7 := { stood := { row := ratChainsUptoRow, standIns := [], harness := (true, "7d3cd22948449f0bb614e393d8141ba8b85814a04f837ecd86ba967e365b6c5c"), looks := false }, kinds := [], alts := [], laidByText := true, laidKinds := [.data, .pinned], laidTests := true, laidLooks := .later }
def RatChainsUptoCardSaid : Prop := Claim7.holds Tryz.pinned (.plain (OpenSpec.upto ratChainsSpec)) ratChainsUptoCard

/-- THE SECOND FORM's CARD OF 'cubitlaw02.RatFractions'. -/
def ratFractionsUptoCard : Claim7 := { stood := { row := ratFractionsUptoRow, standIns := [], harness := (true, "7d3cd22948449f0bb614e393d8141ba8b85814a04f837ecd86ba967e365b6c5c"), looks := false }, kinds := [], alts := [], laidByText := true, laidKinds := [.data, .pinned], laidTests := true, laidLooks := .later }
def RatFractionsUptoCardSaid : Prop := Claim7.holds Tryz.pinned (.plain (OpenSpec.upto ratFractionsSpec)) ratFractionsUptoCard

/-- THE SECOND FORM's CARD OF 'cubitlaw02.RatOrders'. -/
def ratOrdersUptoCard : Claim7 := { stood := { row := ratOrdersUptoRow, standIns := [], harness := (true, "7d3cd22948449f0bb614e393d8141ba8b85814a04f837ecd86ba967e365b6c5c"), looks := false }, kinds := [], alts := [], laidByText := true, laidKinds := [.data, .pinned], laidTests := true, laidLooks := .later }
def RatOrdersUptoCardSaid : Prop := Claim7.holds Tryz.pinned (.plain (OpenSpec.upto ratOrdersSpec)) ratOrdersUptoCard

/-- THE SECOND FORM's CARD OF 'cubitlaw02.RatSimple'. -/
def ratSimpleUptoCard : Claim7 := { stood := { row := ratSimpleUptoRow, standIns := [], harness := (true, "7d3cd22948449f0bb614e393d8141ba8b85814a04f837ecd86ba967e365b6c5c"), looks := false }, kinds := [], alts := [], laidByText := true, laidKinds := [.data, .pinned], laidTests := true, laidLooks := .later }
def RatSimpleUptoCardSaid : Prop := Claim7.holds Tryz.pinned (.plain (OpenSpec.upto ratSimpleSpec)) ratSimpleUptoCard

/-- THE SECOND FORM's CARD OF 'cubitlaw02.RatBack'. -/
def ratBackUptoCard : Claim7 := { stood := { row := ratBackUptoRow, standIns := [], harness := (true, "7d3cd22948449f0bb614e393d8141ba8b85814a04f837ecd86ba967e365b6c5c"), looks := false }, kinds := [], alts := [], laidByText := true, laidKinds := [.data, .pinned], laidTests := true, laidLooks := .later }
def RatBackUptoCardSaid : Prop := Claim7.holds Tryz.pinned (.plain (OpenSpec.upto ratBackSpec)) ratBackUptoCard

/-- THE SECOND FORM's CARD OF 'cubitlaw02.RatSimplest'. -/
def ratSimplestUptoCard : Claim7 := { stood := { row := ratSimplestUptoRow, standIns := [], harness := (true, "7d3cd22948449f0bb614e393d8141ba8b85814a04f837ecd86ba967e365b6c5c"), looks := false }, kinds := [], alts := [], laidByText := true, laidKinds := [.data, .pinned], laidTests := true, laidLooks := .later }
def RatSimplestUptoCardSaid : Prop := Claim7.holds Tryz.pinned (.plain (OpenSpec.upto ratSimplestSpec)) ratSimplestUptoCard

/-- THE SECOND FORM's CARD OF 'cubitlaw02.RatField'. -/
def ratFieldUptoCard : Claim7 := { stood := { row := ratFieldUptoRow, standIns := [], harness := (true, "7d3cd22948449f0bb614e393d8141ba8b85814a04f837ecd86ba967e365b6c5c"), looks := false }, kinds := [], alts := [], laidByText := true, laidKinds := [.data, .pinned], laidTests := true, laidLooks := .later }
def RatFieldUptoCardSaid : Prop := Claim7.holds Tryz.pinned (.plain (OpenSpec.upto ratFieldSpec)) ratFieldUptoCard

/-- THE SECOND FORM's CARD OF 'cubitlaw02.RatPowers'. -/
def ratPowersUptoCard : Claim7 := { stood := { row := ratPowersUptoRow, standIns := [], harness := (true, "7d3cd22948449f0bb614e393d8141ba8b85814a04f837ecd86ba967e365b6c5c"), looks := false }, kinds := [], alts := [], laidByText := true, laidKinds := [.data, .pinned], laidTests := true, laidLooks := .later }
def RatPowersUptoCardSaid : Prop := Claim7.holds Tryz.pinned (.plain (OpenSpec.upto ratPowersSpec)) ratPowersUptoCard

/-- THE SECOND FORM's CARD OF 'cubitlaw02.RatReckons'. -/
def ratReckonsUptoCard : Claim7 := { stood := { row := ratReckonsUptoRow, standIns := [], harness := (true, "7d3cd22948449f0bb614e393d8141ba8b85814a04f837ecd86ba967e365b6c5c"), looks := false }, kinds := [], alts := [], laidByText := true, laidKinds := [.data, .pinned], laidTests := true, laidLooks := .later }
def RatReckonsUptoCardSaid : Prop := Claim7.holds Tryz.pinned (.plain (OpenSpec.upto ratReckonsSpec)) ratReckonsUptoCard

/-- THE SECOND FORM's CARD OF 'cubitlaw25.ShowReads'. -/
def showReadsUptoCard : Claim7 := { stood := { row := showReadsUptoRow, standIns := [], harness := (true, "7d3cd22948449f0bb614e393d8141ba8b85814a04f837ecd86ba967e365b6c5c"), looks := false }, kinds := [], alts := [], laidByText := true, laidKinds := [.data, .data, .data, .data, .pinned], laidTests := true, laidLooks := .later }
def ShowReadsUptoCardSaid : Prop := Claim7.holds Tryz.pinned (.plain (OpenSpec.upto showReadsSpec)) showReadsUptoCard
end Rows
end Go.Proofs.YtglaeambknhjlaaGreatDoor

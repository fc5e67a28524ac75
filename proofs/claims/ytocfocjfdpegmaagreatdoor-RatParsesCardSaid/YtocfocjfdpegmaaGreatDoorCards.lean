/-
  DERIVED. GIVEN WITH THE SEED: THE CARDS: each row of YtocfocjfdpegmaaGreatDoorRows.lean that lists a variable, with what it lists TIED to the program's text (the seventh form; the later family's looks); each row that meets fmt, with fmt's text TOLD by the authors' own Lean function (tested against real Go, not proved from fmt's source: count such statements apart). THE CARD IS WHAT COUNTS. Prove the row's statement (the work); the ties are given (YtocfocjfdpegmaaGreatDoorTie.lean); close each card by the builder's one call (the guide's Derived/Test/ToyasCard.lean, 'card_holds'). Laid BY PROGRAM, IN A SANDBOX (cutbox-door.mjs). By AI agents, Wed Nov 11 2026. No macro, syntax, notation, axiom, sorry.
-/
import Derived.Test.YtocfocjfdpegmaaGreatDoorRows
import GoSem.ClaimSeven
namespace Go.Proofs.YtocfocjfdpegmaaGreatDoor
namespace Rows

/-- THE TIED CARD OF 'cubitlaw02.RatPrints'. -/
def ratPrintsCard : Claim7 := { stood := { row := ratPrintsRow, standIns := [], harness := (true, "aff070aebdbf390eb46053f8a28a80f93d4392dc7629afe3503ecd0acdf2e998"), looks := true }, kinds := [], alts := [], laidByText := true, laidKinds := [.data, .pinned], laidTests := true, laidLooks := .later }
def RatPrintsCardSaid : Prop := Claim7.holds Tryz.pinned (.plain (OpenSpec.ofChange ratPrintsSpec)) ratPrintsCard

/-- THE TIED CARD OF 'cubitlaw02.RatMakes'. -/
def ratMakesCard : Claim7 := { stood := { row := ratMakesRow, standIns := [], harness := (true, "aff070aebdbf390eb46053f8a28a80f93d4392dc7629afe3503ecd0acdf2e998"), looks := true }, kinds := [], alts := [], laidByText := true, laidKinds := [.data, .pinned], laidTests := true, laidLooks := .later }
def RatMakesCardSaid : Prop := Claim7.holds Tryz.pinned (.plain (OpenSpec.ofChange ratMakesSpec)) ratMakesCard

/-- THE TIED CARD OF 'cubitlaw02.RatOrders'. -/
def ratOrdersCard : Claim7 := { stood := { row := ratOrdersRow, standIns := [], harness := (true, "aff070aebdbf390eb46053f8a28a80f93d4392dc7629afe3503ecd0acdf2e998"), looks := true }, kinds := [], alts := [], laidByText := true, laidKinds := [.data, .pinned], laidTests := true, laidLooks := .later }
def RatOrdersCardSaid : Prop := Claim7.holds Tryz.pinned (.plain (OpenSpec.ofChange ratOrdersSpec)) ratOrdersCard

/-- THE TIED CARD OF 'cubitlaw02.RatReckons'. -/
def ratReckonsCard : Claim7 := { stood := { row := ratReckonsRow, standIns := [], harness := (true, "aff070aebdbf390eb46053f8a28a80f93d4392dc7629afe3503ecd0acdf2e998"), looks := true }, kinds := [], alts := [], laidByText := true, laidKinds := [.data, .pinned], laidTests := true, laidLooks := .later }
def RatReckonsCardSaid : Prop := Claim7.holds Tryz.pinned (.plain (OpenSpec.ofChange ratReckonsSpec)) ratReckonsCard

/-- THE TIED CARD OF 'cubitlaw02.RatParses'. -/
def ratParsesCard : Claim7 := { stood := { row := ratParsesRow, standIns := [], harness := (true, "aff070aebdbf390eb46053f8a28a80f93d4392dc7629afe3503ecd0acdf2e998"), looks := true }, kinds := [], alts := [], laidByText := true, laidKinds := [.data, .data, .data, .data, .sentinel, .sentinel, .pinned], laidTests := true, laidLooks := .later }
def RatParsesCardSaid : Prop := Claim7.holds Tryz.pinned (.plain (OpenSpec.ofChange ratParsesSpec)) ratParsesCard

/-- THE TIED CARD OF 'cubitlaw17.DeclRights'. -/
def declRightsCard : Claim7 := { stood := { row := declRightsRow, standIns := [], harness := (true, "aff070aebdbf390eb46053f8a28a80f93d4392dc7629afe3503ecd0acdf2e998"), looks := true }, kinds := [], alts := [], laidByText := true, laidKinds := [.data, .data, .data, .data, .pinned], laidTests := true, laidLooks := .later }
def DeclRightsCardSaid : Prop := Claim7.holds Tryz.pinned (.plain (OpenSpec.ofChange declRightsSpec)) declRightsCard

/-- THE TIED CARD OF 'cubitlaw17.DeclPrints'. -/
def declPrintsCard : Claim7 := { stood := { row := declPrintsRow, standIns := [], harness := (true, "aff070aebdbf390eb46053f8a28a80f93d4392dc7629afe3503ecd0acdf2e998"), looks := true }, kinds := [], alts := [], laidByText := true, laidKinds := [.data, .data, .data, .data, .pinned], laidTests := true, laidLooks := .later }
def DeclPrintsCardSaid : Prop := Claim7.holds Tryz.pinned (.plain (OpenSpec.ofChange declPrintsSpec)) declPrintsCard

/-- THE TIED CARD OF 'cubitlaw17.DeclBack'. -/
def declBackCard : Claim7 := { stood := { row := declBackRow, standIns := [], harness := (true, "aff070aebdbf390eb46053f8a28a80f93d4392dc7629afe3503ecd0acdf2e998"), looks := true }, kinds := [], alts := [], laidByText := true, laidKinds := [.data, .data, .data, .data, .pinned], laidTests := true, laidLooks := .later }
def DeclBackCardSaid : Prop := Claim7.holds Tryz.pinned (.plain (OpenSpec.ofChange declBackSpec)) declBackCard

/-- THE TIED CARD OF 'cubitlaw17.DeclJoins'. -/
def declJoinsCard : Claim7 := { stood := { row := declJoinsRow, standIns := [], harness := (true, "aff070aebdbf390eb46053f8a28a80f93d4392dc7629afe3503ecd0acdf2e998"), looks := true }, kinds := [], alts := [], laidByText := true, laidKinds := [.data, .data, .data, .data, .pinned], laidTests := true, laidLooks := .later }
def DeclJoinsCardSaid : Prop := Claim7.holds Tryz.pinned (.plain (OpenSpec.ofChange declJoinsSpec)) declJoinsCard

/-- THE TIED CARD OF 'cubitlaw17.DeclReads'. -/
def declReadsCard : Claim7 := { stood := { row := declReadsRow, standIns := [], harness := (true, "aff070aebdbf390eb46053f8a28a80f93d4392dc7629afe3503ecd0acdf2e998"), looks := true }, kinds := [], alts := [], laidByText := true, laidKinds := [.data, .data, .data, .data, .sentinel, .sentinel, .pinned], laidTests := true, laidLooks := .later }
def DeclReadsCardSaid : Prop := Claim7.holds Tryz.pinned (.plain (OpenSpec.ofChange declReadsSpec)) declReadsCard

/-- THE SECOND FORM's CARD OF 'cubitlaw02.RatPrints'. -/
def ratPrintsUptoCard : Claim7 := { stood := { row := ratPrintsUptoRow, standIns := [], harness := (true, "aff070aebdbf390eb46053f8a28a80f93d4392dc7629afe3503ecd0acdf2e998"), looks := true }, kinds := [], alts := [], laidByText := true, laidKinds := [.data, .pinned], laidTests := true, laidLooks := .later }
def RatPrintsUptoCardSaid : Prop := Claim7.holds Tryz.pinned (.plain (OpenSpec.upto ratPrintsSpec)) ratPrintsUptoCard

/-- THE SECOND FORM's CARD OF 'cubitlaw02.RatMakes'. -/
def ratMakesUptoCard : Claim7 := { stood := { row := ratMakesUptoRow, standIns := [], harness := (true, "aff070aebdbf390eb46053f8a28a80f93d4392dc7629afe3503ecd0acdf2e998"), looks := true }, kinds := [], alts := [], laidByText := true, laidKinds := [.data, .pinned], laidTests := true, laidLooks := .later }
def RatMakesUptoCardSaid : Prop := Claim7.holds Tryz.pinned (.plain (OpenSpec.upto ratMakesSpec)) ratMakesUptoCard

/-- THE SECOND FORM's CARD OF 'cubitlaw02.RatOrders'. -/
def ratOrdersUptoCard : Claim7 := { stood := { row := ratOrdersUptoRow, standIns := [], harness := (true, "aff070aebdbf390eb46053f8a28a80f93d4392dc7629afe3503ecd0acdf2e998"), looks := true }, kinds := [], alts := [], laidByText := true, laidKinds := [.data, .pinned], laidTests := true, laidLooks := .later }
def RatOrdersUptoCardSaid : Prop := Claim7.holds Tryz.pinned (.plain (OpenSpec.upto ratOrdersSpec)) ratOrdersUptoCard

/-- THE SECOND FORM's CARD OF 'cubitlaw02.RatReckons'. -/
def ratReckonsUptoCard : Claim7 := { stood := { row := ratReckonsUptoRow, standIns := [], harness := (true, "aff070aebdbf390eb46053f8a28a80f93d4392dc7629afe3503ecd0acdf2e998"), looks := true }, kinds := [], alts := [], laidByText := true, laidKinds := [.data, .pinned], laidTests := true, laidLooks := .later }
def RatReckonsUptoCardSaid : Prop := Claim7.holds Tryz.pinned (.plain (OpenSpec.upto ratReckonsSpec)) ratReckonsUptoCard

/-- THE SECOND FORM's CARD OF 'cubitlaw02.RatParses'. -/
def ratParsesUptoCard : Claim7 := { stood := { row := ratParsesUptoRow, standIns := [], harness := (true, "aff070aebdbf390eb46053f8a28a80f93d4392dc7629afe3503ecd0acdf2e998"), looks := true }, kinds := [], alts := [], laidByText := true, laidKinds := [.data, .data, .data, .data, .sentinel, .sentinel, .pinned], laidTests := true, laidLooks := .later }
def RatParsesUptoCardSaid : Prop := Claim7.holds Tryz.pinned (.plain (OpenSpec.upto ratParsesSpec)) ratParsesUptoCard

/-- THE SECOND FORM's CARD OF 'cubitlaw17.DeclRights'. -/
def declRightsUptoCard : Claim7 := { stood := { row := declRightsUptoRow, standIns := [], harness := (true, "aff070aebdbf390eb46053f8a28a80f93d4392dc7629afe3503ecd0acdf2e998"), looks := true }, kinds := [], alts := [], laidByText := true, laidKinds := [.data, .data, .data, .data, .pinned], laidTests := true, laidLooks := .later }
def DeclRightsUptoCardSaid : Prop := Claim7.holds Tryz.pinned (.plain (OpenSpec.upto declRightsSpec)) declRightsUptoCard

/-- THE SECOND FORM's CARD OF 'cubitlaw17.DeclPrints'. -/
def declPrintsUptoCard : Claim7 := { stood := { row := declPrintsUptoRow, standIns := [], harness := (true, "aff070aebdbf390eb46053f8a28a80f93d4392dc7629afe3503ecd0acdf2e998"), looks := true }, kinds := [], alts := [], laidByText := true, laidKinds := [.data, .data, .data, .data, .pinned], laidTests := true, laidLooks := .later }
def DeclPrintsUptoCardSaid : Prop := Claim7.holds Tryz.pinned (.plain (OpenSpec.upto declPrintsSpec)) declPrintsUptoCard

/-- THE SECOND FORM's CARD OF 'cubitlaw17.DeclBack'. -/
def declBackUptoCard : Claim7 := { stood := { row := declBackUptoRow, standIns := [], harness := (true, "aff070aebdbf390eb46053f8a28a80f93d4392dc7629afe3503ecd0acdf2e998"), looks := true }, kinds := [], alts := [], laidByText := true, laidKinds := [.data, .data, .data, .data, .pinned], laidTests := true, laidLooks := .later }
def DeclBackUptoCardSaid : Prop := Claim7.holds Tryz.pinned (.plain (OpenSpec.upto declBackSpec)) declBackUptoCard

/-- THE SECOND FORM's CARD OF 'cubitlaw17.DeclJoins'. -/
def declJoinsUptoCard : Claim7 := { stood := { row := declJoinsUptoRow, standIns := [], harness := (true, "aff070aebdbf390eb46053f8a28a80f93d4392dc7629afe3503ecd0acdf2e998"), looks := true }, kinds := [], alts := [], laidByText := true, laidKinds := [.data, .data, .data, .data, .pinned], laidTests := true, laidLooks := .later }
def DeclJoinsUptoCardSaid : Prop := Claim7.holds Tryz.pinned (.plain (OpenSpec.upto declJoinsSpec)) declJoinsUptoCard

/-- THE SECOND FORM's CARD OF 'cubitlaw17.DeclReads'. -/
def declReadsUptoCard : Claim7 := { stood := { row := declReadsUptoRow, standIns := [], harness := (true, "aff070aebdbf390eb46053f8a28a80f93d4392dc7629afe3503ecd0acdf2e998"), looks := true }, kinds := [], alts := [], laidByText := true, laidKinds := [.data, .data, .data, .data, .sentinel, .sentinel, .pinned], laidTests := true, laidLooks := .later }
def DeclReadsUptoCardSaid : Prop := Claim7.holds Tryz.pinned (.plain (OpenSpec.upto declReadsSpec)) declReadsUptoCard
end Rows
end Go.Proofs.YtocfocjfdpegmaaGreatDoor

/-
  DERIVED. GIVEN WITH THE SEED: THE CARDS: each row of YtfbgaddecbiimaaGreatDoorRows.lean that lists a variable, with what it lists TIED to the program's text (the seventh form; the later family's looks); each row that meets fmt, with fmt's text TOLD by the authors' own Lean function (tested against real Go, not proved from fmt's source: count such statements apart). THE CARD IS WHAT COUNTS. Prove the row's statement (the work); the ties are given (YtfbgaddecbiimaaGreatDoorTie.lean); close each card by the builder's one call (the guide's Derived/Test/ToyasCard.lean, 'card_holds'). Laid BY PROGRAM, IN A SANDBOX (cutbox-door.mjs). By AI agents, Wed Nov 11 2026. No macro, syntax, notation, axiom, sorry.
-/
import Derived.Test.YtfbgaddecbiimaaGreatDoorRows
import GoSem.ClaimSeven
namespace Go.Proofs.YtfbgaddecbiimaaGreatDoor
namespace Rows

/-- THE TIED CARD OF 'isochronelaw03.PolyTexts'. -/
def polyTextsCard : Claim7 := { stood := { row := polyTextsRow, standIns := [], harness := (true, "7c1c4094e72754773423f799c4afd1ed3b246fc2b5dc0deefca3ede80156512f"), looks := false }, kinds := [], alts := [], laidByText := true, laidKinds := [.data, .data, .data], laidTests := true, laidLooks := .later }
def PolyTextsCardSaid : Prop := Claim7.holds Tryz.pinned (.plain (OpenSpec.ofChange polyTextsSpec)) polyTextsCard

/-- THE TIED CARD OF 'isochronelaw03.PolyLimits'. -/
def polyLimitsCard : Claim7 := { stood := { row := polyLimitsRow, standIns := [], harness := (true, "7c1c4094e72754773423f799c4afd1ed3b246fc2b5dc0deefca3ede80156512f"), looks := false }, kinds := [], alts := [], laidByText := true, laidKinds := [.data, .data, .data], laidTests := true, laidLooks := .later }
def PolyLimitsCardSaid : Prop := Claim7.holds Tryz.pinned (.plain (OpenSpec.ofChange polyLimitsSpec)) polyLimitsCard

/-- THE TIED CARD OF 'isochronelaw03.PolyPowers'. -/
def polyPowersCard : Claim7 := { stood := { row := polyPowersRow, standIns := [], harness := (true, "7c1c4094e72754773423f799c4afd1ed3b246fc2b5dc0deefca3ede80156512f"), looks := false }, kinds := [], alts := [], laidByText := true, laidKinds := [.data, .data, .data], laidTests := true, laidLooks := .later }
def PolyPowersCardSaid : Prop := Claim7.holds Tryz.pinned (.plain (OpenSpec.ofChange polyPowersSpec)) polyPowersCard

/-- THE TIED CARD OF 'isochronelaw03.PolyValues'. -/
def polyValuesCard : Claim7 := { stood := { row := polyValuesRow, standIns := [], harness := (true, "7c1c4094e72754773423f799c4afd1ed3b246fc2b5dc0deefca3ede80156512f"), looks := false }, kinds := [], alts := [], laidByText := true, laidKinds := [.data, .data, .data], laidTests := true, laidLooks := .later }
def PolyValuesCardSaid : Prop := Claim7.holds Tryz.pinned (.plain (OpenSpec.ofChange polyValuesSpec)) polyValuesCard

/-- THE TIED CARD OF 'isochronelaw03.PolyParts'. -/
def polyPartsCard : Claim7 := { stood := { row := polyPartsRow, standIns := [], harness := (true, "7c1c4094e72754773423f799c4afd1ed3b246fc2b5dc0deefca3ede80156512f"), looks := false }, kinds := [], alts := [], laidByText := true, laidKinds := [.data, .data, .data], laidTests := true, laidLooks := .later }
def PolyPartsCardSaid : Prop := Claim7.holds Tryz.pinned (.plain (OpenSpec.ofChange polyPartsSpec)) polyPartsCard

/-- THE TIED CARD OF 'isochronelaw03.PolyRing'. -/
def polyRingCard : Claim7 := { stood := { row := polyRingRow, standIns := [], harness := (true, "7c1c4094e72754773423f799c4afd1ed3b246fc2b5dc0deefca3ede80156512f"), looks := false }, kinds := [], alts := [], laidByText := true, laidKinds := [.data, .data, .data], laidTests := true, laidLooks := .later }
def PolyRingCardSaid : Prop := Claim7.holds Tryz.pinned (.plain (OpenSpec.ofChange polyRingSpec)) polyRingCard

/-- THE TIED CARD OF 'isochronelaw03.PolySubsts'. -/
def polySubstsCard : Claim7 := { stood := { row := polySubstsRow, standIns := [], harness := (true, "7c1c4094e72754773423f799c4afd1ed3b246fc2b5dc0deefca3ede80156512f"), looks := false }, kinds := [], alts := [], laidByText := true, laidKinds := [.data, .data, .data], laidTests := true, laidLooks := .later }
def PolySubstsCardSaid : Prop := Claim7.holds Tryz.pinned (.plain (OpenSpec.ofChange polySubstsSpec)) polySubstsCard

/-- THE TIED CARD OF 'isochronelaw03.PolyDivides'. -/
def polyDividesCard : Claim7 := { stood := { row := polyDividesRow, standIns := [], harness := (true, "7c1c4094e72754773423f799c4afd1ed3b246fc2b5dc0deefca3ede80156512f"), looks := false }, kinds := [], alts := [], laidByText := true, laidKinds := [.data, .data, .data], laidTests := true, laidLooks := .later }
def PolyDividesCardSaid : Prop := Claim7.holds Tryz.pinned (.plain (OpenSpec.ofChange polyDividesSpec)) polyDividesCard

/-- THE TIED CARD OF 'isochronelaw03.PolyForms'. -/
def polyFormsCard : Claim7 := { stood := { row := polyFormsRow, standIns := [], harness := (true, "7c1c4094e72754773423f799c4afd1ed3b246fc2b5dc0deefca3ede80156512f"), looks := false }, kinds := [], alts := [], laidByText := true, laidKinds := [.data, .data, .data], laidTests := true, laidLooks := .later }
def PolyFormsCardSaid : Prop := Claim7.holds Tryz.pinned (.plain (OpenSpec.ofChange polyFormsSpec)) polyFormsCard

/-- THE SECOND FORM's CARD OF 'isochronelaw03.PolyTexts'. -/
def polyTextsUptoCard : Claim7 := { stood := { row := polyTextsUptoRow, standIns := [], harness := (true, "7c1c4094e72754773423f799c4afd1ed3b246fc2b5dc0deefca3ede80156512f"), looks := false }, kinds := [], alts := [], laidByText := true, laidKinds := [.data, .data, .data], laidTests := true, laidLooks := .later }
def PolyTextsUptoCardSaid : Prop := Claim7.holds Tryz.pinned (.plain (OpenSpec.upto polyTextsSpec)) polyTextsUptoCard

/-- THE SECOND FORM's CARD OF 'isochronelaw03.PolyLimits'. -/
def polyLimitsUptoCard : Claim7 := { stood := { row := polyLimitsUptoRow, standIns := [], harness := (true, "7c1c4094e72754773423f799c4afd1ed3b246fc2b5dc0deefca3ede80156512f"), looks := false }, kinds := [], alts := [], laidByText := true, laidKinds := [.data, .data, .data], laidTests := true, laidLooks := .later }
def PolyLimitsUptoCardSaid : Prop := Claim7.holds Tryz.pinned (.plain (OpenSpec.upto polyLimitsSpec)) polyLimitsUptoCard

/-- THE SECOND FORM's CARD OF 'isochronelaw03.PolyPowers'. -/
def polyPowersUptoCard : Claim7 := { stood := { row := polyPowersUptoRow, standIns := [], harness := (true, "7c1c4094e72754773423f799c4afd1ed3b246fc2b5dc0deefca3ede80156512f"), looks := false }, kinds := [], alts := [], laidByText := true, laidKinds := [.data, .data, .data], laidTests := true, laidLooks := .later }
def PolyPowersUptoCardSaid : Prop := Claim7.holds Tryz.pinned (.plain (OpenSpec.upto polyPowersSpec)) polyPowersUptoCard

/-- THE SECOND FORM's CARD OF 'isochronelaw03.PolyValues'. -/
def polyValuesUptoCard : Claim7 := { stood := { row := polyValuesUptoRow, standIns := [], harness := (true, "7c1c4094e72754773423f799c4afd1ed3b246fc2b5dc0deefca3ede80156512f"), looks := false }, kinds := [], alts := [], laidByText := true, laidKinds := [.data, .data, .data], laidTests := true, laidLooks := .later }
def PolyValuesUptoCardSaid : Prop := Claim7.holds Tryz.pinned (.plain (OpenSpec.upto polyValuesSpec)) polyValuesUptoCard

/-- THE SECOND FORM's CARD OF 'isochronelaw03.PolyParts'. -/
def polyPartsUptoCard : Claim7 := { stood := { row := polyPartsUptoRow, standIns := [], harness := (true, "7c1c4094e72754773423f799c4afd1ed3b246fc2b5dc0deefca3ede80156512f"), looks := false }, kinds := [], alts := [], laidByText := true, laidKinds := [.data, .data, .data], laidTests := true, laidLooks := .later }
def PolyPartsUptoCardSaid : Prop := Claim7.holds Tryz.pinned (.plain (OpenSpec.upto polyPartsSpec)) polyPartsUptoCard

/-- THE SECOND FORM's CARD OF 'isochronelaw03.PolyRing'. -/
def polyRingUptoCard : Claim7 := { stood := { row := polyRingUptoRow, standIns := [], harness := (true, "7c1c4094e72754773423f799c4afd1ed3b246fc2b5dc0deefca3ede80156512f"), looks := false }, kinds := [], alts := [], laidByText := true, laidKinds := [.data, .data, .data], laidTests := true, laidLooks := .later }
def PolyRingUptoCardSaid : Prop := Claim7.holds Tryz.pinned (.plain (OpenSpec.upto polyRingSpec)) polyRingUptoCard

/-- THE SECOND FORM's CARD OF 'isochronelaw03.PolySubsts'. -/
def polySubstsUptoCard : Claim7 := { stood := { row := polySubstsUptoRow, standIns := [], harness := (true, "7c1c4094e72754773423f799c4afd1ed3b246fc2b5dc0deefca3ede80156512f"), looks := false }, kinds := [], alts := [], laidByText := true, laidKinds := [.data, .data, .data], laidTests := true, laidLooks := .later }
def PolySubstsUptoCardSaid : Prop := Claim7.holds Tryz.pinned (.plain (OpenSpec.upto polySubstsSpec)) polySubstsUptoCard

/-- THE SECOND FORM's CARD OF 'isochronelaw03.PolyDivides'. -/
def polyDividesUptoCard : Claim7 := { stood := { row := polyDividesUptoRow, standIns := [], harness := (true, "7c1c4094e72754773423f799c4afd1ed3b246fc2b5dc0deefca3ede80156512f"), looks := false }, kinds := [], alts := [], laidByText := true, laidKinds := [.data, .data, .data], laidTests := true, laidLooks := .later }
def PolyDividesUptoCardSaid : Prop := Claim7.holds Tryz.pinned (.plain (OpenSpec.upto polyDividesSpec)) polyDividesUptoCard

/-- THE SECOND FORM's CARD OF 'isochronelaw03.PolyForms'. -/
def polyFormsUptoCard : Claim7 := { stood := { row := polyFormsUptoRow, standIns := [], harness := (true, "7c1c4094e72754773423f799c4afd1ed3b246fc2b5dc0deefca3ede80156512f"), looks := false }, kinds := [], alts := [], laidByText := true, laidKinds := [.data, .data, .data], laidTests := true, laidLooks := .later }
def PolyFormsUptoCardSaid : Prop := Claim7.holds Tryz.pinned (.plain (OpenSpec.upto polyFormsSpec)) polyFormsUptoCard
end Rows
end Go.Proofs.YtfbgaddecbiimaaGreatDoor

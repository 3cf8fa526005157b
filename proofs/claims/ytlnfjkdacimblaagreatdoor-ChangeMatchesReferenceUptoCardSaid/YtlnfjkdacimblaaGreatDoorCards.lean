/-
  DERIVED. GIVEN WITH THE SEED: THE CARDS: each row of YtlnfjkdacimblaaGreatDoorRows.lean that lists a variable, with what it lists TIED to the program's text (the seventh form; the later family's looks); each row that meets fmt, with fmt's text TOLD by the authors' own Lean function (tested against real Go, not proved from fmt's source: count such statements apart). THE CARD IS WHAT COUNTS. Prove the row's statement (the work); the ties are given (YtlnfjkdacimblaaGreatDoorTie.lean); close each card by the builder's one call (the guide's Derived/Test/ToyasCard.lean, 'card_holds'). Laid BY PROGRAM, IN A SANDBOX (cutbox-door.mjs). By AI agents, Wed Nov 11 2026. No macro, syntax, notation, axiom, sorry.
-/
import Derived.Test.YtlnfjkdacimblaaGreatDoorRows
import GoSem.ClaimSeven
namespace Go.Proofs.YtlnfjkdacimblaaGreatDoor
namespace Rows

/-- THE TIED CARD OF 'planispherelaw22.ChangeMatchesReference'. -/
def changeMatchesReferenceCard : Claim7 := { stood := { row := changeMatchesReferenceRow, standIns := [], harness := (true, "cdf57e7ef9fa010f08f8f8e5a2470b26fdbece7853cc6db5e579e3a816a0c670"), looks := true }, kinds := [], alts := [], laidByText := true, laidKinds := [.data, .data, .data, .data, .sentinel, .sentinel, .pinned], laidTests := true, laidLooks := .later }
def ChangeMatchesReferenceCardSaid : Prop := Claim7.holds Tryz.pinned (.plain (OpenSpec.ofChange changeMatchesReferenceSpec)) changeMatchesReferenceCard

/-- THE TIED CARD OF 'planispherelaw22.ChangeBetweenMatchesReference'. -/
def changeBetweenMatchesReferenceCard : Claim7 := { stood := { row := changeBetweenMatchesReferenceRow, standIns := [], harness := (true, "cdf57e7ef9fa010f08f8f8e5a2470b26fdbece7853cc6db5e579e3a816a0c670"), looks := true }, kinds := [], alts := [], laidByText := true, laidKinds := [.data, .data, .data, .data, .sentinel, .sentinel, .pinned], laidTests := true, laidLooks := .later }
def ChangeBetweenMatchesReferenceCardSaid : Prop := Claim7.holds Tryz.pinned (.plain (OpenSpec.ofChange changeBetweenMatchesReferenceSpec)) changeBetweenMatchesReferenceCard

/-- THE TIED CARD OF 'planispherelaw22.ChangeTexts'. -/
def changeTextsCard : Claim7 := { stood := { row := changeTextsRow, standIns := [], harness := (true, "cdf57e7ef9fa010f08f8f8e5a2470b26fdbece7853cc6db5e579e3a816a0c670"), looks := true }, kinds := [], alts := [], laidByText := true, laidKinds := [.data, .data, .data, .data, .sentinel, .sentinel, .pinned], laidTests := true, laidLooks := .later }
def ChangeTextsCardSaid : Prop := Claim7.holds Tryz.pinned (.plain (OpenSpec.ofChange changeTextsSpec)) changeTextsCard

/-- THE TIED CARD OF 'planispherelaw22.ChangeUnits'. -/
def changeUnitsCard : Claim7 := { stood := { row := changeUnitsRow, standIns := [], harness := (true, "cdf57e7ef9fa010f08f8f8e5a2470b26fdbece7853cc6db5e579e3a816a0c670"), looks := true }, kinds := [], alts := [], laidByText := true, laidKinds := [.data, .data, .data, .data, .sentinel, .sentinel, .pinned], laidTests := true, laidLooks := .later }
def ChangeUnitsCardSaid : Prop := Claim7.holds Tryz.pinned (.plain (OpenSpec.ofChange changeUnitsSpec)) changeUnitsCard

/-- THE TIED CARD OF 'planispherelaw22.ChangeOrders'. -/
def changeOrdersCard : Claim7 := { stood := { row := changeOrdersRow, standIns := [], harness := (true, "cdf57e7ef9fa010f08f8f8e5a2470b26fdbece7853cc6db5e579e3a816a0c670"), looks := true }, kinds := [], alts := [], laidByText := true, laidKinds := [.data, .data, .data, .data, .sentinel, .sentinel, .pinned], laidTests := true, laidLooks := .later }
def ChangeOrdersCardSaid : Prop := Claim7.holds Tryz.pinned (.plain (OpenSpec.ofChange changeOrdersSpec)) changeOrdersCard

/-- THE TIED CARD OF 'planispherelaw22.ChangeBetween'. -/
def changeBetweenCard : Claim7 := { stood := { row := changeBetweenRow, standIns := [], harness := (true, "cdf57e7ef9fa010f08f8f8e5a2470b26fdbece7853cc6db5e579e3a816a0c670"), looks := true }, kinds := [], alts := [], laidByText := true, laidKinds := [.data, .data, .data, .data, .sentinel, .sentinel, .pinned], laidTests := true, laidLooks := .later }
def ChangeBetweenCardSaid : Prop := Claim7.holds Tryz.pinned (.plain (OpenSpec.ofChange changeBetweenSpec)) changeBetweenCard

/-- THE SECOND FORM's CARD OF 'planispherelaw22.ChangeMatchesReference'. -/
def changeMatchesReferenceUptoCard : Claim7 := { stood := { row := changeMatchesReferenceUptoRow, standIns := [], harness := (true, "cdf57e7ef9fa010f08f8f8e5a2470b26fdbece7853cc6db5e579e3a816a0c670"), looks := true }, kinds := [], alts := [], laidByText := true, laidKinds := [.data, .data, .data, .data, .sentinel, .sentinel, .pinned], laidTests := true, laidLooks := .later }
def ChangeMatchesReferenceUptoCardSaid : Prop := Claim7.holds Tryz.pinned (.plain (OpenSpec.upto changeMatchesReferenceSpec)) changeMatchesReferenceUptoCard

/-- THE SECOND FORM's CARD OF 'planispherelaw22.ChangeBetweenMatchesReference'. -/
def changeBetweenMatchesReferenceUptoCard : Claim7 := { stood := { row := changeBetweenMatchesReferenceUptoRow, standIns := [], harness := (true, "cdf57e7ef9fa010f08f8f8e5a2470b26fdbece7853cc6db5e579e3a816a0c670"), looks := true }, kinds := [], alts := [], laidByText := true, laidKinds := [.data, .data, .data, .data, .sentinel, .sentinel, .pinned], laidTests := true, laidLooks := .later }
def ChangeBetweenMatchesReferenceUptoCardSaid : Prop := Claim7.holds Tryz.pinned (.plain (OpenSpec.upto changeBetweenMatchesReferenceSpec)) changeBetweenMatchesReferenceUptoCard

/-- THE SECOND FORM's CARD OF 'planispherelaw22.ChangeTexts'. -/
def changeTextsUptoCard : Claim7 := { stood := { row := changeTextsUptoRow, standIns := [], harness := (true, "cdf57e7ef9fa010f08f8f8e5a2470b26fdbece7853cc6db5e579e3a816a0c670"), looks := true }, kinds := [], alts := [], laidByText := true, laidKinds := [.data, .data, .data, .data, .sentinel, .sentinel, .pinned], laidTests := true, laidLooks := .later }
def ChangeTextsUptoCardSaid : Prop := Claim7.holds Tryz.pinned (.plain (OpenSpec.upto changeTextsSpec)) changeTextsUptoCard

/-- THE SECOND FORM's CARD OF 'planispherelaw22.ChangeUnits'. -/
def changeUnitsUptoCard : Claim7 := { stood := { row := changeUnitsUptoRow, standIns := [], harness := (true, "cdf57e7ef9fa010f08f8f8e5a2470b26fdbece7853cc6db5e579e3a816a0c670"), looks := true }, kinds := [], alts := [], laidByText := true, laidKinds := [.data, .data, .data, .data, .sentinel, .sentinel, .pinned], laidTests := true, laidLooks := .later }
def ChangeUnitsUptoCardSaid : Prop := Claim7.holds Tryz.pinned (.plain (OpenSpec.upto changeUnitsSpec)) changeUnitsUptoCard

/-- THE SECOND FORM's CARD OF 'planispherelaw22.ChangeOrders'. -/
def changeOrdersUptoCard : Claim7 := { stood := { row := changeOrdersUptoRow, standIns := [], harness := (true, "cdf57e7ef9fa010f08f8f8e5a2470b26fdbece7853cc6db5e579e3a816a0c670"), looks := true }, kinds := [], alts := [], laidByText := true, laidKinds := [.data, .data, .data, .data, .sentinel, .sentinel, .pinned], laidTests := true, laidLooks := .later }
def ChangeOrdersUptoCardSaid : Prop := Claim7.holds Tryz.pinned (.plain (OpenSpec.upto changeOrdersSpec)) changeOrdersUptoCard

/-- THE SECOND FORM's CARD OF 'planispherelaw22.ChangeBetween'. -/
def changeBetweenUptoCard : Claim7 := { stood := { row := changeBetweenUptoRow, standIns := [], harness := (true, "cdf57e7ef9fa010f08f8f8e5a2470b26fdbece7853cc6db5e579e3a816a0c670"), looks := true }, kinds := [], alts := [], laidByText := true, laidKinds := [.data, .data, .data, .data, .sentinel, .sentinel, .pinned], laidTests := true, laidLooks := .later }
def ChangeBetweenUptoCardSaid : Prop := Claim7.holds Tryz.pinned (.plain (OpenSpec.upto changeBetweenSpec)) changeBetweenUptoCard
end Rows
end Go.Proofs.YtlnfjkdacimblaaGreatDoor

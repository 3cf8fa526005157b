/-
  DERIVED. GIVEN WITH THE SEED: THE CARDS: each row of YtmkgeogoojcciaaGreatDoorRows.lean that lists a variable, with what it lists TIED to the program's text (the seventh form; the later family's looks); each row that meets fmt, with fmt's text TOLD by the authors' own Lean function (tested against real Go, not proved from fmt's source: count such statements apart). THE CARD IS WHAT COUNTS. Prove the row's statement (the work); the ties are given (YtmkgeogoojcciaaGreatDoorTie.lean); close each card by the builder's one call (the guide's Derived/Test/ToyasCard.lean, 'card_holds'). Laid BY PROGRAM, IN A SANDBOX (cutbox-door.mjs). By AI agents, Wed Nov 11 2026. No macro, syntax, notation, axiom, sorry.
-/
import Derived.Test.YtmkgeogoojcciaaGreatDoorRows
import GoSem.ClaimSeven
namespace Go.Proofs.YtmkgeogoojcciaaGreatDoor
namespace Rows

/-- THE TIED CARD OF 'planispherelaw47.StoreCommits'. -/
def storeCommitsCard : Claim7 := { stood := { row := storeCommitsRow, standIns := [], harness := (true, "b26ee45d91a355265d7a1500e1218dbb146d7a4b8c4cc897b8f5ff9bf7384039"), looks := true }, kinds := [], alts := [], laidByText := true, laidKinds := [.data, .data, .data, .sentinel, .sentinel], laidTests := true, laidLooks := .later }
def StoreCommitsCardSaid : Prop := Claim7.holds Tryz.pinned (.plain (OpenSpec.ofChange storeCommitsSpec)) storeCommitsCard

/-- THE TIED CARD OF 'planispherelaw47.StoreScrubs'. -/
def storeScrubsCard : Claim7 := { stood := { row := storeScrubsRow, standIns := [], harness := (true, "b26ee45d91a355265d7a1500e1218dbb146d7a4b8c4cc897b8f5ff9bf7384039"), looks := true }, kinds := [], alts := [], laidByText := true, laidKinds := [.data, .data, .data, .sentinel, .sentinel], laidTests := true, laidLooks := .later }
def StoreScrubsCardSaid : Prop := Claim7.holds Tryz.pinned (.plain (OpenSpec.ofChange storeScrubsSpec)) storeScrubsCard

/-- THE TIED CARD OF 'planispherelaw47.StoreLimits'. -/
def storeLimitsCard : Claim7 := { stood := { row := storeLimitsRow, standIns := [], harness := (true, "b26ee45d91a355265d7a1500e1218dbb146d7a4b8c4cc897b8f5ff9bf7384039"), looks := true }, kinds := [], alts := [], laidByText := true, laidKinds := [.data, .data, .data, .sentinel, .sentinel], laidTests := true, laidLooks := .later }
def StoreLimitsCardSaid : Prop := Claim7.holds Tryz.pinned (.plain (OpenSpec.ofChange storeLimitsSpec)) storeLimitsCard

/-- THE TIED CARD OF 'planispherelaw47.StoreDamage'. -/
def storeDamageCard : Claim7 := { stood := { row := storeDamageRow, standIns := [], harness := (true, "b26ee45d91a355265d7a1500e1218dbb146d7a4b8c4cc897b8f5ff9bf7384039"), looks := true }, kinds := [], alts := [], laidByText := true, laidKinds := [.data, .data, .data, .sentinel, .sentinel], laidTests := true, laidLooks := .later }
def StoreDamageCardSaid : Prop := Claim7.holds Tryz.pinned (.plain (OpenSpec.ofChange storeDamageSpec)) storeDamageCard

/-- THE TIED CARD OF 'planispherelaw47.StorePower'. -/
def storePowerCard : Claim7 := { stood := { row := storePowerRow, standIns := [], harness := (true, "b26ee45d91a355265d7a1500e1218dbb146d7a4b8c4cc897b8f5ff9bf7384039"), looks := true }, kinds := [], alts := [], laidByText := true, laidKinds := [.data, .data, .data, .sentinel, .sentinel], laidTests := true, laidLooks := .later }
def StorePowerCardSaid : Prop := Claim7.holds Tryz.pinned (.plain (OpenSpec.ofChange storePowerSpec)) storePowerCard

/-- THE TIED CARD OF 'planispherelaw47.StoreMatchesReference'. -/
def storeMatchesReferenceCard : Claim7 := { stood := { row := storeMatchesReferenceRow, standIns := [], harness := (true, "b26ee45d91a355265d7a1500e1218dbb146d7a4b8c4cc897b8f5ff9bf7384039"), looks := true }, kinds := [], alts := [], laidByText := true, laidKinds := [.data, .data, .data, .sentinel, .sentinel], laidTests := true, laidLooks := .later }
def StoreMatchesReferenceCardSaid : Prop := Claim7.holds Tryz.pinned (.plain (OpenSpec.ofChange storeMatchesReferenceSpec)) storeMatchesReferenceCard

/-- THE TIED CARD OF 'planispherelaw47.StoreAgain'. -/
def storeAgainCard : Claim7 := { stood := { row := storeAgainRow, standIns := [], harness := (true, "b26ee45d91a355265d7a1500e1218dbb146d7a4b8c4cc897b8f5ff9bf7384039"), looks := true }, kinds := [], alts := [], laidByText := true, laidKinds := [.data, .data, .data, .sentinel, .sentinel], laidTests := true, laidLooks := .later }
def StoreAgainCardSaid : Prop := Claim7.holds Tryz.pinned (.plain (OpenSpec.ofChange storeAgainSpec)) storeAgainCard

/-- THE SECOND FORM's CARD OF 'planispherelaw47.StoreCommits'. -/
def storeCommitsUptoCard : Claim7 := { stood := { row := storeCommitsUptoRow, standIns := [], harness := (true, "b26ee45d91a355265d7a1500e1218dbb146d7a4b8c4cc897b8f5ff9bf7384039"), looks := true }, kinds := [], alts := [], laidByText := true, laidKinds := [.data, .data, .data, .sentinel, .sentinel], laidTests := true, laidLooks := .later }
def StoreCommitsUptoCardSaid : Prop := Claim7.holds Tryz.pinned (.plain (OpenSpec.upto storeCommitsSpec)) storeCommitsUptoCard

/-- THE SECOND FORM's CARD OF 'planispherelaw47.StoreScrubs'. -/
def storeScrubsUptoCard : Claim7 := { stood := { row := storeScrubsUptoRow, standIns := [], harness := (true, "b26ee45d91a355265d7a1500e1218dbb146d7a4b8c4cc897b8f5ff9bf7384039"), looks := true }, kinds := [], alts := [], laidByText := true, laidKinds := [.data, .data, .data, .sentinel, .sentinel], laidTests := true, laidLooks := .later }
def StoreScrubsUptoCardSaid : Prop := Claim7.holds Tryz.pinned (.plain (OpenSpec.upto storeScrubsSpec)) storeScrubsUptoCard

/-- THE SECOND FORM's CARD OF 'planispherelaw47.StoreLimits'. -/
def storeLimitsUptoCard : Claim7 := { stood := { row := storeLimitsUptoRow, standIns := [], harness := (true, "b26ee45d91a355265d7a1500e1218dbb146d7a4b8c4cc897b8f5ff9bf7384039"), looks := true }, kinds := [], alts := [], laidByText := true, laidKinds := [.data, .data, .data, .sentinel, .sentinel], laidTests := true, laidLooks := .later }
def StoreLimitsUptoCardSaid : Prop := Claim7.holds Tryz.pinned (.plain (OpenSpec.upto storeLimitsSpec)) storeLimitsUptoCard

/-- THE SECOND FORM's CARD OF 'planispherelaw47.StoreDamage'. -/
def storeDamageUptoCard : Claim7 := { stood := { row := storeDamageUptoRow, standIns := [], harness := (true, "b26ee45d91a355265d7a1500e1218dbb146d7a4b8c4cc897b8f5ff9bf7384039"), looks := true }, kinds := [], alts := [], laidByText := true, laidKinds := [.data, .data, .data, .sentinel, .sentinel], laidTests := true, laidLooks := .later }
def StoreDamageUptoCardSaid : Prop := Claim7.holds Tryz.pinned (.plain (OpenSpec.upto storeDamageSpec)) storeDamageUptoCard

/-- THE SECOND FORM's CARD OF 'planispherelaw47.StorePower'. -/
def storePowerUptoCard : Claim7 := { stood := { row := storePowerUptoRow, standIns := [], harness := (true, "b26ee45d91a355265d7a1500e1218dbb146d7a4b8c4cc897b8f5ff9bf7384039"), looks := true }, kinds := [], alts := [], laidByText := true, laidKinds := [.data, .data, .data, .sentinel, .sentinel], laidTests := true, laidLooks := .later }
def StorePowerUptoCardSaid : Prop := Claim7.holds Tryz.pinned (.plain (OpenSpec.upto storePowerSpec)) storePowerUptoCard

/-- THE SECOND FORM's CARD OF 'planispherelaw47.StoreMatchesReference'. -/
def storeMatchesReferenceUptoCard : Claim7 := { stood := { row := storeMatchesReferenceUptoRow, standIns := [], harness := (true, "b26ee45d91a355265d7a1500e1218dbb146d7a4b8c4cc897b8f5ff9bf7384039"), looks := true }, kinds := [], alts := [], laidByText := true, laidKinds := [.data, .data, .data, .sentinel, .sentinel], laidTests := true, laidLooks := .later }
def StoreMatchesReferenceUptoCardSaid : Prop := Claim7.holds Tryz.pinned (.plain (OpenSpec.upto storeMatchesReferenceSpec)) storeMatchesReferenceUptoCard

/-- THE SECOND FORM's CARD OF 'planispherelaw47.StoreAgain'. -/
def storeAgainUptoCard : Claim7 := { stood := { row := storeAgainUptoRow, standIns := [], harness := (true, "b26ee45d91a355265d7a1500e1218dbb146d7a4b8c4cc897b8f5ff9bf7384039"), looks := true }, kinds := [], alts := [], laidByText := true, laidKinds := [.data, .data, .data, .sentinel, .sentinel], laidTests := true, laidLooks := .later }
def StoreAgainUptoCardSaid : Prop := Claim7.holds Tryz.pinned (.plain (OpenSpec.upto storeAgainSpec)) storeAgainUptoCard
end Rows
end Go.Proofs.YtmkgeogoojcciaaGreatDoor

/-
  DERIVED. GIVEN WITH THE SEED: THE CARDS: each row of YtopnleflllkbmaaGreatDoorRows.lean that lists a variable, with what it lists TIED to the program's text (the seventh form; the later family's looks); each row that meets fmt, with fmt's text TOLD by the authors' own Lean function (tested against real Go, not proved from fmt's source: count such statements apart). THE CARD IS WHAT COUNTS. Prove the row's statement (the work); the ties are given (YtopnleflllkbmaaGreatDoorTie.lean); close each card by the builder's one call (the guide's Derived/Test/ToyasCard.lean, 'card_holds'). Laid BY PROGRAM, IN A SANDBOX (cutbox-door.mjs). By AI agents, Wed Nov 11 2026. No macro, syntax, notation, axiom, sorry.
-/
import Derived.Test.YtopnleflllkbmaaGreatDoorRows
import GoSem.ClaimSeven
namespace Go.Proofs.YtopnleflllkbmaaGreatDoor
namespace Rows

/-- THE TIED CARD OF 'planispherelaw53.SyncMatchesReference'. -/
def syncMatchesReferenceCard : Claim7 := { stood := { row := syncMatchesReferenceRow, standIns := [], harness := (true, "a5d19dd6fea85f005a6b2a0cab09b78bb39a25f41210fb995098c18ad521df99"), looks := true }, kinds := [], alts := [], laidByText := true, laidKinds := [.data, .data, .data, .data, .sentinel, .sentinel, .pinned], laidTests := true, laidLooks := .later }
def SyncMatchesReferenceCardSaid : Prop := Claim7.holds Tryz.pinned (.plain (OpenSpec.ofChange syncMatchesReferenceSpec)) syncMatchesReferenceCard

/-- THE TIED CARD OF 'planispherelaw53.SyncEqual'. -/
def syncEqualCard : Claim7 := { stood := { row := syncEqualRow, standIns := [], harness := (true, "a5d19dd6fea85f005a6b2a0cab09b78bb39a25f41210fb995098c18ad521df99"), looks := true }, kinds := [], alts := [], laidByText := true, laidKinds := [.data, .data, .data, .data, .sentinel, .sentinel, .pinned], laidTests := true, laidLooks := .later }
def SyncEqualCardSaid : Prop := Claim7.holds Tryz.pinned (.plain (OpenSpec.ofChange syncEqualSpec)) syncEqualCard

/-- THE TIED CARD OF 'planispherelaw53.SyncExchanges'. -/
def syncExchangesCard : Claim7 := { stood := { row := syncExchangesRow, standIns := [], harness := (true, "a5d19dd6fea85f005a6b2a0cab09b78bb39a25f41210fb995098c18ad521df99"), looks := true }, kinds := [], alts := [], laidByText := true, laidKinds := [.data, .data, .data, .data, .sentinel, .sentinel, .pinned], laidTests := true, laidLooks := .later }
def SyncExchangesCardSaid : Prop := Claim7.holds Tryz.pinned (.plain (OpenSpec.ofChange syncExchangesSpec)) syncExchangesCard

/-- THE TIED CARD OF 'planispherelaw53.SyncFew'. -/
def syncFewCard : Claim7 := { stood := { row := syncFewRow, standIns := [], harness := (true, "a5d19dd6fea85f005a6b2a0cab09b78bb39a25f41210fb995098c18ad521df99"), looks := true }, kinds := [], alts := [], laidByText := true, laidKinds := [.data, .data, .data, .data, .sentinel, .sentinel, .pinned], laidTests := true, laidLooks := .later }
def SyncFewCardSaid : Prop := Claim7.holds Tryz.pinned (.plain (OpenSpec.ofChange syncFewSpec)) syncFewCard

/-- THE TIED CARD OF 'planispherelaw53.SyncForeign'. -/
def syncForeignCard : Claim7 := { stood := { row := syncForeignRow, standIns := [], harness := (true, "a5d19dd6fea85f005a6b2a0cab09b78bb39a25f41210fb995098c18ad521df99"), looks := true }, kinds := [], alts := [], laidByText := true, laidKinds := [.data, .data, .data, .data, .sentinel, .sentinel, .pinned], laidTests := true, laidLooks := .later }
def SyncForeignCardSaid : Prop := Claim7.holds Tryz.pinned (.plain (OpenSpec.ofChange syncForeignSpec)) syncForeignCard

/-- THE TIED CARD OF 'planispherelaw53.SyncOrder'. -/
def syncOrderCard : Claim7 := { stood := { row := syncOrderRow, standIns := [], harness := (true, "a5d19dd6fea85f005a6b2a0cab09b78bb39a25f41210fb995098c18ad521df99"), looks := true }, kinds := [], alts := [], laidByText := true, laidKinds := [.data, .data, .data, .data, .sentinel, .sentinel, .pinned], laidTests := true, laidLooks := .later }
def SyncOrderCardSaid : Prop := Claim7.holds Tryz.pinned (.plain (OpenSpec.ofChange syncOrderSpec)) syncOrderCard

/-- THE SECOND FORM's CARD OF 'planispherelaw53.SyncMatchesReference'. -/
def syncMatchesReferenceUptoCard : Claim7 := { stood := { row := syncMatchesReferenceUptoRow, standIns := [], harness := (true, "a5d19dd6fea85f005a6b2a0cab09b78bb39a25f41210fb995098c18ad521df99"), looks := true }, kinds := [], alts := [], laidByText := true, laidKinds := [.data, .data, .data, .data, .sentinel, .sentinel, .pinned], laidTests := true, laidLooks := .later }
def SyncMatchesReferenceUptoCardSaid : Prop := Claim7.holds Tryz.pinned (.plain (OpenSpec.upto syncMatchesReferenceSpec)) syncMatchesReferenceUptoCard

/-- THE SECOND FORM's CARD OF 'planispherelaw53.SyncEqual'. -/
def syncEqualUptoCard : Claim7 := { stood := { row := syncEqualUptoRow, standIns := [], harness := (true, "a5d19dd6fea85f005a6b2a0cab09b78bb39a25f41210fb995098c18ad521df99"), looks := true }, kinds := [], alts := [], laidByText := true, laidKinds := [.data, .data, .data, .data, .sentinel, .sentinel, .pinned], laidTests := true, laidLooks := .later }
def SyncEqualUptoCardSaid : Prop := Claim7.holds Tryz.pinned (.plain (OpenSpec.upto syncEqualSpec)) syncEqualUptoCard

/-- THE SECOND FORM's CARD OF 'planispherelaw53.SyncExchanges'. -/
def syncExchangesUptoCard : Claim7 := { stood := { row := syncExchangesUptoRow, standIns := [], harness := (true, "a5d19dd6fea85f005a6b2a0cab09b78bb39a25f41210fb995098c18ad521df99"), looks := true }, kinds := [], alts := [], laidByText := true, laidKinds := [.data, .data, .data, .data, .sentinel, .sentinel, .pinned], laidTests := true, laidLooks := .later }
def SyncExchangesUptoCardSaid : Prop := Claim7.holds Tryz.pinned (.plain (OpenSpec.upto syncExchangesSpec)) syncExchangesUptoCard

/-- THE SECOND FORM's CARD OF 'planispherelaw53.SyncFew'. -/
def syncFewUptoCard : Claim7 := { stood := { row := syncFewUptoRow, standIns := [], harness := (true, "a5d19dd6fea85f005a6b2a0cab09b78bb39a25f41210fb995098c18ad521df99"), looks := true }, kinds := [], alts := [], laidByText := true, laidKinds := [.data, .data, .data, .data, .sentinel, .sentinel, .pinned], laidTests := true, laidLooks := .later }
def SyncFewUptoCardSaid : Prop := Claim7.holds Tryz.pinned (.plain (OpenSpec.upto syncFewSpec)) syncFewUptoCard

/-- THE SECOND FORM's CARD OF 'planispherelaw53.SyncForeign'. -/
def syncForeignUptoCard : Claim7 := { stood := { row := syncForeignUptoRow, standIns := [], harness := (true, "a5d19dd6fea85f005a6b2a0cab09b78bb39a25f41210fb995098c18ad521df99"), looks := true }, kinds := [], alts := [], laidByText := true, laidKinds := [.data, .data, .data, .data, .sentinel, .sentinel, .pinned], laidTests := true, laidLooks := .later }
def SyncForeignUptoCardSaid : Prop := Claim7.holds Tryz.pinned (.plain (OpenSpec.upto syncForeignSpec)) syncForeignUptoCard

/-- THE SECOND FORM's CARD OF 'planispherelaw53.SyncOrder'. -/
def syncOrderUptoCard : Claim7 := { stood := { row := syncOrderUptoRow, standIns := [], harness := (true, "a5d19dd6fea85f005a6b2a0cab09b78bb39a25f41210fb995098c18ad521df99"), looks := true }, kinds := [], alts := [], laidByText := true, laidKinds := [.data, .data, .data, .data, .sentinel, .sentinel, .pinned], laidTests := true, laidLooks := .later }
def SyncOrderUptoCardSaid : Prop := Claim7.holds Tryz.pinned (.plain (OpenSpec.upto syncOrderSpec)) syncOrderUptoCard
end Rows
end Go.Proofs.YtopnleflllkbmaaGreatDoor

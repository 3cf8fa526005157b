/-
  DERIVED. GIVEN WITH THE SEED: THE CARDS: each row of YtmdicgjnmfolfaaGreatDoorRows.lean that lists a variable, with what it lists TIED to the program's text (the seventh form; the later family's looks); each row that meets fmt, with fmt's text TOLD by the authors' own Lean function (tested against real Go, not proved from fmt's source: count such statements apart). THE CARD IS WHAT COUNTS. Prove the row's statement (the work); the ties are given (YtmdicgjnmfolfaaGreatDoorTie.lean); close each card by the builder's one call (the guide's Derived/Test/ToyasCard.lean, 'card_holds'). Laid BY PROGRAM, IN A SANDBOX (cutbox-door.mjs). By AI agents, Wed Nov 11 2026. No macro, syntax, notation, axiom, sorry.
-/
import Derived.Test.YtmdicgjnmfolfaaGreatDoorRows
import GoSem.ClaimSeven
namespace Go.Proofs.YtmdicgjnmfolfaaGreatDoor
namespace Rows

/-- THE TIED CARD OF 'planispherelaw27.RecordMatchesReference'. -/
def recordMatchesReferenceCard : Claim7 := { stood := { row := recordMatchesReferenceRow, standIns := [], harness := (true, "4cc20523014845d718d2414d20682649d591cec7714468fb8569a3f176c75dc6"), looks := true }, kinds := [], alts := [], laidByText := true, laidKinds := [.data, .data, .data, .data, .sentinel, .sentinel, .pinned], laidTests := true, laidLooks := .later }
def RecordMatchesReferenceCardSaid : Prop := Claim7.holds Tryz.pinned (.plain (OpenSpec.ofChange recordMatchesReferenceSpec)) recordMatchesReferenceCard

/-- THE TIED CARD OF 'planispherelaw27.RecordMakes'. -/
def recordMakesCard : Claim7 := { stood := { row := recordMakesRow, standIns := [], harness := (true, "4cc20523014845d718d2414d20682649d591cec7714468fb8569a3f176c75dc6"), looks := true }, kinds := [], alts := [], laidByText := true, laidKinds := [.data, .data, .data, .data, .sentinel, .sentinel, .pinned], laidTests := true, laidLooks := .later }
def RecordMakesCardSaid : Prop := Claim7.holds Tryz.pinned (.plain (OpenSpec.ofChange recordMakesSpec)) recordMakesCard

/-- THE TIED CARD OF 'planispherelaw27.RecordForged'. -/
def recordForgedCard : Claim7 := { stood := { row := recordForgedRow, standIns := [], harness := (true, "4cc20523014845d718d2414d20682649d591cec7714468fb8569a3f176c75dc6"), looks := true }, kinds := [], alts := [], laidByText := true, laidKinds := [.data, .data, .data, .data, .sentinel, .sentinel, .pinned], laidTests := true, laidLooks := .later }
def RecordForgedCardSaid : Prop := Claim7.holds Tryz.pinned (.plain (OpenSpec.ofChange recordForgedSpec)) recordForgedCard

/-- THE TIED CARD OF 'planispherelaw27.RecordStolen'. -/
def recordStolenCard : Claim7 := { stood := { row := recordStolenRow, standIns := [], harness := (true, "4cc20523014845d718d2414d20682649d591cec7714468fb8569a3f176c75dc6"), looks := true }, kinds := [], alts := [], laidByText := true, laidKinds := [.data, .data, .data, .data, .sentinel, .sentinel, .pinned], laidTests := true, laidLooks := .later }
def RecordStolenCardSaid : Prop := Claim7.holds Tryz.pinned (.plain (OpenSpec.ofChange recordStolenSpec)) recordStolenCard

/-- THE SECOND FORM's CARD OF 'planispherelaw27.RecordMatchesReference'. -/
def recordMatchesReferenceUptoCard : Claim7 := { stood := { row := recordMatchesReferenceUptoRow, standIns := [], harness := (true, "4cc20523014845d718d2414d20682649d591cec7714468fb8569a3f176c75dc6"), looks := true }, kinds := [], alts := [], laidByText := true, laidKinds := [.data, .data, .data, .data, .sentinel, .sentinel, .pinned], laidTests := true, laidLooks := .later }
def RecordMatchesReferenceUptoCardSaid : Prop := Claim7.holds Tryz.pinned (.plain (OpenSpec.upto recordMatchesReferenceSpec)) recordMatchesReferenceUptoCard

/-- THE SECOND FORM's CARD OF 'planispherelaw27.RecordMakes'. -/
def recordMakesUptoCard : Claim7 := { stood := { row := recordMakesUptoRow, standIns := [], harness := (true, "4cc20523014845d718d2414d20682649d591cec7714468fb8569a3f176c75dc6"), looks := true }, kinds := [], alts := [], laidByText := true, laidKinds := [.data, .data, .data, .data, .sentinel, .sentinel, .pinned], laidTests := true, laidLooks := .later }
def RecordMakesUptoCardSaid : Prop := Claim7.holds Tryz.pinned (.plain (OpenSpec.upto recordMakesSpec)) recordMakesUptoCard

/-- THE SECOND FORM's CARD OF 'planispherelaw27.RecordForged'. -/
def recordForgedUptoCard : Claim7 := { stood := { row := recordForgedUptoRow, standIns := [], harness := (true, "4cc20523014845d718d2414d20682649d591cec7714468fb8569a3f176c75dc6"), looks := true }, kinds := [], alts := [], laidByText := true, laidKinds := [.data, .data, .data, .data, .sentinel, .sentinel, .pinned], laidTests := true, laidLooks := .later }
def RecordForgedUptoCardSaid : Prop := Claim7.holds Tryz.pinned (.plain (OpenSpec.upto recordForgedSpec)) recordForgedUptoCard

/-- THE SECOND FORM's CARD OF 'planispherelaw27.RecordStolen'. -/
def recordStolenUptoCard : Claim7 := { stood := { row := recordStolenUptoRow, standIns := [], harness := (true, "4cc20523014845d718d2414d20682649d591cec7714468fb8569a3f176c75dc6"), looks := true }, kinds := [], alts := [], laidByText := true, laidKinds := [.data, .data, .data, .data, .sentinel, .sentinel, .pinned], laidTests := true, laidLooks := .later }
def RecordStolenUptoCardSaid : Prop := Claim7.holds Tryz.pinned (.plain (OpenSpec.upto recordStolenSpec)) recordStolenUptoCard
end Rows
end Go.Proofs.YtmdicgjnmfolfaaGreatDoor

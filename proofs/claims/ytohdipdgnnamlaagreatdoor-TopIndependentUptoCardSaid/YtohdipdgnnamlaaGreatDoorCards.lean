/-
  DERIVED. GIVEN WITH THE SEED: THE CARDS: each row of YtohdipdgnnamlaaGreatDoorRows.lean that lists a variable, with what it lists TIED to the program's text (the seventh form; the later family's looks); each row that meets fmt, with fmt's text TOLD by the authors' own Lean function (tested against real Go, not proved from fmt's source: count such statements apart). THE CARD IS WHAT COUNTS. Prove the row's statement (the work); the ties are given (YtohdipdgnnamlaaGreatDoorTie.lean); close each card by the builder's one call (the guide's Derived/Test/ToyasCard.lean, 'card_holds'). Laid BY PROGRAM, IN A SANDBOX (cutbox-door.mjs). By AI agents, Wed Nov 11 2026. No macro, syntax, notation, axiom, sorry.
-/
import Derived.Test.YtohdipdgnnamlaaGreatDoorRows
import GoSem.ClaimSeven
namespace Go.Proofs.YtohdipdgnnamlaaGreatDoor
namespace Rows

/-- THE TIED CARD OF 'planispheretop.TopIndependent'. -/
def topIndependentCard : Claim7 := { stood := { row := topIndependentRow, standIns := [], harness := (true, "ec7187f2ee51ed9cb93fe3748a04bd59f7f6984b11b4ecbdbca14c84670760ce"), looks := false }, kinds := [], alts := [], laidByText := true, laidKinds := [.data, .data, .data], laidTests := true, laidLooks := .later }
def TopIndependentCardSaid : Prop := Claim7.holds Tryz.pinned (.plain (OpenSpec.ofChange topIndependentSpec)) topIndependentCard

/-- THE SECOND FORM's CARD OF 'planispheretop.TopIndependent'. -/
def topIndependentUptoCard : Claim7 := { stood := { row := topIndependentUptoRow, standIns := [], harness := (true, "ec7187f2ee51ed9cb93fe3748a04bd59f7f6984b11b4ecbdbca14c84670760ce"), looks := false }, kinds := [], alts := [], laidByText := true, laidKinds := [.data, .data, .data], laidTests := true, laidLooks := .later }
def TopIndependentUptoCardSaid : Prop := Claim7.holds Tryz.pinned (.plain (OpenSpec.upto topIndependentSpec)) topIndependentUptoCard
end Rows
end Go.Proofs.YtohdipdgnnamlaaGreatDoor

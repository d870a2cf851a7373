/-
  DERIVED. GIVEN WITH THE SEED: THE CARDS: each row of YtkpomgifkloklacGreatDoorRows.lean that lists a variable, with what it lists TIED to the program's text (the seventh form; the later family's looks); each row that meets fmt, with fmt's text TOLD by the authors' own Lean function (tested against real Go, not proved from fmt's source: count such statements apart). THE CARD IS WHAT COUNTS. Prove the row's statement (the work); the ties are given (YtkpomgifkloklacGreatDoorTie.lean); close each card by the builder's one call (the guide's Derived/Test/ToyasCard.lean, 'card_holds'). Laid BY PROGRAM, IN A SANDBOX (cutbox-door.mjs). By AI agents, Wed Nov 11 2026. No macro, syntax, notation, axiom, sorry.
-/
import Derived.Test.YtkpomgifkloklacGreatDoorRows
import GoSem.ClaimSeven
namespace Go.Proofs.YtkpomgifkloklacGreatDoor
namespace Rows

/-- THE TIED CARD OF 'quaysidelaw28.ReplicaMeets'. -/
def replicaMeetsCard : Claim7 := { stood := { row := replicaMeetsRow, standIns := [], harness := (true, "5fbc7afc8314e0760ae6f96d6c3f8e455bd99e90acf416899c4d13d930ca555c"), looks := true }, kinds := [], alts := [], laidByText := true, laidKinds := [.data, .data, .data, .data, .data, .data, .data], laidTests := true, laidLooks := .later }
def ReplicaMeetsCardSaid : Prop := Claim7.holds Tryz.pinned (.plain (OpenSpec.ofChange replicaMeetsSpec)) replicaMeetsCard

/-- THE SECOND FORM's CARD OF 'quaysidelaw28.ReplicaMeets'. -/
def replicaMeetsUptoCard : Claim7 := { stood := { row := replicaMeetsUptoRow, standIns := [], harness := (true, "5fbc7afc8314e0760ae6f96d6c3f8e455bd99e90acf416899c4d13d930ca555c"), looks := true }, kinds := [], alts := [], laidByText := true, laidKinds := [.data, .data, .data, .data, .data, .data, .data], laidTests := true, laidLooks := .later }
def ReplicaMeetsUptoCardSaid : Prop := Claim7.holds Tryz.pinned (.plain (OpenSpec.upto replicaMeetsSpec)) replicaMeetsUptoCard
end Rows
end Go.Proofs.YtkpomgifkloklacGreatDoor

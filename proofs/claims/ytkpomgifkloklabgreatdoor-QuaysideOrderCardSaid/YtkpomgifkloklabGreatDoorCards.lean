/-
  DERIVED. GIVEN WITH THE SEED: THE CARDS: each row of YtkpomgifkloklabGreatDoorRows.lean that lists a variable, with what it lists TIED to the program's text (the seventh form; the later family's looks); each row that meets fmt, with fmt's text TOLD by the authors' own Lean function (tested against real Go, not proved from fmt's source: count such statements apart). THE CARD IS WHAT COUNTS. Prove the row's statement (the work); the ties are given (YtkpomgifkloklabGreatDoorTie.lean); close each card by the builder's one call (the guide's Derived/Test/ToyasCard.lean, 'card_holds'). Laid BY PROGRAM, IN A SANDBOX (cutbox-door.mjs). By AI agents, Wed Nov 11 2026. No macro, syntax, notation, axiom, sorry.
-/
import Derived.Test.YtkpomgifkloklabGreatDoorRows
import GoSem.ClaimSeven
namespace Go.Proofs.YtkpomgifkloklabGreatDoor
namespace Rows

/-- THE TIED CARD OF 'quaysidetop.QuaysideOrder'. -/
def quaysideOrderCard : Claim7 := { stood := { row := quaysideOrderRow, standIns := [], harness := (true, "470fde4f5ec4a6a5cb9234123d77d3eeafa2521e056f767af503ed6329eeb99b"), looks := true }, kinds := [], alts := [], laidByText := true, laidKinds := [.data, .data, .data, .data, .data, .data, .data], laidTests := true, laidLooks := .later }
def QuaysideOrderCardSaid : Prop := Claim7.holds Tryz.pinned (.plain (OpenSpec.ofChange quaysideOrderSpec)) quaysideOrderCard

/-- THE SECOND FORM's CARD OF 'quaysidetop.QuaysideOrder'. -/
def quaysideOrderUptoCard : Claim7 := { stood := { row := quaysideOrderUptoRow, standIns := [], harness := (true, "470fde4f5ec4a6a5cb9234123d77d3eeafa2521e056f767af503ed6329eeb99b"), looks := true }, kinds := [], alts := [], laidByText := true, laidKinds := [.data, .data, .data, .data, .data, .data, .data], laidTests := true, laidLooks := .later }
def QuaysideOrderUptoCardSaid : Prop := Claim7.holds Tryz.pinned (.plain (OpenSpec.upto quaysideOrderSpec)) quaysideOrderUptoCard
end Rows
end Go.Proofs.YtkpomgifkloklabGreatDoor

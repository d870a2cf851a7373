/-
  DERIVED. GIVEN WITH THE SEED: THE CARDS: each row of YtkpomgifkloklaaGreatDoorRows.lean that lists a variable, with what it lists TIED to the program's text (the seventh form; the later family's looks); each row that meets fmt, with fmt's text TOLD by the authors' own Lean function (tested against real Go, not proved from fmt's source: count such statements apart). THE CARD IS WHAT COUNTS. Prove the row's statement (the work); the ties are given (YtkpomgifkloklaaGreatDoorTie.lean); close each card by the builder's one call (the guide's Derived/Test/ToyasCard.lean, 'card_holds'). Laid BY PROGRAM, IN A SANDBOX (cutbox-door.mjs). By AI agents, Wed Nov 11 2026. No macro, syntax, notation, axiom, sorry.
-/
import Derived.Test.YtkpomgifkloklaaGreatDoorRows
import GoSem.ClaimSeven
namespace Go.Proofs.YtkpomgifkloklaaGreatDoor
namespace Rows

/-- THE TIED CARD OF 'quaysidetop.QuaysideLasts'. -/
def quaysideLastsCard : Claim7 := { stood := { row := quaysideLastsRow, standIns := [], harness := (true, "cedd35a4c8dc787390a56f610e968dc6790aff118ba77fb15d24ab4b7d1c64d3"), looks := true }, kinds := [], alts := [], laidByText := true, laidKinds := [.data, .data, .data, .data, .data, .data, .data], laidTests := true, laidLooks := .later }
def QuaysideLastsCardSaid : Prop := Claim7.holds Tryz.pinned (.plain (OpenSpec.ofChange quaysideLastsSpec)) quaysideLastsCard

/-- THE SECOND FORM's CARD OF 'quaysidetop.QuaysideLasts'. -/
def quaysideLastsUptoCard : Claim7 := { stood := { row := quaysideLastsUptoRow, standIns := [], harness := (true, "cedd35a4c8dc787390a56f610e968dc6790aff118ba77fb15d24ab4b7d1c64d3"), looks := true }, kinds := [], alts := [], laidByText := true, laidKinds := [.data, .data, .data, .data, .data, .data, .data], laidTests := true, laidLooks := .later }
def QuaysideLastsUptoCardSaid : Prop := Claim7.holds Tryz.pinned (.plain (OpenSpec.upto quaysideLastsSpec)) quaysideLastsUptoCard
end Rows
end Go.Proofs.YtkpomgifkloklaaGreatDoor

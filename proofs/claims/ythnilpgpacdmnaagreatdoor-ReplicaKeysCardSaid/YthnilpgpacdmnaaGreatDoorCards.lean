/-
  DERIVED. GIVEN WITH THE SEED: THE CARDS: each row of YthnilpgpacdmnaaGreatDoorRows.lean that lists a variable, with what it lists TIED to the program's text (the seventh form; the later family's looks); each row that meets fmt, with fmt's text TOLD by the authors' own Lean function (tested against real Go, not proved from fmt's source: count such statements apart). THE CARD IS WHAT COUNTS. Prove the row's statement (the work); the ties are given (YthnilpgpacdmnaaGreatDoorTie.lean); close each card by the builder's one call (the guide's Derived/Test/ToyasCard.lean, 'card_holds'). Laid BY PROGRAM, IN A SANDBOX (cutbox-door.mjs). By AI agents, Wed Nov 11 2026. No macro, syntax, notation, axiom, sorry.
-/
import Derived.Test.YthnilpgpacdmnaaGreatDoorRows
import GoSem.ClaimSeven
namespace Go.Proofs.YthnilpgpacdmnaaGreatDoor
namespace Rows

/-- THE TIED CARD OF 'quaysidelaw28.ReplicaKeys'. -/
def replicaKeysCard : Claim7 := { stood := { row := replicaKeysRow, standIns := [], harness := (true, "c8b6097875056aca9e5edea413c329662ccb84167f3f961310008946043ec562"), looks := true }, kinds := [], alts := [], laidByText := true, laidKinds := [.data, .data, .data, .data, .data, .data, .data], laidTests := true, laidLooks := .later }
def ReplicaKeysCardSaid : Prop := Claim7.holds Tryz.pinned (.plain (OpenSpec.ofChange replicaKeysSpec)) replicaKeysCard

/-- THE SECOND FORM's CARD OF 'quaysidelaw28.ReplicaKeys'. -/
def replicaKeysUptoCard : Claim7 := { stood := { row := replicaKeysUptoRow, standIns := [], harness := (true, "c8b6097875056aca9e5edea413c329662ccb84167f3f961310008946043ec562"), looks := true }, kinds := [], alts := [], laidByText := true, laidKinds := [.data, .data, .data, .data, .data, .data, .data], laidTests := true, laidLooks := .later }
def ReplicaKeysUptoCardSaid : Prop := Claim7.holds Tryz.pinned (.plain (OpenSpec.upto replicaKeysSpec)) replicaKeysUptoCard
end Rows
end Go.Proofs.YthnilpgpacdmnaaGreatDoor

/-
  DERIVED. GIVEN WITH THE SEED: THE CARDS: each row of YtblabbpipmodgaaGreatDoorRows.lean that lists a variable, with what it lists TIED to the program's text (the seventh form; the later family's looks); each row that meets fmt, with fmt's text TOLD by the authors' own Lean function (tested against real Go, not proved from fmt's source: count such statements apart). THE CARD IS WHAT COUNTS. Prove the row's statement (the work); the ties are given (YtblabbpipmodgaaGreatDoorTie.lean); close each card by the builder's one call (the guide's Derived/Test/ToyasCard.lean, 'card_holds'). Laid BY PROGRAM, IN A SANDBOX (cutbox-door.mjs). By AI agents, Wed Nov 11 2026. No macro, syntax, notation, axiom, sorry.
-/
import Derived.Test.YtblabbpipmodgaaGreatDoorRows
import GoSem.ClaimSeven
namespace Go.Proofs.YtblabbpipmodgaaGreatDoor
namespace Rows

/-- THE TIED CARD OF 'quaysidelaw28.ReplicaWaits'. -/
def replicaWaitsCard : Claim7 := { stood := { row := replicaWaitsRow, standIns := [], harness := (true, "9592294b09ccb39624a03a0687d95ce6399c9ccd601e4cdcdf9c2c0a40200991"), looks := true }, kinds := [], alts := [], laidByText := true, laidKinds := [.data, .data, .data, .data, .data, .data, .data], laidTests := true, laidLooks := .later }
def ReplicaWaitsCardSaid : Prop := Claim7.holds Tryz.pinned (.plain (OpenSpec.ofChange replicaWaitsSpec)) replicaWaitsCard

/-- THE TIED CARD OF 'quaysidelaw28.ReplicaLasts'. -/
def replicaLastsCard : Claim7 := { stood := { row := replicaLastsRow, standIns := [], harness := (true, "9592294b09ccb39624a03a0687d95ce6399c9ccd601e4cdcdf9c2c0a40200991"), looks := true }, kinds := [], alts := [], laidByText := true, laidKinds := [.data, .data, .data, .data, .data, .data, .data], laidTests := true, laidLooks := .later }
def ReplicaLastsCardSaid : Prop := Claim7.holds Tryz.pinned (.plain (OpenSpec.ofChange replicaLastsSpec)) replicaLastsCard

/-- THE TIED CARD OF 'quaysidelaw28.ReplicaReads'. -/
def replicaReadsCard : Claim7 := { stood := { row := replicaReadsRow, standIns := [], harness := (true, "9592294b09ccb39624a03a0687d95ce6399c9ccd601e4cdcdf9c2c0a40200991"), looks := true }, kinds := [], alts := [], laidByText := true, laidKinds := [.data, .data, .data, .data, .data, .data, .data], laidTests := true, laidLooks := .later }
def ReplicaReadsCardSaid : Prop := Claim7.holds Tryz.pinned (.plain (OpenSpec.ofChange replicaReadsSpec)) replicaReadsCard

/-- THE TIED CARD OF 'quaysidelaw28.ReplicaKeys'. -/
def replicaKeysCard : Claim7 := { stood := { row := replicaKeysRow, standIns := [], harness := (true, "9592294b09ccb39624a03a0687d95ce6399c9ccd601e4cdcdf9c2c0a40200991"), looks := true }, kinds := [], alts := [], laidByText := true, laidKinds := [.data, .data, .data, .data, .data, .data, .data], laidTests := true, laidLooks := .later }
def ReplicaKeysCardSaid : Prop := Claim7.holds Tryz.pinned (.plain (OpenSpec.ofChange replicaKeysSpec)) replicaKeysCard

/-- THE TIED CARD OF 'quaysidelaw28.ReplicaCompacts'. -/
def replicaCompactsCard : Claim7 := { stood := { row := replicaCompactsRow, standIns := [], harness := (true, "9592294b09ccb39624a03a0687d95ce6399c9ccd601e4cdcdf9c2c0a40200991"), looks := true }, kinds := [], alts := [], laidByText := true, laidKinds := [.data, .data, .data, .data, .data, .data, .data], laidTests := true, laidLooks := .later }
def ReplicaCompactsCardSaid : Prop := Claim7.holds Tryz.pinned (.plain (OpenSpec.ofChange replicaCompactsSpec)) replicaCompactsCard

/-- THE SECOND FORM's CARD OF 'quaysidelaw28.ReplicaWaits'. -/
def replicaWaitsUptoCard : Claim7 := { stood := { row := replicaWaitsUptoRow, standIns := [], harness := (true, "9592294b09ccb39624a03a0687d95ce6399c9ccd601e4cdcdf9c2c0a40200991"), looks := true }, kinds := [], alts := [], laidByText := true, laidKinds := [.data, .data, .data, .data, .data, .data, .data], laidTests := true, laidLooks := .later }
def ReplicaWaitsUptoCardSaid : Prop := Claim7.holds Tryz.pinned (.plain (OpenSpec.upto replicaWaitsSpec)) replicaWaitsUptoCard

/-- THE SECOND FORM's CARD OF 'quaysidelaw28.ReplicaLasts'. -/
def replicaLastsUptoCard : Claim7 := { stood := { row := replicaLastsUptoRow, standIns := [], harness := (true, "9592294b09ccb39624a03a0687d95ce6399c9ccd601e4cdcdf9c2c0a40200991"), looks := true }, kinds := [], alts := [], laidByText := true, laidKinds := [.data, .data, .data, .data, .data, .data, .data], laidTests := true, laidLooks := .later }
def ReplicaLastsUptoCardSaid : Prop := Claim7.holds Tryz.pinned (.plain (OpenSpec.upto replicaLastsSpec)) replicaLastsUptoCard

/-- THE SECOND FORM's CARD OF 'quaysidelaw28.ReplicaReads'. -/
def replicaReadsUptoCard : Claim7 := { stood := { row := replicaReadsUptoRow, standIns := [], harness := (true, "9592294b09ccb39624a03a0687d95ce6399c9ccd601e4cdcdf9c2c0a40200991"), looks := true }, kinds := [], alts := [], laidByText := true, laidKinds := [.data, .data, .data, .data, .data, .data, .data], laidTests := true, laidLooks := .later }
def ReplicaReadsUptoCardSaid : Prop := Claim7.holds Tryz.pinned (.plain (OpenSpec.upto replicaReadsSpec)) replicaReadsUptoCard

/-- THE SECOND FORM's CARD OF 'quaysidelaw28.ReplicaKeys'. -/
def replicaKeysUptoCard : Claim7 := { stood := { row := replicaKeysUptoRow, standIns := [], harness := (true, "9592294b09ccb39624a03a0687d95ce6399c9ccd601e4cdcdf9c2c0a40200991"), looks := true }, kinds := [], alts := [], laidByText := true, laidKinds := [.data, .data, .data, .data, .data, .data, .data], laidTests := true, laidLooks := .later }
def ReplicaKeysUptoCardSaid : Prop := Claim7.holds Tryz.pinned (.plain (OpenSpec.upto replicaKeysSpec)) replicaKeysUptoCard

/-- THE SECOND FORM's CARD OF 'quaysidelaw28.ReplicaCompacts'. -/
def replicaCompactsUptoCard : Claim7 := { stood := { row := replicaCompactsUptoRow, standIns := [], harness := (true, "9592294b09ccb39624a03a0687d95ce6399c9ccd601e4cdcdf9c2c0a40200991"), looks := true }, kinds := [], alts := [], laidByText := true, laidKinds := [.data, .data, .data, .data, .data, .data, .data], laidTests := true, laidLooks := .later }
def ReplicaCompactsUptoCardSaid : Prop := Claim7.holds Tryz.pinned (.plain (OpenSpec.upto replicaCompactsSpec)) replicaCompactsUptoCard
end Rows
end Go.Proofs.YtblabbpipmodgaaGreatDoor

/-
  DERIVED. GIVEN WITH THE SEED: THE CARDS: each row of YtjgjkeponbeekaaGreatDoorRows.lean that lists a variable, with what it lists TIED to the program's text (the seventh form; the later family's looks); each row that meets fmt, with fmt's text TOLD by the authors' own Lean function (tested against real Go, not proved from fmt's source: count such statements apart). THE CARD IS WHAT COUNTS. Prove the row's statement (the work); the ties are given (YtjgjkeponbeekaaGreatDoorTie.lean); close each card by the builder's one call (the guide's Derived/Test/ToyasCard.lean, 'card_holds'). Laid BY PROGRAM, IN A SANDBOX (cutbox-door.mjs). By AI agents, Wed Nov 11 2026. No macro, syntax, notation, axiom, sorry.
-/
import Derived.Test.YtjgjkeponbeekaaGreatDoorRows
import GoSem.ClaimSeven
namespace Go.Proofs.YtjgjkeponbeekaaGreatDoor
namespace Rows

/-- THE TIED CARD OF 'quaysidelaw30.ClusterTells'. -/
def clusterTellsCard : Claim7 := { stood := { row := clusterTellsRow, standIns := [], harness := (true, "49d4c138f6fcadbdd60a227eabbe83ad3d738ea6b2d24da716ffb9d2e13a0036"), looks := true }, kinds := [], alts := [], laidByText := true, laidKinds := [.data, .data, .data, .data, .data, .data, .data], laidTests := true, laidLooks := .later }
def ClusterTellsCardSaid : Prop := Claim7.holds Tryz.pinned (.plain (OpenSpec.ofChange clusterTellsSpec)) clusterTellsCard

/-- THE TIED CARD OF 'quaysidelaw30.ClusterReads'. -/
def clusterReadsCard : Claim7 := { stood := { row := clusterReadsRow, standIns := [], harness := (true, "49d4c138f6fcadbdd60a227eabbe83ad3d738ea6b2d24da716ffb9d2e13a0036"), looks := true }, kinds := [], alts := [], laidByText := true, laidKinds := [.data, .data, .data, .data, .data, .data, .data], laidTests := true, laidLooks := .later }
def ClusterReadsCardSaid : Prop := Claim7.holds Tryz.pinned (.plain (OpenSpec.ofChange clusterReadsSpec)) clusterReadsCard

/-- THE TIED CARD OF 'quaysidelaw30.ClusterLost'. -/
def clusterLostCard : Claim7 := { stood := { row := clusterLostRow, standIns := [], harness := (true, "49d4c138f6fcadbdd60a227eabbe83ad3d738ea6b2d24da716ffb9d2e13a0036"), looks := true }, kinds := [], alts := [], laidByText := true, laidKinds := [.data, .data, .data, .data, .data, .data, .data], laidTests := true, laidLooks := .later }
def ClusterLostCardSaid : Prop := Claim7.holds Tryz.pinned (.plain (OpenSpec.ofChange clusterLostSpec)) clusterLostCard

/-- THE TIED CARD OF 'quaysidelaw30.ClusterIs'. -/
def clusterIsCard : Claim7 := { stood := { row := clusterIsRow, standIns := [], harness := (true, "49d4c138f6fcadbdd60a227eabbe83ad3d738ea6b2d24da716ffb9d2e13a0036"), looks := true }, kinds := [], alts := [], laidByText := true, laidKinds := [.data, .data, .data, .data, .data, .data, .data], laidTests := true, laidLooks := .later }
def ClusterIsCardSaid : Prop := Claim7.holds Tryz.pinned (.plain (OpenSpec.ofChange clusterIsSpec)) clusterIsCard

/-- THE SECOND FORM's CARD OF 'quaysidelaw30.ClusterTells'. -/
def clusterTellsUptoCard : Claim7 := { stood := { row := clusterTellsUptoRow, standIns := [], harness := (true, "49d4c138f6fcadbdd60a227eabbe83ad3d738ea6b2d24da716ffb9d2e13a0036"), looks := true }, kinds := [], alts := [], laidByText := true, laidKinds := [.data, .data, .data, .data, .data, .data, .data], laidTests := true, laidLooks := .later }
def ClusterTellsUptoCardSaid : Prop := Claim7.holds Tryz.pinned (.plain (OpenSpec.upto clusterTellsSpec)) clusterTellsUptoCard

/-- THE SECOND FORM's CARD OF 'quaysidelaw30.ClusterReads'. -/
def clusterReadsUptoCard : Claim7 := { stood := { row := clusterReadsUptoRow, standIns := [], harness := (true, "49d4c138f6fcadbdd60a227eabbe83ad3d738ea6b2d24da716ffb9d2e13a0036"), looks := true }, kinds := [], alts := [], laidByText := true, laidKinds := [.data, .data, .data, .data, .data, .data, .data], laidTests := true, laidLooks := .later }
def ClusterReadsUptoCardSaid : Prop := Claim7.holds Tryz.pinned (.plain (OpenSpec.upto clusterReadsSpec)) clusterReadsUptoCard

/-- THE SECOND FORM's CARD OF 'quaysidelaw30.ClusterLost'. -/
def clusterLostUptoCard : Claim7 := { stood := { row := clusterLostUptoRow, standIns := [], harness := (true, "49d4c138f6fcadbdd60a227eabbe83ad3d738ea6b2d24da716ffb9d2e13a0036"), looks := true }, kinds := [], alts := [], laidByText := true, laidKinds := [.data, .data, .data, .data, .data, .data, .data], laidTests := true, laidLooks := .later }
def ClusterLostUptoCardSaid : Prop := Claim7.holds Tryz.pinned (.plain (OpenSpec.upto clusterLostSpec)) clusterLostUptoCard

/-- THE SECOND FORM's CARD OF 'quaysidelaw30.ClusterIs'. -/
def clusterIsUptoCard : Claim7 := { stood := { row := clusterIsUptoRow, standIns := [], harness := (true, "49d4c138f6fcadbdd60a227eabbe83ad3d738ea6b2d24da716ffb9d2e13a0036"), looks := true }, kinds := [], alts := [], laidByText := true, laidKinds := [.data, .data, .data, .data, .data, .data, .data], laidTests := true, laidLooks := .later }
def ClusterIsUptoCardSaid : Prop := Claim7.holds Tryz.pinned (.plain (OpenSpec.upto clusterIsSpec)) clusterIsUptoCard
end Rows
end Go.Proofs.YtjgjkeponbeekaaGreatDoor

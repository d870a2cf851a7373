/-
  DERIVED. GIVEN WITH THE SEED: THE CARDS: each row of YtpmakiecgphijaaGreatDoorRows.lean that lists a variable, with what it lists TIED to the program's text (the seventh form; the later family's looks); each row that meets fmt, with fmt's text TOLD by the authors' own Lean function (tested against real Go, not proved from fmt's source: count such statements apart). THE CARD IS WHAT COUNTS. Prove the row's statement (the work); the ties are given (YtpmakiecgphijaaGreatDoorTie.lean); close each card by the builder's one call (the guide's Derived/Test/ToyasCard.lean, 'card_holds'). Laid BY PROGRAM, IN A SANDBOX (cutbox-door.mjs). By AI agents, Wed Nov 11 2026. No macro, syntax, notation, axiom, sorry.
-/
import Derived.Test.YtpmakiecgphijaaGreatDoorRows
import GoSem.ClaimSeven
namespace Go.Proofs.YtpmakiecgphijaaGreatDoor
namespace Rows

/-- THE TIED CARD OF 'quaysidelaw20.SegmentLoads'. -/
def segmentLoadsCard : Claim7 := { stood := { row := segmentLoadsRow, standIns := [], harness := (true, "479c94efae8fa11444f75fec94d767cb6f43b72fbb755080153c1ef792eb880d"), looks := true }, kinds := [], alts := [], laidByText := true, laidKinds := [.data, .data, .data, .data, .data], laidTests := true, laidLooks := .later }
def SegmentLoadsCardSaid : Prop := Claim7.holds Tryz.pinned (.plain (OpenSpec.ofChange segmentLoadsSpec)) segmentLoadsCard

/-- THE TIED CARD OF 'quaysidelaw20.SegmentKnown'. -/
def segmentKnownCard : Claim7 := { stood := { row := segmentKnownRow, standIns := [], harness := (true, "479c94efae8fa11444f75fec94d767cb6f43b72fbb755080153c1ef792eb880d"), looks := true }, kinds := [], alts := [], laidByText := true, laidKinds := [.data, .data, .data, .data, .data], laidTests := true, laidLooks := .later }
def SegmentKnownCardSaid : Prop := Claim7.holds Tryz.pinned (.plain (OpenSpec.ofChange segmentKnownSpec)) segmentKnownCard

/-- THE TIED CARD OF 'quaysidelaw21.ManifestWhole'. -/
def manifestWholeCard : Claim7 := { stood := { row := manifestWholeRow, standIns := [], harness := (true, "479c94efae8fa11444f75fec94d767cb6f43b72fbb755080153c1ef792eb880d"), looks := true }, kinds := [], alts := [], laidByText := true, laidKinds := [.data, .data], laidTests := true, laidLooks := .later }
def ManifestWholeCardSaid : Prop := Claim7.holds Tryz.pinned (.plain (OpenSpec.ofChange manifestWholeSpec)) manifestWholeCard

/-- THE TIED CARD OF 'quaysidelaw21.ManifestWrites'. -/
def manifestWritesCard : Claim7 := { stood := { row := manifestWritesRow, standIns := [], harness := (true, "479c94efae8fa11444f75fec94d767cb6f43b72fbb755080153c1ef792eb880d"), looks := true }, kinds := [], alts := [], laidByText := true, laidKinds := [.data, .data], laidTests := true, laidLooks := .later }
def ManifestWritesCardSaid : Prop := Claim7.holds Tryz.pinned (.plain (OpenSpec.ofChange manifestWritesSpec)) manifestWritesCard

/-- THE SECOND FORM's CARD OF 'quaysidelaw20.SegmentLoads'. -/
def segmentLoadsUptoCard : Claim7 := { stood := { row := segmentLoadsUptoRow, standIns := [], harness := (true, "479c94efae8fa11444f75fec94d767cb6f43b72fbb755080153c1ef792eb880d"), looks := true }, kinds := [], alts := [], laidByText := true, laidKinds := [.data, .data, .data, .data, .data], laidTests := true, laidLooks := .later }
def SegmentLoadsUptoCardSaid : Prop := Claim7.holds Tryz.pinned (.plain (OpenSpec.upto segmentLoadsSpec)) segmentLoadsUptoCard

/-- THE SECOND FORM's CARD OF 'quaysidelaw20.SegmentKnown'. -/
def segmentKnownUptoCard : Claim7 := { stood := { row := segmentKnownUptoRow, standIns := [], harness := (true, "479c94efae8fa11444f75fec94d767cb6f43b72fbb755080153c1ef792eb880d"), looks := true }, kinds := [], alts := [], laidByText := true, laidKinds := [.data, .data, .data, .data, .data], laidTests := true, laidLooks := .later }
def SegmentKnownUptoCardSaid : Prop := Claim7.holds Tryz.pinned (.plain (OpenSpec.upto segmentKnownSpec)) segmentKnownUptoCard

/-- THE SECOND FORM's CARD OF 'quaysidelaw21.ManifestWhole'. -/
def manifestWholeUptoCard : Claim7 := { stood := { row := manifestWholeUptoRow, standIns := [], harness := (true, "479c94efae8fa11444f75fec94d767cb6f43b72fbb755080153c1ef792eb880d"), looks := true }, kinds := [], alts := [], laidByText := true, laidKinds := [.data, .data], laidTests := true, laidLooks := .later }
def ManifestWholeUptoCardSaid : Prop := Claim7.holds Tryz.pinned (.plain (OpenSpec.upto manifestWholeSpec)) manifestWholeUptoCard

/-- THE SECOND FORM's CARD OF 'quaysidelaw21.ManifestWrites'. -/
def manifestWritesUptoCard : Claim7 := { stood := { row := manifestWritesUptoRow, standIns := [], harness := (true, "479c94efae8fa11444f75fec94d767cb6f43b72fbb755080153c1ef792eb880d"), looks := true }, kinds := [], alts := [], laidByText := true, laidKinds := [.data, .data], laidTests := true, laidLooks := .later }
def ManifestWritesUptoCardSaid : Prop := Claim7.holds Tryz.pinned (.plain (OpenSpec.upto manifestWritesSpec)) manifestWritesUptoCard
end Rows
end Go.Proofs.YtpmakiecgphijaaGreatDoor

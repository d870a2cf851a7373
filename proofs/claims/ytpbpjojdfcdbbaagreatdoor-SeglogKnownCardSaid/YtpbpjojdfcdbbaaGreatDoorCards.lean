/-
  DERIVED. GIVEN WITH THE SEED: THE CARDS: each row of YtpbpjojdfcdbbaaGreatDoorRows.lean that lists a variable, with what it lists TIED to the program's text (the seventh form; the later family's looks); each row that meets fmt, with fmt's text TOLD by the authors' own Lean function (tested against real Go, not proved from fmt's source: count such statements apart). THE CARD IS WHAT COUNTS. Prove the row's statement (the work); the ties are given (YtpbpjojdfcdbbaaGreatDoorTie.lean); close each card by the builder's one call (the guide's Derived/Test/ToyasCard.lean, 'card_holds'). Laid BY PROGRAM, IN A SANDBOX (cutbox-door.mjs). By AI agents, Wed Nov 11 2026. No macro, syntax, notation, axiom, sorry.
-/
import Derived.Test.YtpbpjojdfcdbbaaGreatDoorRows
import GoSem.ClaimSeven
namespace Go.Proofs.YtpbpjojdfcdbbaaGreatDoor
namespace Rows

/-- THE TIED CARD OF 'quaysidelaw22.SeglogRefuses'. -/
def seglogRefusesCard : Claim7 := { stood := { row := seglogRefusesRow, standIns := [], harness := (true, "81cdf34e996363b2382e718c9ff0973a68c3532f117324004413746199e4d373"), looks := true }, kinds := [], alts := [], laidByText := true, laidKinds := [.data, .data, .data, .data, .data], laidTests := true, laidLooks := .later }
def SeglogRefusesCardSaid : Prop := Claim7.holds Tryz.pinned (.plain (OpenSpec.ofChange seglogRefusesSpec)) seglogRefusesCard

/-- THE TIED CARD OF 'quaysidelaw22.SeglogPieces'. -/
def seglogPiecesCard : Claim7 := { stood := { row := seglogPiecesRow, standIns := [], harness := (true, "81cdf34e996363b2382e718c9ff0973a68c3532f117324004413746199e4d373"), looks := true }, kinds := [], alts := [], laidByText := true, laidKinds := [.data, .data, .data, .data, .data], laidTests := true, laidLooks := .later }
def SeglogPiecesCardSaid : Prop := Claim7.holds Tryz.pinned (.plain (OpenSpec.ofChange seglogPiecesSpec)) seglogPiecesCard

/-- THE TIED CARD OF 'quaysidelaw22.SeglogLasts'. -/
def seglogLastsCard : Claim7 := { stood := { row := seglogLastsRow, standIns := [], harness := (true, "81cdf34e996363b2382e718c9ff0973a68c3532f117324004413746199e4d373"), looks := true }, kinds := [], alts := [], laidByText := true, laidKinds := [.data, .data, .data, .data, .data], laidTests := true, laidLooks := .later }
def SeglogLastsCardSaid : Prop := Claim7.holds Tryz.pinned (.plain (OpenSpec.ofChange seglogLastsSpec)) seglogLastsCard

/-- THE TIED CARD OF 'quaysidelaw22.SeglogSegments'. -/
def seglogSegmentsCard : Claim7 := { stood := { row := seglogSegmentsRow, standIns := [], harness := (true, "81cdf34e996363b2382e718c9ff0973a68c3532f117324004413746199e4d373"), looks := true }, kinds := [], alts := [], laidByText := true, laidKinds := [.data, .data, .data, .data, .data], laidTests := true, laidLooks := .later }
def SeglogSegmentsCardSaid : Prop := Claim7.holds Tryz.pinned (.plain (OpenSpec.ofChange seglogSegmentsSpec)) seglogSegmentsCard

/-- THE TIED CARD OF 'quaysidelaw22.SeglogKnown'. -/
def seglogKnownCard : Claim7 := { stood := { row := seglogKnownRow, standIns := [], harness := (true, "81cdf34e996363b2382e718c9ff0973a68c3532f117324004413746199e4d373"), looks := true }, kinds := [], alts := [], laidByText := true, laidKinds := [.data, .data, .data, .data, .data], laidTests := true, laidLooks := .later }
def SeglogKnownCardSaid : Prop := Claim7.holds Tryz.pinned (.plain (OpenSpec.ofChange seglogKnownSpec)) seglogKnownCard

/-- THE TIED CARD OF 'quaysidelaw23.CompactTwice'. -/
def compactTwiceCard : Claim7 := { stood := { row := compactTwiceRow, standIns := [], harness := (true, "81cdf34e996363b2382e718c9ff0973a68c3532f117324004413746199e4d373"), looks := true }, kinds := [], alts := [], laidByText := true, laidKinds := [.data, .data, .data, .data, .data], laidTests := true, laidLooks := .later }
def CompactTwiceCardSaid : Prop := Claim7.holds Tryz.pinned (.plain (OpenSpec.ofChange compactTwiceSpec)) compactTwiceCard

/-- THE TIED CARD OF 'quaysidelaw23.CompactWhole'. -/
def compactWholeCard : Claim7 := { stood := { row := compactWholeRow, standIns := [], harness := (true, "81cdf34e996363b2382e718c9ff0973a68c3532f117324004413746199e4d373"), looks := true }, kinds := [], alts := [], laidByText := true, laidKinds := [.data, .data, .data, .data, .data], laidTests := true, laidLooks := .later }
def CompactWholeCardSaid : Prop := Claim7.holds Tryz.pinned (.plain (OpenSpec.ofChange compactWholeSpec)) compactWholeCard

/-- THE TIED CARD OF 'quaysidelaw23.CompactClean'. -/
def compactCleanCard : Claim7 := { stood := { row := compactCleanRow, standIns := [], harness := (true, "81cdf34e996363b2382e718c9ff0973a68c3532f117324004413746199e4d373"), looks := true }, kinds := [], alts := [], laidByText := true, laidKinds := [.data, .data, .data, .data, .data], laidTests := true, laidLooks := .later }
def CompactCleanCardSaid : Prop := Claim7.holds Tryz.pinned (.plain (OpenSpec.ofChange compactCleanSpec)) compactCleanCard

/-- THE SECOND FORM's CARD OF 'quaysidelaw22.SeglogRefuses'. -/
def seglogRefusesUptoCard : Claim7 := { stood := { row := seglogRefusesUptoRow, standIns := [], harness := (true, "81cdf34e996363b2382e718c9ff0973a68c3532f117324004413746199e4d373"), looks := true }, kinds := [], alts := [], laidByText := true, laidKinds := [.data, .data, .data, .data, .data], laidTests := true, laidLooks := .later }
def SeglogRefusesUptoCardSaid : Prop := Claim7.holds Tryz.pinned (.plain (OpenSpec.upto seglogRefusesSpec)) seglogRefusesUptoCard

/-- THE SECOND FORM's CARD OF 'quaysidelaw22.SeglogPieces'. -/
def seglogPiecesUptoCard : Claim7 := { stood := { row := seglogPiecesUptoRow, standIns := [], harness := (true, "81cdf34e996363b2382e718c9ff0973a68c3532f117324004413746199e4d373"), looks := true }, kinds := [], alts := [], laidByText := true, laidKinds := [.data, .data, .data, .data, .data], laidTests := true, laidLooks := .later }
def SeglogPiecesUptoCardSaid : Prop := Claim7.holds Tryz.pinned (.plain (OpenSpec.upto seglogPiecesSpec)) seglogPiecesUptoCard

/-- THE SECOND FORM's CARD OF 'quaysidelaw22.SeglogLasts'. -/
def seglogLastsUptoCard : Claim7 := { stood := { row := seglogLastsUptoRow, standIns := [], harness := (true, "81cdf34e996363b2382e718c9ff0973a68c3532f117324004413746199e4d373"), looks := true }, kinds := [], alts := [], laidByText := true, laidKinds := [.data, .data, .data, .data, .data], laidTests := true, laidLooks := .later }
def SeglogLastsUptoCardSaid : Prop := Claim7.holds Tryz.pinned (.plain (OpenSpec.upto seglogLastsSpec)) seglogLastsUptoCard

/-- THE SECOND FORM's CARD OF 'quaysidelaw22.SeglogSegments'. -/
def seglogSegmentsUptoCard : Claim7 := { stood := { row := seglogSegmentsUptoRow, standIns := [], harness := (true, "81cdf34e996363b2382e718c9ff0973a68c3532f117324004413746199e4d373"), looks := true }, kinds := [], alts := [], laidByText := true, laidKinds := [.data, .data, .data, .data, .data], laidTests := true, laidLooks := .later }
def SeglogSegmentsUptoCardSaid : Prop := Claim7.holds Tryz.pinned (.plain (OpenSpec.upto seglogSegmentsSpec)) seglogSegmentsUptoCard

/-- THE SECOND FORM's CARD OF 'quaysidelaw22.SeglogKnown'. -/
def seglogKnownUptoCard : Claim7 := { stood := { row := seglogKnownUptoRow, standIns := [], harness := (true, "81cdf34e996363b2382e718c9ff0973a68c3532f117324004413746199e4d373"), looks := true }, kinds := [], alts := [], laidByText := true, laidKinds := [.data, .data, .data, .data, .data], laidTests := true, laidLooks := .later }
def SeglogKnownUptoCardSaid : Prop := Claim7.holds Tryz.pinned (.plain (OpenSpec.upto seglogKnownSpec)) seglogKnownUptoCard

/-- THE SECOND FORM's CARD OF 'quaysidelaw23.CompactTwice'. -/
def compactTwiceUptoCard : Claim7 := { stood := { row := compactTwiceUptoRow, standIns := [], harness := (true, "81cdf34e996363b2382e718c9ff0973a68c3532f117324004413746199e4d373"), looks := true }, kinds := [], alts := [], laidByText := true, laidKinds := [.data, .data, .data, .data, .data], laidTests := true, laidLooks := .later }
def CompactTwiceUptoCardSaid : Prop := Claim7.holds Tryz.pinned (.plain (OpenSpec.upto compactTwiceSpec)) compactTwiceUptoCard

/-- THE SECOND FORM's CARD OF 'quaysidelaw23.CompactWhole'. -/
def compactWholeUptoCard : Claim7 := { stood := { row := compactWholeUptoRow, standIns := [], harness := (true, "81cdf34e996363b2382e718c9ff0973a68c3532f117324004413746199e4d373"), looks := true }, kinds := [], alts := [], laidByText := true, laidKinds := [.data, .data, .data, .data, .data], laidTests := true, laidLooks := .later }
def CompactWholeUptoCardSaid : Prop := Claim7.holds Tryz.pinned (.plain (OpenSpec.upto compactWholeSpec)) compactWholeUptoCard

/-- THE SECOND FORM's CARD OF 'quaysidelaw23.CompactClean'. -/
def compactCleanUptoCard : Claim7 := { stood := { row := compactCleanUptoRow, standIns := [], harness := (true, "81cdf34e996363b2382e718c9ff0973a68c3532f117324004413746199e4d373"), looks := true }, kinds := [], alts := [], laidByText := true, laidKinds := [.data, .data, .data, .data, .data], laidTests := true, laidLooks := .later }
def CompactCleanUptoCardSaid : Prop := Claim7.holds Tryz.pinned (.plain (OpenSpec.upto compactCleanSpec)) compactCleanUptoCard
end Rows
end Go.Proofs.YtpbpjojdfcdbbaaGreatDoor

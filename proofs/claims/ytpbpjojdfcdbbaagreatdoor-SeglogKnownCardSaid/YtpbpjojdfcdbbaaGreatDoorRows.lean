/-
  NARROWER THAN 'FOR EVERY INPUT', by the rows' own cells (each row's printed sentence says how): SeglogRefuses: laid · SeglogPieces: laid · SeglogLasts: laid · SeglogSegments: laid · SeglogKnown: laid · CompactTwice: laid · CompactWhole: laid · CompactClean: laid.
  DERIVED. THE GIVEN ROWS OF THIS SEAT. 8 by the template 'for every input the law returns true; each argument reads behind the call as it read before'; 0 by the template 'total and deterministic' (their statements: YtpbpjojdfcdbbaaGreatDoorTotals.lean).
  GIVEN WITH THE SEED: the statements are not yours to turn. If you find one false, say at which input.
  Laid BY PROGRAM, IN A SANDBOX (cutbox-rows.mjs): the forced cells as the released guide's own fill.sh prints them over the translation 01a669e50aebf5ea… (all of the seat's roots in one cut). By AI agents, Wed Nov 11 2026. No macro, syntax, notation, axiom, sorry.
-/
import Derived.Test.YtpbpjojdfcdbbaaGreatDoorChecked
import GoSem.Claim
import GoSem.ClaimJoined
import GoSem.ClaimMapViews
import Derived.JoinedTies
import Derived.KernelRfl
namespace Go.Proofs.YtpbpjojdfcdbbaaGreatDoor
/- THE CELL 'sum', in the pinned program and in every row, IS THE sha256 OF THE DUMP (.gsa) THAT YtpbpjojdfcdbbaaGreatDoorProg.lean LOADS. Nothing in Lean hashes anything: it is a label: what it is worth is what the hold of that sum in a sandbox is worth. -/
noncomputable def Tryz.pinned : Pinned := { name := "ytpbpjojdfcdbbaagreatdoor", sum := "01a669e50aebf5ea69c4655b47e348ec6313db5cc38b705b277db54ff002f44e", checked := Tryz.checked }
namespace Rows
def none {H : Type} : Left H := { results := [], args := [] }

/- WHAT THE LISTED PACKAGE-LEVEL VARIABLES READ AS WHEN THE CALL BEGINS. Each datum BY PROGRAM (the guide's laid-datum.mjs) off the statement by which the dump's own 'gosem.cut.vars' lays the variable. In a bare row this is a premise. The card (YtpbpjojdfcdbbaaGreatDoorCards.lean) ties it to the program's text. -/
def laid_math_bits_deBruijn32tab {H : Type} : DataW H := .agg [.lit (.int .u8 0), .lit (.int .u8 1), .lit (.int .u8 28), .lit (.int .u8 2), .lit (.int .u8 29), .lit (.int .u8 14), .lit (.int .u8 24), .lit (.int .u8 3), .lit (.int .u8 30), .lit (.int .u8 22), .lit (.int .u8 20), .lit (.int .u8 15), .lit (.int .u8 25), .lit (.int .u8 17), .lit (.int .u8 4), .lit (.int .u8 8), .lit (.int .u8 31), .lit (.int .u8 27), .lit (.int .u8 13), .lit (.int .u8 23), .lit (.int .u8 21), .lit (.int .u8 19), .lit (.int .u8 16), .lit (.int .u8 7), .lit (.int .u8 26), .lit (.int .u8 12), .lit (.int .u8 18), .lit (.int .u8 6), .lit (.int .u8 11), .lit (.int .u8 5), .lit (.int .u8 10), .lit (.int .u8 9)]
def laid_math_bits_deBruijn64tab {H : Type} : DataW H := .agg [.lit (.int .u8 0), .lit (.int .u8 1), .lit (.int .u8 56), .lit (.int .u8 2), .lit (.int .u8 57), .lit (.int .u8 49), .lit (.int .u8 28), .lit (.int .u8 3), .lit (.int .u8 61), .lit (.int .u8 58), .lit (.int .u8 42), .lit (.int .u8 50), .lit (.int .u8 38), .lit (.int .u8 29), .lit (.int .u8 17), .lit (.int .u8 4), .lit (.int .u8 62), .lit (.int .u8 47), .lit (.int .u8 59), .lit (.int .u8 36), .lit (.int .u8 45), .lit (.int .u8 43), .lit (.int .u8 51), .lit (.int .u8 22), .lit (.int .u8 53), .lit (.int .u8 39), .lit (.int .u8 33), .lit (.int .u8 30), .lit (.int .u8 24), .lit (.int .u8 18), .lit (.int .u8 12), .lit (.int .u8 5), .lit (.int .u8 63), .lit (.int .u8 55), .lit (.int .u8 48), .lit (.int .u8 27), .lit (.int .u8 60), .lit (.int .u8 41), .lit (.int .u8 37), .lit (.int .u8 16), .lit (.int .u8 46), .lit (.int .u8 35), .lit (.int .u8 44), .lit (.int .u8 21), .lit (.int .u8 52), .lit (.int .u8 32), .lit (.int .u8 23), .lit (.int .u8 11), .lit (.int .u8 54), .lit (.int .u8 26), .lit (.int .u8 40), .lit (.int .u8 15), .lit (.int .u8 34), .lit (.int .u8 20), .lit (.int .u8 31), .lit (.int .u8 10), .lit (.int .u8 25), .lit (.int .u8 14), .lit (.int .u8 19), .lit (.int .u8 9), .lit (.int .u8 13), .lit (.int .u8 8), .lit (.int .u8 7), .lit (.int .u8 6)]
def laid_internal_strconv_uint64pow10 {H : Type} : DataW H := .agg [.lit (.int .u64 1), .lit (.int .u64 10), .lit (.int .u64 100), .lit (.int .u64 1000), .lit (.int .u64 10000), .lit (.int .u64 100000), .lit (.int .u64 1000000), .lit (.int .u64 10000000), .lit (.int .u64 100000000), .lit (.int .u64 1000000000), .lit (.int .u64 10000000000), .lit (.int .u64 100000000000), .lit (.int .u64 1000000000000), .lit (.int .u64 10000000000000), .lit (.int .u64 100000000000000), .lit (.int .u64 1000000000000000), .lit (.int .u64 10000000000000000), .lit (.int .u64 100000000000000000), .lit (.int .u64 1000000000000000000), .lit (.int .u64 10000000000000000000)]
def laid_quayside_crc_lower {H : Type} : DataW H := .agg [.lit (.int .u32 0), .lit (.int .u32 1996959894), .lit (.int .u32 3993919788), .lit (.int .u32 2567524794), .lit (.int .u32 124634137), .lit (.int .u32 1886057615), .lit (.int .u32 3915621685), .lit (.int .u32 2657392035), .lit (.int .u32 249268274), .lit (.int .u32 2044508324), .lit (.int .u32 3772115230), .lit (.int .u32 2547177864), .lit (.int .u32 162941995), .lit (.int .u32 2125561021), .lit (.int .u32 3887607047), .lit (.int .u32 2428444049)]
def laid_quayside_crc_upper {H : Type} : DataW H := .agg [.lit (.int .u32 0), .lit (.int .u32 498536548), .lit (.int .u32 997073096), .lit (.int .u32 651767980), .lit (.int .u32 1994146192), .lit (.int .u32 1802195444), .lit (.int .u32 1303535960), .lit (.int .u32 1342533948), .lit (.int .u32 3988292384), .lit (.int .u32 4027552580), .lit (.int .u32 3604390888), .lit (.int .u32 3412177804), .lit (.int .u32 2607071920), .lit (.int .u32 2262029012), .lit (.int .u32 2685067896), .lit (.int .u32 3183342108)]

/-- 'quaysidelaw22.SeglogRefuses': WHATEVER THE INPUT: true; the input reads as it did. -/
def seglogRefusesSpec : ChangeSpec := { name := "seglogRefuses", fn := fun _ => fun
  | [d1, d2, d3, d4] => { results := [.lit (.bool true)], args := [d1, d2, d3, d4] }
  | _ => none }
def seglogRefusesRow : OpenClaim := { program := "ytpbpjojdfcdbbaagreatdoor", sum := "01a669e50aebf5ea69c4655b47e348ec6313db5cc38b705b277db54ff002f44e", func := "quayside/quaysidelaw22.SeglogRefuses", spec := "seglogRefuses", inPlace := ["internal/bytealg.IndexByteString", "internal/bytealg.IndexString"], unfollowed := true, recurses := true, named := ["internal/strconv.uint64pow10", "math/bits.deBruijn32tab", "math/bits.deBruijn64tab", "quayside/crc.lower", "quayside/crc.upper", "internal/bytealg.MaxLen"], apart := false, laid := [("math/bits.deBruijn32tab", laid_math_bits_deBruijn32tab), ("math/bits.deBruijn64tab", laid_math_bits_deBruijn64tab), ("internal/strconv.uint64pow10", laid_internal_strconv_uint64pow10), ("quayside/crc.lower", laid_quayside_crc_lower), ("quayside/crc.upper", laid_quayside_crc_upper)] }
def SeglogRefusesSaid : Prop := seglogRefusesRow.holds Tryz.pinned (OpenSpec.ofChange seglogRefusesSpec)

/-- ITS FALSE NEIGHBOUR: 'it returns false'. Refute it at one input. -/
def seglogRefusesWrong : ChangeSpec := { name := "seglogRefuses", fn := fun _ => fun
  | [d1, d2, d3, d4] => { results := [.lit (.bool false)], args := [d1, d2, d3, d4] }
  | _ => none }
def SeglogRefusesWrongFalsely : Prop := seglogRefusesRow.holds Tryz.pinned (OpenSpec.ofChange seglogRefusesWrong)

/-- 'quaysidelaw22.SeglogPieces': WHATEVER THE INPUT: true; the input reads as it did. -/
def seglogPiecesSpec : ChangeSpec := { name := "seglogPieces", fn := fun _ => fun
  | [d1, d2, d3] => { results := [.lit (.bool true)], args := [d1, d2, d3] }
  | _ => none }
def seglogPiecesRow : OpenClaim := { program := "ytpbpjojdfcdbbaagreatdoor", sum := "01a669e50aebf5ea69c4655b47e348ec6313db5cc38b705b277db54ff002f44e", func := "quayside/quaysidelaw22.SeglogPieces", spec := "seglogPieces", inPlace := ["internal/bytealg.IndexByteString", "internal/bytealg.IndexString"], unfollowed := true, recurses := true, named := ["internal/strconv.uint64pow10", "math/bits.deBruijn32tab", "math/bits.deBruijn64tab", "quayside/crc.lower", "quayside/crc.upper", "internal/bytealg.MaxLen"], apart := false, laid := [("math/bits.deBruijn32tab", laid_math_bits_deBruijn32tab), ("math/bits.deBruijn64tab", laid_math_bits_deBruijn64tab), ("internal/strconv.uint64pow10", laid_internal_strconv_uint64pow10), ("quayside/crc.lower", laid_quayside_crc_lower), ("quayside/crc.upper", laid_quayside_crc_upper)] }
def SeglogPiecesSaid : Prop := seglogPiecesRow.holds Tryz.pinned (OpenSpec.ofChange seglogPiecesSpec)

/-- ITS FALSE NEIGHBOUR: 'it returns false'. Refute it at one input. -/
def seglogPiecesWrong : ChangeSpec := { name := "seglogPieces", fn := fun _ => fun
  | [d1, d2, d3] => { results := [.lit (.bool false)], args := [d1, d2, d3] }
  | _ => none }
def SeglogPiecesWrongFalsely : Prop := seglogPiecesRow.holds Tryz.pinned (OpenSpec.ofChange seglogPiecesWrong)

/-- 'quaysidelaw22.SeglogLasts': WHATEVER THE INPUT: true; the input reads as it did. -/
def seglogLastsSpec : ChangeSpec := { name := "seglogLasts", fn := fun _ => fun
  | [d1, d2, d3] => { results := [.lit (.bool true)], args := [d1, d2, d3] }
  | _ => none }
def seglogLastsRow : OpenClaim := { program := "ytpbpjojdfcdbbaagreatdoor", sum := "01a669e50aebf5ea69c4655b47e348ec6313db5cc38b705b277db54ff002f44e", func := "quayside/quaysidelaw22.SeglogLasts", spec := "seglogLasts", inPlace := ["internal/bytealg.IndexByteString", "internal/bytealg.IndexString"], unfollowed := true, recurses := true, named := ["internal/strconv.uint64pow10", "math/bits.deBruijn32tab", "math/bits.deBruijn64tab", "quayside/crc.lower", "quayside/crc.upper", "internal/bytealg.MaxLen"], apart := false, laid := [("math/bits.deBruijn32tab", laid_math_bits_deBruijn32tab), ("math/bits.deBruijn64tab", laid_math_bits_deBruijn64tab), ("internal/strconv.uint64pow10", laid_internal_strconv_uint64pow10), ("quayside/crc.lower", laid_quayside_crc_lower), ("quayside/crc.upper", laid_quayside_crc_upper)] }
def SeglogLastsSaid : Prop := seglogLastsRow.holds Tryz.pinned (OpenSpec.ofChange seglogLastsSpec)

/-- ITS FALSE NEIGHBOUR: 'it returns false'. Refute it at one input. -/
def seglogLastsWrong : ChangeSpec := { name := "seglogLasts", fn := fun _ => fun
  | [d1, d2, d3] => { results := [.lit (.bool false)], args := [d1, d2, d3] }
  | _ => none }
def SeglogLastsWrongFalsely : Prop := seglogLastsRow.holds Tryz.pinned (OpenSpec.ofChange seglogLastsWrong)

/-- 'quaysidelaw22.SeglogSegments': WHATEVER THE INPUT: true; the input reads as it did. -/
def seglogSegmentsSpec : ChangeSpec := { name := "seglogSegments", fn := fun _ => fun
  | [d1, d2, d3] => { results := [.lit (.bool true)], args := [d1, d2, d3] }
  | _ => none }
def seglogSegmentsRow : OpenClaim := { program := "ytpbpjojdfcdbbaagreatdoor", sum := "01a669e50aebf5ea69c4655b47e348ec6313db5cc38b705b277db54ff002f44e", func := "quayside/quaysidelaw22.SeglogSegments", spec := "seglogSegments", inPlace := ["internal/bytealg.IndexByteString", "internal/bytealg.IndexString"], unfollowed := true, recurses := true, named := ["internal/strconv.uint64pow10", "math/bits.deBruijn32tab", "math/bits.deBruijn64tab", "quayside/crc.lower", "quayside/crc.upper", "internal/bytealg.MaxLen"], apart := false, laid := [("math/bits.deBruijn32tab", laid_math_bits_deBruijn32tab), ("math/bits.deBruijn64tab", laid_math_bits_deBruijn64tab), ("internal/strconv.uint64pow10", laid_internal_strconv_uint64pow10), ("quayside/crc.lower", laid_quayside_crc_lower), ("quayside/crc.upper", laid_quayside_crc_upper)] }
def SeglogSegmentsSaid : Prop := seglogSegmentsRow.holds Tryz.pinned (OpenSpec.ofChange seglogSegmentsSpec)

/-- ITS FALSE NEIGHBOUR: 'it returns false'. Refute it at one input. -/
def seglogSegmentsWrong : ChangeSpec := { name := "seglogSegments", fn := fun _ => fun
  | [d1, d2, d3] => { results := [.lit (.bool false)], args := [d1, d2, d3] }
  | _ => none }
def SeglogSegmentsWrongFalsely : Prop := seglogSegmentsRow.holds Tryz.pinned (OpenSpec.ofChange seglogSegmentsWrong)

/-- 'quaysidelaw22.SeglogKnown': WHATEVER THE INPUT: true; the input reads as it did. -/
def seglogKnownSpec : ChangeSpec := { name := "seglogKnown", fn := fun _ => fun
  | [] => { results := [.lit (.bool true)], args := [] }
  | _ => none }
def seglogKnownRow : OpenClaim := { program := "ytpbpjojdfcdbbaagreatdoor", sum := "01a669e50aebf5ea69c4655b47e348ec6313db5cc38b705b277db54ff002f44e", func := "quayside/quaysidelaw22.SeglogKnown", spec := "seglogKnown", inPlace := ["internal/bytealg.IndexByteString", "internal/bytealg.IndexString"], unfollowed := true, recurses := true, named := ["internal/strconv.uint64pow10", "math/bits.deBruijn32tab", "math/bits.deBruijn64tab", "quayside/crc.lower", "quayside/crc.upper", "internal/bytealg.MaxLen"], apart := false, laid := [("math/bits.deBruijn32tab", laid_math_bits_deBruijn32tab), ("math/bits.deBruijn64tab", laid_math_bits_deBruijn64tab), ("internal/strconv.uint64pow10", laid_internal_strconv_uint64pow10), ("quayside/crc.lower", laid_quayside_crc_lower), ("quayside/crc.upper", laid_quayside_crc_upper)] }
def SeglogKnownSaid : Prop := seglogKnownRow.holds Tryz.pinned (OpenSpec.ofChange seglogKnownSpec)

/-- ITS FALSE NEIGHBOUR: 'it returns false'. Refute it at one input. -/
def seglogKnownWrong : ChangeSpec := { name := "seglogKnown", fn := fun _ => fun
  | [] => { results := [.lit (.bool false)], args := [] }
  | _ => none }
def SeglogKnownWrongFalsely : Prop := seglogKnownRow.holds Tryz.pinned (OpenSpec.ofChange seglogKnownWrong)

/-- 'quaysidelaw23.CompactTwice': WHATEVER THE INPUT: true; the input reads as it did. -/
def compactTwiceSpec : ChangeSpec := { name := "compactTwice", fn := fun _ => fun
  | [d1, d2, d3] => { results := [.lit (.bool true)], args := [d1, d2, d3] }
  | _ => none }
def compactTwiceRow : OpenClaim := { program := "ytpbpjojdfcdbbaagreatdoor", sum := "01a669e50aebf5ea69c4655b47e348ec6313db5cc38b705b277db54ff002f44e", func := "quayside/quaysidelaw23.CompactTwice", spec := "compactTwice", inPlace := ["internal/bytealg.IndexByteString", "internal/bytealg.IndexString"], unfollowed := true, recurses := true, named := ["internal/strconv.uint64pow10", "math/bits.deBruijn32tab", "math/bits.deBruijn64tab", "quayside/crc.lower", "quayside/crc.upper", "internal/bytealg.MaxLen"], apart := false, laid := [("math/bits.deBruijn32tab", laid_math_bits_deBruijn32tab), ("math/bits.deBruijn64tab", laid_math_bits_deBruijn64tab), ("internal/strconv.uint64pow10", laid_internal_strconv_uint64pow10), ("quayside/crc.lower", laid_quayside_crc_lower), ("quayside/crc.upper", laid_quayside_crc_upper)] }
def CompactTwiceSaid : Prop := compactTwiceRow.holds Tryz.pinned (OpenSpec.ofChange compactTwiceSpec)

/-- ITS FALSE NEIGHBOUR: 'it returns false'. Refute it at one input. -/
def compactTwiceWrong : ChangeSpec := { name := "compactTwice", fn := fun _ => fun
  | [d1, d2, d3] => { results := [.lit (.bool false)], args := [d1, d2, d3] }
  | _ => none }
def CompactTwiceWrongFalsely : Prop := compactTwiceRow.holds Tryz.pinned (OpenSpec.ofChange compactTwiceWrong)

/-- 'quaysidelaw23.CompactWhole': WHATEVER THE INPUT: true; the input reads as it did. -/
def compactWholeSpec : ChangeSpec := { name := "compactWhole", fn := fun _ => fun
  | [d1, d2, d3, d4, d5, d6] => { results := [.lit (.bool true)], args := [d1, d2, d3, d4, d5, d6] }
  | _ => none }
def compactWholeRow : OpenClaim := { program := "ytpbpjojdfcdbbaagreatdoor", sum := "01a669e50aebf5ea69c4655b47e348ec6313db5cc38b705b277db54ff002f44e", func := "quayside/quaysidelaw23.CompactWhole", spec := "compactWhole", inPlace := ["internal/bytealg.IndexByteString", "internal/bytealg.IndexString"], unfollowed := true, recurses := true, named := ["internal/strconv.uint64pow10", "math/bits.deBruijn32tab", "math/bits.deBruijn64tab", "quayside/crc.lower", "quayside/crc.upper", "internal/bytealg.MaxLen"], apart := false, laid := [("math/bits.deBruijn32tab", laid_math_bits_deBruijn32tab), ("math/bits.deBruijn64tab", laid_math_bits_deBruijn64tab), ("internal/strconv.uint64pow10", laid_internal_strconv_uint64pow10), ("quayside/crc.lower", laid_quayside_crc_lower), ("quayside/crc.upper", laid_quayside_crc_upper)] }
def CompactWholeSaid : Prop := compactWholeRow.holds Tryz.pinned (OpenSpec.ofChange compactWholeSpec)

/-- ITS FALSE NEIGHBOUR: 'it returns false'. Refute it at one input. -/
def compactWholeWrong : ChangeSpec := { name := "compactWhole", fn := fun _ => fun
  | [d1, d2, d3, d4, d5, d6] => { results := [.lit (.bool false)], args := [d1, d2, d3, d4, d5, d6] }
  | _ => none }
def CompactWholeWrongFalsely : Prop := compactWholeRow.holds Tryz.pinned (OpenSpec.ofChange compactWholeWrong)

/-- 'quaysidelaw23.CompactClean': WHATEVER THE INPUT: true; the input reads as it did. -/
def compactCleanSpec : ChangeSpec := { name := "compactClean", fn := fun _ => fun
  | [d1, d2, d3] => { results := [.lit (.bool true)], args := [d1, d2, d3] }
  | _ => none }
def compactCleanRow : OpenClaim := { program := "ytpbpjojdfcdbbaagreatdoor", sum := "01a669e50aebf5ea69c4655b47e348ec6313db5cc38b705b277db54ff002f44e", func := "quayside/quaysidelaw23.CompactClean", spec := "compactClean", inPlace := ["internal/bytealg.IndexByteString", "internal/bytealg.IndexString"], unfollowed := true, recurses := true, named := ["internal/strconv.uint64pow10", "math/bits.deBruijn32tab", "math/bits.deBruijn64tab", "quayside/crc.lower", "quayside/crc.upper", "internal/bytealg.MaxLen"], apart := false, laid := [("math/bits.deBruijn32tab", laid_math_bits_deBruijn32tab), ("math/bits.deBruijn64tab", laid_math_bits_deBruijn64tab), ("internal/strconv.uint64pow10", laid_internal_strconv_uint64pow10), ("quayside/crc.lower", laid_quayside_crc_lower), ("quayside/crc.upper", laid_quayside_crc_upper)] }
def CompactCleanSaid : Prop := compactCleanRow.holds Tryz.pinned (OpenSpec.ofChange compactCleanSpec)

/-- ITS FALSE NEIGHBOUR: 'it returns false'. Refute it at one input. -/
def compactCleanWrong : ChangeSpec := { name := "compactClean", fn := fun _ => fun
  | [d1, d2, d3] => { results := [.lit (.bool false)], args := [d1, d2, d3] }
  | _ => none }
def CompactCleanWrongFalsely : Prop := compactCleanRow.holds Tryz.pinned (OpenSpec.ofChange compactCleanWrong)

/- THE SECOND FORM. 'bulk': how many values and letters a reading holds, each counted each time it is reached (what is shared counts as often as it is met; a slice's spare places count too). A statement '..UptoSaid' is the law's where the arguments, and the package variables that the reading takes, are together of bulk at most 1048576: NARROWER than '..Said'. Prove '..Said' where nothing that the law and all that it calls make is longer than what came in: it says more and counts as full. Else prove '..UptoSaid'. A law counts once. -/
mutual
def uptoBulk {H : Type} : DataW H → Nat
  | .lit (.string bytes) => bytes.length + 1
  | .lit _ => 1
  | .nil => 1
  | .ptr d => uptoBulk d + 1
  | .slice elems spare => uptoBulkAll elems + uptoBulkAll spare + 1
  | .agg parts => uptoBulkAll parts + 1
  | .iface _ d => uptoBulk d + 1
  | .map entries => uptoBulkEntries entries + 1
  | .held _ => 1
def uptoBulkAll {H : Type} : List (DataW H) → Nat
  | [] => 0
  | d :: r => uptoBulk d + uptoBulkAll r
def uptoBulkEntries {H : Type} : List (Lit × DataW H) → Nat
  | [] => 0
  | x :: r => uptoBulkEntry x + uptoBulkEntries r
def uptoBulkEntry {H : Type} : Lit × DataW H → Nat
  | (.string bytes, d) => bytes.length + uptoBulk d + 1
  | (_, d) => uptoBulk d + 1
 end
def uptoSmall : (H : Type) → List (DataW H) → Bool := fun _ ds => decide (uptoBulkAll ds ≤ 1048576)
def OpenSpec.upto (s : _root_.Go.ChangeSpec) : _root_.Go.OpenSpec := { _root_.Go.OpenSpec.ofChange s with cond := some uptoSmall }

/-- 'quaysidelaw22.SeglogRefuses', WHERE WHAT IT READS IS OF BULK AT MOST 1048576: true; the input reads as it did. -/
def seglogRefusesUptoRow : OpenClaim := { program := "ytpbpjojdfcdbbaagreatdoor", sum := "01a669e50aebf5ea69c4655b47e348ec6313db5cc38b705b277db54ff002f44e", func := "quayside/quaysidelaw22.SeglogRefuses", spec := "seglogRefuses", inPlace := ["internal/bytealg.IndexByteString", "internal/bytealg.IndexString"], unfollowed := true, recurses := true, named := ["internal/strconv.uint64pow10", "math/bits.deBruijn32tab", "math/bits.deBruijn64tab", "quayside/crc.lower", "quayside/crc.upper", "internal/bytealg.MaxLen"], apart := false, laid := [("math/bits.deBruijn32tab", laid_math_bits_deBruijn32tab), ("math/bits.deBruijn64tab", laid_math_bits_deBruijn64tab), ("internal/strconv.uint64pow10", laid_internal_strconv_uint64pow10), ("quayside/crc.lower", laid_quayside_crc_lower), ("quayside/crc.upper", laid_quayside_crc_upper)], narrowed := true }
def SeglogRefusesUptoSaid : Prop := seglogRefusesUptoRow.holds Tryz.pinned (OpenSpec.upto seglogRefusesSpec)

/-- 'quaysidelaw22.SeglogPieces', WHERE WHAT IT READS IS OF BULK AT MOST 1048576: true; the input reads as it did. -/
def seglogPiecesUptoRow : OpenClaim := { program := "ytpbpjojdfcdbbaagreatdoor", sum := "01a669e50aebf5ea69c4655b47e348ec6313db5cc38b705b277db54ff002f44e", func := "quayside/quaysidelaw22.SeglogPieces", spec := "seglogPieces", inPlace := ["internal/bytealg.IndexByteString", "internal/bytealg.IndexString"], unfollowed := true, recurses := true, named := ["internal/strconv.uint64pow10", "math/bits.deBruijn32tab", "math/bits.deBruijn64tab", "quayside/crc.lower", "quayside/crc.upper", "internal/bytealg.MaxLen"], apart := false, laid := [("math/bits.deBruijn32tab", laid_math_bits_deBruijn32tab), ("math/bits.deBruijn64tab", laid_math_bits_deBruijn64tab), ("internal/strconv.uint64pow10", laid_internal_strconv_uint64pow10), ("quayside/crc.lower", laid_quayside_crc_lower), ("quayside/crc.upper", laid_quayside_crc_upper)], narrowed := true }
def SeglogPiecesUptoSaid : Prop := seglogPiecesUptoRow.holds Tryz.pinned (OpenSpec.upto seglogPiecesSpec)

/-- 'quaysidelaw22.SeglogLasts', WHERE WHAT IT READS IS OF BULK AT MOST 1048576: true; the input reads as it did. -/
def seglogLastsUptoRow : OpenClaim := { program := "ytpbpjojdfcdbbaagreatdoor", sum := "01a669e50aebf5ea69c4655b47e348ec6313db5cc38b705b277db54ff002f44e", func := "quayside/quaysidelaw22.SeglogLasts", spec := "seglogLasts", inPlace := ["internal/bytealg.IndexByteString", "internal/bytealg.IndexString"], unfollowed := true, recurses := true, named := ["internal/strconv.uint64pow10", "math/bits.deBruijn32tab", "math/bits.deBruijn64tab", "quayside/crc.lower", "quayside/crc.upper", "internal/bytealg.MaxLen"], apart := false, laid := [("math/bits.deBruijn32tab", laid_math_bits_deBruijn32tab), ("math/bits.deBruijn64tab", laid_math_bits_deBruijn64tab), ("internal/strconv.uint64pow10", laid_internal_strconv_uint64pow10), ("quayside/crc.lower", laid_quayside_crc_lower), ("quayside/crc.upper", laid_quayside_crc_upper)], narrowed := true }
def SeglogLastsUptoSaid : Prop := seglogLastsUptoRow.holds Tryz.pinned (OpenSpec.upto seglogLastsSpec)

/-- 'quaysidelaw22.SeglogSegments', WHERE WHAT IT READS IS OF BULK AT MOST 1048576: true; the input reads as it did. -/
def seglogSegmentsUptoRow : OpenClaim := { program := "ytpbpjojdfcdbbaagreatdoor", sum := "01a669e50aebf5ea69c4655b47e348ec6313db5cc38b705b277db54ff002f44e", func := "quayside/quaysidelaw22.SeglogSegments", spec := "seglogSegments", inPlace := ["internal/bytealg.IndexByteString", "internal/bytealg.IndexString"], unfollowed := true, recurses := true, named := ["internal/strconv.uint64pow10", "math/bits.deBruijn32tab", "math/bits.deBruijn64tab", "quayside/crc.lower", "quayside/crc.upper", "internal/bytealg.MaxLen"], apart := false, laid := [("math/bits.deBruijn32tab", laid_math_bits_deBruijn32tab), ("math/bits.deBruijn64tab", laid_math_bits_deBruijn64tab), ("internal/strconv.uint64pow10", laid_internal_strconv_uint64pow10), ("quayside/crc.lower", laid_quayside_crc_lower), ("quayside/crc.upper", laid_quayside_crc_upper)], narrowed := true }
def SeglogSegmentsUptoSaid : Prop := seglogSegmentsUptoRow.holds Tryz.pinned (OpenSpec.upto seglogSegmentsSpec)

/-- 'quaysidelaw22.SeglogKnown', WHERE WHAT IT READS IS OF BULK AT MOST 1048576: true; the input reads as it did. -/
def seglogKnownUptoRow : OpenClaim := { program := "ytpbpjojdfcdbbaagreatdoor", sum := "01a669e50aebf5ea69c4655b47e348ec6313db5cc38b705b277db54ff002f44e", func := "quayside/quaysidelaw22.SeglogKnown", spec := "seglogKnown", inPlace := ["internal/bytealg.IndexByteString", "internal/bytealg.IndexString"], unfollowed := true, recurses := true, named := ["internal/strconv.uint64pow10", "math/bits.deBruijn32tab", "math/bits.deBruijn64tab", "quayside/crc.lower", "quayside/crc.upper", "internal/bytealg.MaxLen"], apart := false, laid := [("math/bits.deBruijn32tab", laid_math_bits_deBruijn32tab), ("math/bits.deBruijn64tab", laid_math_bits_deBruijn64tab), ("internal/strconv.uint64pow10", laid_internal_strconv_uint64pow10), ("quayside/crc.lower", laid_quayside_crc_lower), ("quayside/crc.upper", laid_quayside_crc_upper)], narrowed := true }
def SeglogKnownUptoSaid : Prop := seglogKnownUptoRow.holds Tryz.pinned (OpenSpec.upto seglogKnownSpec)

/-- 'quaysidelaw23.CompactTwice', WHERE WHAT IT READS IS OF BULK AT MOST 1048576: true; the input reads as it did. -/
def compactTwiceUptoRow : OpenClaim := { program := "ytpbpjojdfcdbbaagreatdoor", sum := "01a669e50aebf5ea69c4655b47e348ec6313db5cc38b705b277db54ff002f44e", func := "quayside/quaysidelaw23.CompactTwice", spec := "compactTwice", inPlace := ["internal/bytealg.IndexByteString", "internal/bytealg.IndexString"], unfollowed := true, recurses := true, named := ["internal/strconv.uint64pow10", "math/bits.deBruijn32tab", "math/bits.deBruijn64tab", "quayside/crc.lower", "quayside/crc.upper", "internal/bytealg.MaxLen"], apart := false, laid := [("math/bits.deBruijn32tab", laid_math_bits_deBruijn32tab), ("math/bits.deBruijn64tab", laid_math_bits_deBruijn64tab), ("internal/strconv.uint64pow10", laid_internal_strconv_uint64pow10), ("quayside/crc.lower", laid_quayside_crc_lower), ("quayside/crc.upper", laid_quayside_crc_upper)], narrowed := true }
def CompactTwiceUptoSaid : Prop := compactTwiceUptoRow.holds Tryz.pinned (OpenSpec.upto compactTwiceSpec)

/-- 'quaysidelaw23.CompactWhole', WHERE WHAT IT READS IS OF BULK AT MOST 1048576: true; the input reads as it did. -/
def compactWholeUptoRow : OpenClaim := { program := "ytpbpjojdfcdbbaagreatdoor", sum := "01a669e50aebf5ea69c4655b47e348ec6313db5cc38b705b277db54ff002f44e", func := "quayside/quaysidelaw23.CompactWhole", spec := "compactWhole", inPlace := ["internal/bytealg.IndexByteString", "internal/bytealg.IndexString"], unfollowed := true, recurses := true, named := ["internal/strconv.uint64pow10", "math/bits.deBruijn32tab", "math/bits.deBruijn64tab", "quayside/crc.lower", "quayside/crc.upper", "internal/bytealg.MaxLen"], apart := false, laid := [("math/bits.deBruijn32tab", laid_math_bits_deBruijn32tab), ("math/bits.deBruijn64tab", laid_math_bits_deBruijn64tab), ("internal/strconv.uint64pow10", laid_internal_strconv_uint64pow10), ("quayside/crc.lower", laid_quayside_crc_lower), ("quayside/crc.upper", laid_quayside_crc_upper)], narrowed := true }
def CompactWholeUptoSaid : Prop := compactWholeUptoRow.holds Tryz.pinned (OpenSpec.upto compactWholeSpec)

/-- 'quaysidelaw23.CompactClean', WHERE WHAT IT READS IS OF BULK AT MOST 1048576: true; the input reads as it did. -/
def compactCleanUptoRow : OpenClaim := { program := "ytpbpjojdfcdbbaagreatdoor", sum := "01a669e50aebf5ea69c4655b47e348ec6313db5cc38b705b277db54ff002f44e", func := "quayside/quaysidelaw23.CompactClean", spec := "compactClean", inPlace := ["internal/bytealg.IndexByteString", "internal/bytealg.IndexString"], unfollowed := true, recurses := true, named := ["internal/strconv.uint64pow10", "math/bits.deBruijn32tab", "math/bits.deBruijn64tab", "quayside/crc.lower", "quayside/crc.upper", "internal/bytealg.MaxLen"], apart := false, laid := [("math/bits.deBruijn32tab", laid_math_bits_deBruijn32tab), ("math/bits.deBruijn64tab", laid_math_bits_deBruijn64tab), ("internal/strconv.uint64pow10", laid_internal_strconv_uint64pow10), ("quayside/crc.lower", laid_quayside_crc_lower), ("quayside/crc.upper", laid_quayside_crc_upper)], narrowed := true }
def CompactCleanUptoSaid : Prop := compactCleanUptoRow.holds Tryz.pinned (OpenSpec.upto compactCleanSpec)

end Rows
end Go.Proofs.YtpbpjojdfcdbbaaGreatDoor

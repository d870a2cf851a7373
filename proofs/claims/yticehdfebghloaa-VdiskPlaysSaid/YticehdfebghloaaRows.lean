/-
  No cell of these rows narrows 'for every input' (looked for: loops, veiled, ifaces, maps, wideKeys, modest, calm, conditions, laid).
  DERIVED. THE GIVEN ROWS OF THIS SEAT. 6 by the template 'for every input the law returns true; each argument reads behind the call as it read before'; 0 by the template 'total and deterministic' (their statements: YticehdfebghloaaTotals.lean).
  GIVEN WITH THE SEED: the statements are not yours to turn. If you find one false, say at which input.
  Laid BY PROGRAM, IN A SANDBOX (cutbox-rows.mjs): the forced cells as the released guide's own fill.sh prints them over the translation 206351ebb41d9531… (all of the seat's roots in one cut). By AI agents, Wed Nov 11 2026. No macro, syntax, notation, axiom, sorry.
-/
import Derived.Test.YticehdfebghloaaChecked
import GoSem.Claim
import GoSem.ClaimJoined
import GoSem.ClaimMapViews
import Derived.JoinedTies
import Derived.KernelRfl
namespace Go.Proofs.Yticehdfebghloaa
/- THE CELL 'sum', in the pinned program and in every row, IS THE sha256 OF THE DUMP (.gsa) THAT YticehdfebghloaaProg.lean LOADS. Nothing in Lean hashes anything: it is a label: what it is worth is what the hold of that sum in a sandbox is worth. -/
noncomputable def Try.pinned : Pinned := { name := "yticehdfebghloaa", sum := "206351ebb41d95319106f004d9ed928139ff8af1276b50ec157ee7d319ae376b", checked := Try.checked }
namespace Rows
def none {H : Type} : Left H := { results := [], args := [] }

/-- 'quaysidelaw19.VdiskPlays': WHATEVER THE INPUT: true; the input reads as it did. -/
def vdiskPlaysSpec : ChangeSpec := { name := "vdiskPlays", fn := fun _ => fun
  | [d1, d2] => { results := [.lit (.bool true)], args := [d1, d2] }
  | _ => none }
def vdiskPlaysRow : OpenClaim := { program := "yticehdfebghloaa", sum := "206351ebb41d95319106f004d9ed928139ff8af1276b50ec157ee7d319ae376b", func := "quayside/quaysidelaw19.VdiskPlays", spec := "vdiskPlays", inPlace := ["internal/bytealg.IndexByteString", "internal/bytealg.IndexString"], unfollowed := true, recurses := true, named := ["internal/bytealg.MaxLen"], apart := false }
def VdiskPlaysSaid : Prop := vdiskPlaysRow.holds Try.pinned (OpenSpec.ofChange vdiskPlaysSpec)

/-- ITS FALSE NEIGHBOUR: 'it returns false'. Refute it at one input. -/
def vdiskPlaysWrong : ChangeSpec := { name := "vdiskPlays", fn := fun _ => fun
  | [d1, d2] => { results := [.lit (.bool false)], args := [d1, d2] }
  | _ => none }
def VdiskPlaysWrongFalsely : Prop := vdiskPlaysRow.holds Try.pinned (OpenSpec.ofChange vdiskPlaysWrong)

/-- 'quaysidelaw19.VdiskBegins': WHATEVER THE INPUT: true; the input reads as it did. -/
def vdiskBeginsSpec : ChangeSpec := { name := "vdiskBegins", fn := fun _ => fun
  | [d1, d2] => { results := [.lit (.bool true)], args := [d1, d2] }
  | _ => none }
def vdiskBeginsRow : OpenClaim := { program := "yticehdfebghloaa", sum := "206351ebb41d95319106f004d9ed928139ff8af1276b50ec157ee7d319ae376b", func := "quayside/quaysidelaw19.VdiskBegins", spec := "vdiskBegins", inPlace := ["internal/bytealg.IndexByteString", "internal/bytealg.IndexString"], unfollowed := true, recurses := true, named := ["internal/bytealg.MaxLen"], apart := false }
def VdiskBeginsSaid : Prop := vdiskBeginsRow.holds Try.pinned (OpenSpec.ofChange vdiskBeginsSpec)

/-- ITS FALSE NEIGHBOUR: 'it returns false'. Refute it at one input. -/
def vdiskBeginsWrong : ChangeSpec := { name := "vdiskBegins", fn := fun _ => fun
  | [d1, d2] => { results := [.lit (.bool false)], args := [d1, d2] }
  | _ => none }
def VdiskBeginsWrongFalsely : Prop := vdiskBeginsRow.holds Try.pinned (OpenSpec.ofChange vdiskBeginsWrong)

/-- 'quaysidelaw19.VdiskFuse': WHATEVER THE INPUT: true; the input reads as it did. -/
def vdiskFuseSpec : ChangeSpec := { name := "vdiskFuse", fn := fun _ => fun
  | [d1, d2] => { results := [.lit (.bool true)], args := [d1, d2] }
  | _ => none }
def vdiskFuseRow : OpenClaim := { program := "yticehdfebghloaa", sum := "206351ebb41d95319106f004d9ed928139ff8af1276b50ec157ee7d319ae376b", func := "quayside/quaysidelaw19.VdiskFuse", spec := "vdiskFuse", inPlace := ["internal/bytealg.IndexByteString", "internal/bytealg.IndexString"], unfollowed := true, recurses := true, named := ["internal/bytealg.MaxLen"], apart := false }
def VdiskFuseSaid : Prop := vdiskFuseRow.holds Try.pinned (OpenSpec.ofChange vdiskFuseSpec)

/-- ITS FALSE NEIGHBOUR: 'it returns false'. Refute it at one input. -/
def vdiskFuseWrong : ChangeSpec := { name := "vdiskFuse", fn := fun _ => fun
  | [d1, d2] => { results := [.lit (.bool false)], args := [d1, d2] }
  | _ => none }
def VdiskFuseWrongFalsely : Prop := vdiskFuseRow.holds Try.pinned (OpenSpec.ofChange vdiskFuseWrong)

/-- 'quaysidelaw19.VdiskRoom': WHATEVER THE INPUT: true; the input reads as it did. -/
def vdiskRoomSpec : ChangeSpec := { name := "vdiskRoom", fn := fun _ => fun
  | [d1, d2] => { results := [.lit (.bool true)], args := [d1, d2] }
  | _ => none }
def vdiskRoomRow : OpenClaim := { program := "yticehdfebghloaa", sum := "206351ebb41d95319106f004d9ed928139ff8af1276b50ec157ee7d319ae376b", func := "quayside/quaysidelaw19.VdiskRoom", spec := "vdiskRoom", inPlace := ["internal/bytealg.IndexByteString", "internal/bytealg.IndexString"], unfollowed := true, recurses := true, named := ["internal/bytealg.MaxLen"], apart := false }
def VdiskRoomSaid : Prop := vdiskRoomRow.holds Try.pinned (OpenSpec.ofChange vdiskRoomSpec)

/-- ITS FALSE NEIGHBOUR: 'it returns false'. Refute it at one input. -/
def vdiskRoomWrong : ChangeSpec := { name := "vdiskRoom", fn := fun _ => fun
  | [d1, d2] => { results := [.lit (.bool false)], args := [d1, d2] }
  | _ => none }
def VdiskRoomWrongFalsely : Prop := vdiskRoomRow.holds Try.pinned (OpenSpec.ofChange vdiskRoomWrong)

/-- 'quaysidelaw19.VdiskKnown': WHATEVER THE INPUT: true; the input reads as it did. -/
def vdiskKnownSpec : ChangeSpec := { name := "vdiskKnown", fn := fun _ => fun
  | [] => { results := [.lit (.bool true)], args := [] }
  | _ => none }
def vdiskKnownRow : OpenClaim := { program := "yticehdfebghloaa", sum := "206351ebb41d95319106f004d9ed928139ff8af1276b50ec157ee7d319ae376b", func := "quayside/quaysidelaw19.VdiskKnown", spec := "vdiskKnown", inPlace := ["internal/bytealg.IndexByteString", "internal/bytealg.IndexString"], unfollowed := true, recurses := true, named := ["internal/bytealg.MaxLen"], apart := false }
def VdiskKnownSaid : Prop := vdiskKnownRow.holds Try.pinned (OpenSpec.ofChange vdiskKnownSpec)

/-- ITS FALSE NEIGHBOUR: 'it returns false'. Refute it at one input. -/
def vdiskKnownWrong : ChangeSpec := { name := "vdiskKnown", fn := fun _ => fun
  | [] => { results := [.lit (.bool false)], args := [] }
  | _ => none }
def VdiskKnownWrongFalsely : Prop := vdiskKnownRow.holds Try.pinned (OpenSpec.ofChange vdiskKnownWrong)

/-- 'quaysidelaw19.VdiskApart': WHATEVER THE INPUT: true; the input reads as it did. -/
def vdiskApartSpec : ChangeSpec := { name := "vdiskApart", fn := fun _ => fun
  | [d1, d2, d3] => { results := [.lit (.bool true)], args := [d1, d2, d3] }
  | _ => none }
def vdiskApartRow : OpenClaim := { program := "yticehdfebghloaa", sum := "206351ebb41d95319106f004d9ed928139ff8af1276b50ec157ee7d319ae376b", func := "quayside/quaysidelaw19.VdiskApart", spec := "vdiskApart", inPlace := ["internal/bytealg.IndexByteString", "internal/bytealg.IndexString"], unfollowed := true, recurses := true, named := ["internal/bytealg.MaxLen"], apart := false }
def VdiskApartSaid : Prop := vdiskApartRow.holds Try.pinned (OpenSpec.ofChange vdiskApartSpec)

/-- ITS FALSE NEIGHBOUR: 'it returns false'. Refute it at one input. -/
def vdiskApartWrong : ChangeSpec := { name := "vdiskApart", fn := fun _ => fun
  | [d1, d2, d3] => { results := [.lit (.bool false)], args := [d1, d2, d3] }
  | _ => none }
def VdiskApartWrongFalsely : Prop := vdiskApartRow.holds Try.pinned (OpenSpec.ofChange vdiskApartWrong)

/- THE SECOND FORM. 'bulk': how many values and letters a reading holds, each counted each time it is reached (what is shared counts as often as it is met; a slice's spare places count too). A statement '..UptoSaid' is the law's where the arguments, and the package variables that the reading takes, are together of bulk at most 1048576: NARROWER than '..Said'. Prove '..Said' where nothing that the law and all that it calls make is longer than what came in: it says more and counts as full. Else prove '..UptoSaid'. A law counts once. -/
mutual
def uptoBulk {H : Type} : DataW H → Nat
  | .lit (.string bytes) => bytes.length + 1
  | .lit _ => 1
  | .nil => 1
  | .ptr d => uptoBulk d + 1
  | .slice elems spare => uptoBulkAll elems + uptoBulkAll spare + 1
  | .agg parts => uptoBulkAll parts + 1
  | .iface _ d => uptoBulk d + 1
  | .map entries => uptoBulkEntries entries + 1
  | .held _ => 1
def uptoBulkAll {H : Type} : List (DataW H) → Nat
  | [] => 0
  | d :: r => uptoBulk d + uptoBulkAll r
def uptoBulkEntries {H : Type} : List (Lit × DataW H) → Nat
  | [] => 0
  | x :: r => uptoBulkEntry x + uptoBulkEntries r
def uptoBulkEntry {H : Type} : Lit × DataW H → Nat
  | (.string bytes, d) => bytes.length + uptoBulk d + 1
  | (_, d) => uptoBulk d + 1
 end
def uptoSmall : (H : Type) → List (DataW H) → Bool := fun _ ds => decide (uptoBulkAll ds ≤ 1048576)
def OpenSpec.upto (s : _root_.Go.ChangeSpec) : _root_.Go.OpenSpec := { _root_.Go.OpenSpec.ofChange s with cond := some uptoSmall }

/-- 'quaysidelaw19.VdiskPlays', WHERE WHAT IT READS IS OF BULK AT MOST 1048576: true; the input reads as it did. -/
def vdiskPlaysUptoRow : OpenClaim := { program := "yticehdfebghloaa", sum := "206351ebb41d95319106f004d9ed928139ff8af1276b50ec157ee7d319ae376b", func := "quayside/quaysidelaw19.VdiskPlays", spec := "vdiskPlays", inPlace := ["internal/bytealg.IndexByteString", "internal/bytealg.IndexString"], unfollowed := true, recurses := true, named := ["internal/bytealg.MaxLen"], apart := false, narrowed := true }
def VdiskPlaysUptoSaid : Prop := vdiskPlaysUptoRow.holds Try.pinned (OpenSpec.upto vdiskPlaysSpec)

/-- 'quaysidelaw19.VdiskBegins', WHERE WHAT IT READS IS OF BULK AT MOST 1048576: true; the input reads as it did. -/
def vdiskBeginsUptoRow : OpenClaim := { program := "yticehdfebghloaa", sum := "206351ebb41d95319106f004d9ed928139ff8af1276b50ec157ee7d319ae376b", func := "quayside/quaysidelaw19.VdiskBegins", spec := "vdiskBegins", inPlace := ["internal/bytealg.IndexByteString", "internal/bytealg.IndexString"], unfollowed := true, recurses := true, named := ["internal/bytealg.MaxLen"], apart := false, narrowed := true }
def VdiskBeginsUptoSaid : Prop := vdiskBeginsUptoRow.holds Try.pinned (OpenSpec.upto vdiskBeginsSpec)

/-- 'quaysidelaw19.VdiskFuse', WHERE WHAT IT READS IS OF BULK AT MOST 1048576: true; the input reads as it did. -/
def vdiskFuseUptoRow : OpenClaim := { program := "yticehdfebghloaa", sum := "206351ebb41d95319106f004d9ed928139ff8af1276b50ec157ee7d319ae376b", func := "quayside/quaysidelaw19.VdiskFuse", spec := "vdiskFuse", inPlace := ["internal/bytealg.IndexByteString", "internal/bytealg.IndexString"], unfollowed := true, recurses := true, named := ["internal/bytealg.MaxLen"], apart := false, narrowed := true }
def VdiskFuseUptoSaid : Prop := vdiskFuseUptoRow.holds Try.pinned (OpenSpec.upto vdiskFuseSpec)

/-- 'quaysidelaw19.VdiskRoom', WHERE WHAT IT READS IS OF BULK AT MOST 1048576: true; the input reads as it did. -/
def vdiskRoomUptoRow : OpenClaim := { program := "yticehdfebghloaa", sum := "206351ebb41d95319106f004d9ed928139ff8af1276b50ec157ee7d319ae376b", func := "quayside/quaysidelaw19.VdiskRoom", spec := "vdiskRoom", inPlace := ["internal/bytealg.IndexByteString", "internal/bytealg.IndexString"], unfollowed := true, recurses := true, named := ["internal/bytealg.MaxLen"], apart := false, narrowed := true }
def VdiskRoomUptoSaid : Prop := vdiskRoomUptoRow.holds Try.pinned (OpenSpec.upto vdiskRoomSpec)

/-- 'quaysidelaw19.VdiskKnown', WHERE WHAT IT READS IS OF BULK AT MOST 1048576: true; the input reads as it did. -/
def vdiskKnownUptoRow : OpenClaim := { program := "yticehdfebghloaa", sum := "206351ebb41d95319106f004d9ed928139ff8af1276b50ec157ee7d319ae376b", func := "quayside/quaysidelaw19.VdiskKnown", spec := "vdiskKnown", inPlace := ["internal/bytealg.IndexByteString", "internal/bytealg.IndexString"], unfollowed := true, recurses := true, named := ["internal/bytealg.MaxLen"], apart := false, narrowed := true }
def VdiskKnownUptoSaid : Prop := vdiskKnownUptoRow.holds Try.pinned (OpenSpec.upto vdiskKnownSpec)

/-- 'quaysidelaw19.VdiskApart', WHERE WHAT IT READS IS OF BULK AT MOST 1048576: true; the input reads as it did. -/
def vdiskApartUptoRow : OpenClaim := { program := "yticehdfebghloaa", sum := "206351ebb41d95319106f004d9ed928139ff8af1276b50ec157ee7d319ae376b", func := "quayside/quaysidelaw19.VdiskApart", spec := "vdiskApart", inPlace := ["internal/bytealg.IndexByteString", "internal/bytealg.IndexString"], unfollowed := true, recurses := true, named := ["internal/bytealg.MaxLen"], apart := false, narrowed := true }
def VdiskApartUptoSaid : Prop := vdiskApartUptoRow.holds Try.pinned (OpenSpec.upto vdiskApartSpec)

end Rows
end Go.Proofs.Yticehdfebghloaa

/-
  No cell of these rows narrows 'for every input' (looked for: loops, veiled, ifaces, maps, wideKeys, modest, calm, conditions, laid).
  DERIVED. THE GIVEN ROWS OF THIS SEAT. 6 by the template 'for every input the law returns true; each argument reads behind the call as it read before'; 0 by the template 'total and deterministic' (their statements: YtnfcddhabhbicaaTotals.lean).
  GIVEN WITH THE SEED: the statements are not yours to turn. If you find one false, say at which input.
  Laid BY PROGRAM, IN A SANDBOX (cutbox-rows.mjs): the forced cells as the released guide's own fill.sh prints them over the translation c41b36edf611d440… (all of the seat's roots in one cut). By AI agents, Wed Nov 11 2026. No macro, syntax, notation, axiom, sorry.
-/
import Derived.Test.YtnfcddhabhbicaaChecked
import GoSem.Claim
import GoSem.ClaimJoined
import GoSem.ClaimMapViews
import Derived.JoinedTies
import Derived.KernelRfl
namespace Go.Proofs.Ytnfcddhabhbicaa
/- THE CELL 'sum', in the pinned program and in every row, IS THE sha256 OF THE DUMP (.gsa) THAT YtnfcddhabhbicaaProg.lean LOADS. Nothing in Lean hashes anything: it is a label: what it is worth is what the hold of that sum in a sandbox is worth. -/
noncomputable def Try.pinned : Pinned := { name := "ytnfcddhabhbicaa", sum := "c41b36edf611d44030c78e75bb01f238f29441b894eae6fde4bbb090bc1050f6", checked := Try.checked }
namespace Rows
def none {H : Type} : Left H := { results := [], args := [] }

/-- 'quaysidelaw26.SessionEnds': WHATEVER THE INPUT: true; the input reads as it did. -/
def sessionEndsSpec : ChangeSpec := { name := "sessionEnds", fn := fun _ => fun
  | [d1, d2, d3, d4] => { results := [.lit (.bool true)], args := [d1, d2, d3, d4] }
  | _ => none }
def sessionEndsRow : OpenClaim := { program := "ytnfcddhabhbicaa", sum := "c41b36edf611d44030c78e75bb01f238f29441b894eae6fde4bbb090bc1050f6", func := "quayside/quaysidelaw26.SessionEnds", spec := "sessionEnds", unfollowed := true, recurses := true, apart := false }
def SessionEndsSaid : Prop := sessionEndsRow.holds Try.pinned (OpenSpec.ofChange sessionEndsSpec)

/-- ITS FALSE NEIGHBOUR: 'it returns false'. Refute it at one input. -/
def sessionEndsWrong : ChangeSpec := { name := "sessionEnds", fn := fun _ => fun
  | [d1, d2, d3, d4] => { results := [.lit (.bool false)], args := [d1, d2, d3, d4] }
  | _ => none }
def SessionEndsWrongFalsely : Prop := sessionEndsRow.holds Try.pinned (OpenSpec.ofChange sessionEndsWrong)

/-- 'quaysidelaw26.SessionDue': WHATEVER THE INPUT: true; the input reads as it did. -/
def sessionDueSpec : ChangeSpec := { name := "sessionDue", fn := fun _ => fun
  | [d1, d2, d3] => { results := [.lit (.bool true)], args := [d1, d2, d3] }
  | _ => none }
def sessionDueRow : OpenClaim := { program := "ytnfcddhabhbicaa", sum := "c41b36edf611d44030c78e75bb01f238f29441b894eae6fde4bbb090bc1050f6", func := "quayside/quaysidelaw26.SessionDue", spec := "sessionDue", unfollowed := true, recurses := true, apart := false }
def SessionDueSaid : Prop := sessionDueRow.holds Try.pinned (OpenSpec.ofChange sessionDueSpec)

/-- ITS FALSE NEIGHBOUR: 'it returns false'. Refute it at one input. -/
def sessionDueWrong : ChangeSpec := { name := "sessionDue", fn := fun _ => fun
  | [d1, d2, d3] => { results := [.lit (.bool false)], args := [d1, d2, d3] }
  | _ => none }
def SessionDueWrongFalsely : Prop := sessionDueRow.holds Try.pinned (OpenSpec.ofChange sessionDueWrong)

/-- 'quaysidelaw26.SessionAnew': WHATEVER THE INPUT: true; the input reads as it did. -/
def sessionAnewSpec : ChangeSpec := { name := "sessionAnew", fn := fun _ => fun
  | [d1, d2, d3, d4] => { results := [.lit (.bool true)], args := [d1, d2, d3, d4] }
  | _ => none }
def sessionAnewRow : OpenClaim := { program := "ytnfcddhabhbicaa", sum := "c41b36edf611d44030c78e75bb01f238f29441b894eae6fde4bbb090bc1050f6", func := "quayside/quaysidelaw26.SessionAnew", spec := "sessionAnew", unfollowed := true, recurses := true, apart := false }
def SessionAnewSaid : Prop := sessionAnewRow.holds Try.pinned (OpenSpec.ofChange sessionAnewSpec)

/-- ITS FALSE NEIGHBOUR: 'it returns false'. Refute it at one input. -/
def sessionAnewWrong : ChangeSpec := { name := "sessionAnew", fn := fun _ => fun
  | [d1, d2, d3, d4] => { results := [.lit (.bool false)], args := [d1, d2, d3, d4] }
  | _ => none }
def SessionAnewWrongFalsely : Prop := sessionAnewRow.holds Try.pinned (OpenSpec.ofChange sessionAnewWrong)

/-- 'quaysidelaw26.SessionRuns': WHATEVER THE INPUT: true; the input reads as it did. -/
def sessionRunsSpec : ChangeSpec := { name := "sessionRuns", fn := fun _ => fun
  | [d1, d2] => { results := [.lit (.bool true)], args := [d1, d2] }
  | _ => none }
def sessionRunsRow : OpenClaim := { program := "ytnfcddhabhbicaa", sum := "c41b36edf611d44030c78e75bb01f238f29441b894eae6fde4bbb090bc1050f6", func := "quayside/quaysidelaw26.SessionRuns", spec := "sessionRuns", unfollowed := true, recurses := true, apart := false }
def SessionRunsSaid : Prop := sessionRunsRow.holds Try.pinned (OpenSpec.ofChange sessionRunsSpec)

/-- ITS FALSE NEIGHBOUR: 'it returns false'. Refute it at one input. -/
def sessionRunsWrong : ChangeSpec := { name := "sessionRuns", fn := fun _ => fun
  | [d1, d2] => { results := [.lit (.bool false)], args := [d1, d2] }
  | _ => none }
def SessionRunsWrongFalsely : Prop := sessionRunsRow.holds Try.pinned (OpenSpec.ofChange sessionRunsWrong)

/-- 'quaysidelaw26.SessionApart': WHATEVER THE INPUT: true; the input reads as it did. -/
def sessionApartSpec : ChangeSpec := { name := "sessionApart", fn := fun _ => fun
  | [d1, d2, d3] => { results := [.lit (.bool true)], args := [d1, d2, d3] }
  | _ => none }
def sessionApartRow : OpenClaim := { program := "ytnfcddhabhbicaa", sum := "c41b36edf611d44030c78e75bb01f238f29441b894eae6fde4bbb090bc1050f6", func := "quayside/quaysidelaw26.SessionApart", spec := "sessionApart", unfollowed := true, recurses := true, apart := false }
def SessionApartSaid : Prop := sessionApartRow.holds Try.pinned (OpenSpec.ofChange sessionApartSpec)

/-- ITS FALSE NEIGHBOUR: 'it returns false'. Refute it at one input. -/
def sessionApartWrong : ChangeSpec := { name := "sessionApart", fn := fun _ => fun
  | [d1, d2, d3] => { results := [.lit (.bool false)], args := [d1, d2, d3] }
  | _ => none }
def SessionApartWrongFalsely : Prop := sessionApartRow.holds Try.pinned (OpenSpec.ofChange sessionApartWrong)

/-- 'quaysidelaw26.SessionKnown': WHATEVER THE INPUT: true; the input reads as it did. -/
def sessionKnownSpec : ChangeSpec := { name := "sessionKnown", fn := fun _ => fun
  | [] => { results := [.lit (.bool true)], args := [] }
  | _ => none }
def sessionKnownRow : OpenClaim := { program := "ytnfcddhabhbicaa", sum := "c41b36edf611d44030c78e75bb01f238f29441b894eae6fde4bbb090bc1050f6", func := "quayside/quaysidelaw26.SessionKnown", spec := "sessionKnown", unfollowed := true, recurses := true, apart := false }
def SessionKnownSaid : Prop := sessionKnownRow.holds Try.pinned (OpenSpec.ofChange sessionKnownSpec)

/-- ITS FALSE NEIGHBOUR: 'it returns false'. Refute it at one input. -/
def sessionKnownWrong : ChangeSpec := { name := "sessionKnown", fn := fun _ => fun
  | [] => { results := [.lit (.bool false)], args := [] }
  | _ => none }
def SessionKnownWrongFalsely : Prop := sessionKnownRow.holds Try.pinned (OpenSpec.ofChange sessionKnownWrong)

/- THE SECOND FORM. 'bulk': how many values and letters a reading holds, each counted each time it is reached (what is shared counts as often as it is met; a slice's spare places count too). A statement '..UptoSaid' is the law's where the arguments, and the package variables that the reading takes, are together of bulk at most 1048576: NARROWER than '..Said'. Prove '..Said' where nothing that the law and all that it calls make is longer than what came in: it says more and counts as full. Else prove '..UptoSaid'. A law counts once. -/
mutual
def uptoBulk {H : Type} : DataW H → Nat
  | .lit (.string bytes) => bytes.length + 1
  | .lit _ => 1
  | .nil => 1
  | .ptr d => uptoBulk d + 1
  | .slice elems spare => uptoBulkAll elems + uptoBulkAll spare + 1
  | .agg parts => uptoBulkAll parts + 1
  | .iface _ d => uptoBulk d + 1
  | .map entries => uptoBulkEntries entries + 1
  | .held _ => 1
def uptoBulkAll {H : Type} : List (DataW H) → Nat
  | [] => 0
  | d :: r => uptoBulk d + uptoBulkAll r
def uptoBulkEntries {H : Type} : List (Lit × DataW H) → Nat
  | [] => 0
  | x :: r => uptoBulkEntry x + uptoBulkEntries r
def uptoBulkEntry {H : Type} : Lit × DataW H → Nat
  | (.string bytes, d) => bytes.length + uptoBulk d + 1
  | (_, d) => uptoBulk d + 1
 end
def uptoSmall : (H : Type) → List (DataW H) → Bool := fun _ ds => decide (uptoBulkAll ds ≤ 1048576)
def OpenSpec.upto (s : _root_.Go.ChangeSpec) : _root_.Go.OpenSpec := { _root_.Go.OpenSpec.ofChange s with cond := some uptoSmall }

/-- 'quaysidelaw26.SessionEnds', WHERE WHAT IT READS IS OF BULK AT MOST 1048576: true; the input reads as it did. -/
def sessionEndsUptoRow : OpenClaim := { program := "ytnfcddhabhbicaa", sum := "c41b36edf611d44030c78e75bb01f238f29441b894eae6fde4bbb090bc1050f6", func := "quayside/quaysidelaw26.SessionEnds", spec := "sessionEnds", unfollowed := true, recurses := true, apart := false, narrowed := true }
def SessionEndsUptoSaid : Prop := sessionEndsUptoRow.holds Try.pinned (OpenSpec.upto sessionEndsSpec)

/-- 'quaysidelaw26.SessionDue', WHERE WHAT IT READS IS OF BULK AT MOST 1048576: true; the input reads as it did. -/
def sessionDueUptoRow : OpenClaim := { program := "ytnfcddhabhbicaa", sum := "c41b36edf611d44030c78e75bb01f238f29441b894eae6fde4bbb090bc1050f6", func := "quayside/quaysidelaw26.SessionDue", spec := "sessionDue", unfollowed := true, recurses := true, apart := false, narrowed := true }
def SessionDueUptoSaid : Prop := sessionDueUptoRow.holds Try.pinned (OpenSpec.upto sessionDueSpec)

/-- 'quaysidelaw26.SessionAnew', WHERE WHAT IT READS IS OF BULK AT MOST 1048576: true; the input reads as it did. -/
def sessionAnewUptoRow : OpenClaim := { program := "ytnfcddhabhbicaa", sum := "c41b36edf611d44030c78e75bb01f238f29441b894eae6fde4bbb090bc1050f6", func := "quayside/quaysidelaw26.SessionAnew", spec := "sessionAnew", unfollowed := true, recurses := true, apart := false, narrowed := true }
def SessionAnewUptoSaid : Prop := sessionAnewUptoRow.holds Try.pinned (OpenSpec.upto sessionAnewSpec)

/-- 'quaysidelaw26.SessionRuns', WHERE WHAT IT READS IS OF BULK AT MOST 1048576: true; the input reads as it did. -/
def sessionRunsUptoRow : OpenClaim := { program := "ytnfcddhabhbicaa", sum := "c41b36edf611d44030c78e75bb01f238f29441b894eae6fde4bbb090bc1050f6", func := "quayside/quaysidelaw26.SessionRuns", spec := "sessionRuns", unfollowed := true, recurses := true, apart := false, narrowed := true }
def SessionRunsUptoSaid : Prop := sessionRunsUptoRow.holds Try.pinned (OpenSpec.upto sessionRunsSpec)

/-- 'quaysidelaw26.SessionApart', WHERE WHAT IT READS IS OF BULK AT MOST 1048576: true; the input reads as it did. -/
def sessionApartUptoRow : OpenClaim := { program := "ytnfcddhabhbicaa", sum := "c41b36edf611d44030c78e75bb01f238f29441b894eae6fde4bbb090bc1050f6", func := "quayside/quaysidelaw26.SessionApart", spec := "sessionApart", unfollowed := true, recurses := true, apart := false, narrowed := true }
def SessionApartUptoSaid : Prop := sessionApartUptoRow.holds Try.pinned (OpenSpec.upto sessionApartSpec)

/-- 'quaysidelaw26.SessionKnown', WHERE WHAT IT READS IS OF BULK AT MOST 1048576: true; the input reads as it did. -/
def sessionKnownUptoRow : OpenClaim := { program := "ytnfcddhabhbicaa", sum := "c41b36edf611d44030c78e75bb01f238f29441b894eae6fde4bbb090bc1050f6", func := "quayside/quaysidelaw26.SessionKnown", spec := "sessionKnown", unfollowed := true, recurses := true, apart := false, narrowed := true }
def SessionKnownUptoSaid : Prop := sessionKnownUptoRow.holds Try.pinned (OpenSpec.upto sessionKnownSpec)

end Rows
end Go.Proofs.Ytnfcddhabhbicaa

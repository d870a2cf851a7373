import Derived.Test.YtfchlbaidamodaaGreatDoorYaRpReadsRow
import Derived.Test.YtfchlbaidamodaaGreatDoorYaRpReadsRowB
import Derived.Test.YtfchlbaidamodaaGreatDoorTie
set_option linter.all false
namespace Go.Proofs.YtfchlbaidamodaaGreatDoor
open Go.ax Go.ChangeShapes Go.WideShapes Go.ChangeAt Go.RowKit
theorem vx:Rows.ReplicaReadsSaid:=
 OpenClaim.holds_of_wide 6 Tryz.f6 rfl rfl rfl rfl rfl rfl rfl ⟨rfl,rfl,rfl,rfl,rfl⟩ rfl rfl rfl rfl rfl bY.named Tryz.func6 bY.facts bY.inst bY.wrapper
  (λc a d b _=>bY.lifted c a d b)
theorem replicaReads_card:Rows.ReplicaReadsCardSaid:=
 Claim7.holds_tied_plain_at .later [] [.data,.data,.data,.data,.data,.data,.data] true Rows.replicaReadsCard.stood.harness Rows.replicaReadsCard.stood.looks
  vx (λ_ a=>by cases a) bY.text (λ_ a=>by cases a) replicaReads_row_tie rfl ⟨rfl,rfl⟩ bY.mainIs rfl
  (λc d e f=>by
   obtain rfl:c=6:=XJ ((bY.named).symm.trans e)|>.symm
   obtain rfl:d=Tryz.f6:=(XJ (Tryz.func6.symm.trans f)).symm;exact⟨bY.looks,λj b g=>by
    have h:b∈Tryz.f6.params.toList:=by simpa using Array.mem_of_getElem? g
    have i:=bY.pA;exact(show Tryz.prog.wantsStandIn b=false by simpa using List.all_eq_true.1 i b h)⟩)
  bY.goes
#print axioms replicaReads_card
end Go.Proofs.YtfchlbaidamodaaGreatDoor

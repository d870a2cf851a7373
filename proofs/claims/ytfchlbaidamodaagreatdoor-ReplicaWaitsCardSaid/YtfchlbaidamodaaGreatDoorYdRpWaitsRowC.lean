import Derived.Test.YtfchlbaidamodaaGreatDoorYdRpWaitsRow
import Derived.Test.YtfchlbaidamodaaGreatDoorYdRpWaitsRowB
import Derived.Test.YtfchlbaidamodaaGreatDoorTie
set_option linter.all false
namespace Go.Proofs.YtfchlbaidamodaaGreatDoor
open Go.ax Go.ChangeShapes Go.WideShapes Go.ChangeAt Go.RowKit
theorem vz:Rows.ReplicaWaitsSaid:=
 OpenClaim.holds_of_wide 4 Tryz.f4 rfl rfl rfl rfl rfl rfl rfl ⟨rfl,rfl,rfl,rfl,rfl⟩ rfl rfl rfl rfl rfl bZ.named Tryz.func4 bZ.facts bZ.inst bZ.wrapper
  (λc a d b _=>bZ.lifted c a d b)
theorem replicaWaits_card:Rows.ReplicaWaitsCardSaid:=
 Claim7.holds_tied_plain_at .later [] [.data,.data,.data,.data,.data,.data,.data] true Rows.replicaWaitsCard.stood.harness Rows.replicaWaitsCard.stood.looks
  vz (λ_ a=>by cases a) bZ.text (λ_ a=>by cases a) replicaWaits_row_tie rfl ⟨rfl,rfl⟩ bZ.mainIs rfl
  (λc d e f=>by
   obtain rfl:c=4:=XJ ((bZ.named).symm.trans e)|>.symm
   obtain rfl:d=Tryz.f4:=(XJ (Tryz.func4.symm.trans f)).symm;exact⟨bZ.looks,λj b g=>by
    have h:b∈Tryz.f4.params.toList:=by simpa using Array.mem_of_getElem? g
    have i:=bZ.pA;exact(show Tryz.prog.wantsStandIn b=false by simpa using List.all_eq_true.1 i b h)⟩)
  bZ.goes
#print axioms replicaWaits_card
end Go.Proofs.YtfchlbaidamodaaGreatDoor

import Derived.Test.YthnilpgpacdmnaaGreatDoorYRpKeysRow
import Derived.Test.YthnilpgpacdmnaaGreatDoorYRpKeysRowB
import Derived.Test.YthnilpgpacdmnaaGreatDoorTie
namespace Go.Proofs.YthnilpgpacdmnaaGreatDoor
open Go.au Go.ChangeShapes Go.WideShapes Go.ChangeAt Go.RowKit
theorem uQ:Rows.ReplicaKeysSaid:=
 OpenClaim.holds_of_wide 3 Tryz.f3 rfl rfl rfl rfl rfl rfl rfl ⟨rfl,rfl,rfl,rfl,rfl⟩ rfl rfl rfl rfl rfl bM.named Tryz.func3 bM.facts bM.inst bM.wrapper
  (λc a d b _=>bM.lifted c a d b)
theorem replicaKeys_card:Rows.ReplicaKeysCardSaid:=
 Claim7.holds_tied_plain_at .later [] [.data,.data,.data,.data,.data,.data,.data] true Rows.replicaKeysCard.stood.harness Rows.replicaKeysCard.stood.looks
  uQ (λ_ a=>by cases a) bM.text (λ_ a=>by cases a) replicaKeys_row_tie rfl ⟨rfl,rfl⟩ bM.mainIs rfl
  (λc d e f=>by
   obtain rfl:c=3:=XJ ((bM.named).symm.trans e)|>.symm
   obtain rfl:d=Tryz.f3:=(XJ (Tryz.func3.symm.trans f)).symm;exact⟨bM.looks,λj b g=>by
    have h:b∈Tryz.f3.params.toList:=by simpa using Array.mem_of_getElem? g
    have i:=bM.QO;exact(show Tryz.prog.wantsStandIn b=false by simpa using List.all_eq_true.1 i b h)⟩)
  bM.goes
#print axioms replicaKeys_card
end Go.Proofs.YthnilpgpacdmnaaGreatDoor

import Derived.Test.YtfchlbaidamodaaGreatDoorYcRpCompRow
import Derived.Test.YtfchlbaidamodaaGreatDoorYcRpCompRowB
import Derived.Test.YtfchlbaidamodaaGreatDoorTie
set_option linter.all false
namespace Go.Proofs.YtfchlbaidamodaaGreatDoor
open Go.ax Go.ChangeShapes Go.WideShapes Go.ChangeAt Go.RowKit
def qC:Rows.ReplicaCompactsSaid:=
 OpenClaim.holds_of_wide 7 Tryz.f7 rfl rfl rfl rfl rfl rfl rfl ⟨rfl,rfl,rfl,rfl,rfl⟩ rfl rfl rfl rfl rfl bq.named Tryz.func7 bq.facts bq.inst bq.wrapper
  (λc a d b _=>bq.lifted c a d b)
theorem replicaCompacts_card:Rows.ReplicaCompactsCardSaid:=
 Claim7.holds_tied_plain_at .later [] [.data,.data,.data,.data,.data,.data,.data] true Rows.replicaCompactsCard.stood.harness Rows.replicaCompactsCard.stood.looks
  qC (λ_ a=>by cases a) bq.text (λ_ a=>by cases a) replicaCompacts_row_tie rfl ⟨rfl,rfl⟩ bq.mainIs rfl
  (λc d e f=>by
   obtain rfl:c=7:=XJ ((bq.named).symm.trans e)|>.symm
   obtain rfl:d=Tryz.f7:=(XJ (Tryz.func7.symm.trans f)).symm;exact⟨bq.looks,λj b g=>by
    have h:b∈Tryz.f7.params.toList:=by simpa using Array.mem_of_getElem? g
    have i:=bq.pA;exact(show Tryz.prog.wantsStandIn b=false by simpa using List.all_eq_true.1 i b h)⟩)
  bq.goes
#print axioms replicaCompacts_card
end Go.Proofs.YtfchlbaidamodaaGreatDoor

import Derived.Test.YtfchlbaidamodaaGreatDoorYbRpLastsRow
import Derived.Test.YtfchlbaidamodaaGreatDoorYbRpLastsRowB
import Derived.Test.YtfchlbaidamodaaGreatDoorTie
set_option linter.all false
namespace Go.Proofs.YtfchlbaidamodaaGreatDoor
open Go.ax Go.ChangeShapes Go.WideShapes Go.ChangeAt Go.RowKit
theorem vv:Rows.ReplicaLastsSaid:=
 OpenClaim.holds_of_wide 5 Tryz.f5 rfl rfl rfl rfl rfl rfl rfl ⟨rfl,rfl,rfl,rfl,rfl⟩ rfl rfl rfl rfl rfl bX.named Tryz.func5 bX.facts bX.inst bX.wrapper
  (λc a d b _=>bX.lifted c a d b)
theorem replicaLasts_card:Rows.ReplicaLastsCardSaid:=
 Claim7.holds_tied_plain_at .later [] [.data,.data,.data,.data,.data,.data,.data] true Rows.replicaLastsCard.stood.harness Rows.replicaLastsCard.stood.looks
  vv (λ_ a=>by cases a) bX.text (λ_ a=>by cases a) replicaLasts_row_tie rfl ⟨rfl,rfl⟩ bX.mainIs rfl
  (λc d e f=>by
   obtain rfl:c=5:=XJ ((bX.named).symm.trans e)|>.symm
   obtain rfl:d=Tryz.f5:=(XJ (Tryz.func5.symm.trans f)).symm;exact⟨bX.looks,λj b g=>by
    have h:b∈Tryz.f5.params.toList:=by simpa using Array.mem_of_getElem? g
    have i:=bX.pA;exact(show Tryz.prog.wantsStandIn b=false by simpa using List.all_eq_true.1 i b h)⟩)
  bX.goes
#print axioms replicaLasts_card
end Go.Proofs.YtfchlbaidamodaaGreatDoor

import Derived.Test.YtjgjkeponbeekaaGreatDoorYbCluTellsRow
import Derived.Test.YtjgjkeponbeekaaGreatDoorYbCluTellsRowB
import Derived.Test.YtjgjkeponbeekaaGreatDoorTie
set_option linter.all false
namespace Go.Proofs.YtjgjkeponbeekaaGreatDoor
open Go.ar Go.ChangeShapes Go.WideShapes Go.ChangeAt Go.RowKit
def ub:Rows.ClusterTellsSaid:=
 OpenClaim.holds_of_wide 3 Tryz.f3 rfl rfl rfl rfl rfl rfl rfl ⟨rfl,rfl,rfl,rfl,rfl⟩ rfl rfl rfl rfl rfl bR.named Tryz.func3 bR.facts bR.inst bR.wrapper
  (λa n b P _=>bR.lifted a n b P)
theorem clusterTells_card:Rows.ClusterTellsCardSaid:=
 Claim7.holds_tied_plain_at .later [] [.data,.data,.data,.data,.data,.data,.data] true Rows.clusterTellsCard.stood.harness Rows.clusterTellsCard.stood.looks
  ub (λ_ n=>by cases n) bR.text (λ_ n=>by cases n) clusterTells_row_tie rfl ⟨rfl,rfl⟩ bR.mainIs rfl
  (λa b c d=>by
   obtain rfl:a=3:=XJ ((bR.named).symm.trans c)|>.symm
   obtain rfl:b=Tryz.f3:=(XJ (Tryz.func3.symm.trans d)).symm;exact⟨bR.looks,λh P e=>by
    have f:P∈Tryz.f3.params.toList:=by simpa using Array.mem_of_getElem? e
    have g:=bR.Ul;exact(show Tryz.prog.wantsStandIn P=false by simpa using ZY.1 g P f)⟩)
  bR.goes
#print axioms clusterTells_card

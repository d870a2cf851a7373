/- ClusterTells answers true at every input, and leaves its arguments, where the listed tables read as listed. -/
import Derived.Test.YtjgjkeponbeekaaGreatDoorYjCluTellsRow
import Derived.Test.YtjgjkeponbeekaaGreatDoorYjCluTellsRowB
import Derived.Test.YtjgjkeponbeekaaGreatDoorTie
set_option linter.all false
namespace Go.Proofs.YtjgjkeponbeekaaGreatDoor
open Go.aw Go.ChangeShapes Go.WideShapes Go.ChangeAt Go.RowKit
def ua:Rows.ClusterTellsSaid:=
 OpenClaim.holds_of_wide 3 Tryz.f3 rfl rfl rfl rfl rfl rfl rfl ⟨rfl,rfl,rfl,rfl,rfl⟩ rfl rfl rfl rfl rfl bP.named Tryz.func3 bP.facts bP.inst bP.wrapper
  (λa n b P _=>bP.lifted a n b P)
theorem clusterTells_card:Rows.ClusterTellsCardSaid:=
 Claim7.holds_tied_plain_at .later [] [.data,.data,.data,.data,.data,.data,.data] true Rows.clusterTellsCard.stood.harness Rows.clusterTellsCard.stood.looks
  ua (λ_ n=>by cases n) bP.text (λ_ n=>by cases n) clusterTells_row_tie rfl ⟨rfl,rfl⟩ bP.mainIs rfl
  (λa b c d=>by
   obtain rfl:a=3:=XJ ((bP.named).symm.trans c)|>.symm
   obtain rfl:b=Tryz.f3:=(XJ (Tryz.func3.symm.trans d)).symm;exact⟨bP.looks,λh P e=>by
    have f:P∈Tryz.f3.params.toList:=by simpa using Array.mem_of_getElem? e
    have g:=bP.Uc;exact(show Tryz.prog.wantsStandIn P=false by simpa using ZY.1 g P f)⟩)
  bP.goes
#print axioms clusterTells_card

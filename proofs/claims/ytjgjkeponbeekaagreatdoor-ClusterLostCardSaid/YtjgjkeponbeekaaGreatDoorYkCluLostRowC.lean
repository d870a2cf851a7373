/- ClusterLost answers true at every input, and leaves its arguments, where the listed tables read as listed. -/
import Derived.Test.YtjgjkeponbeekaaGreatDoorYkCluLostRow
import Derived.Test.YtjgjkeponbeekaaGreatDoorYkCluLostRowB
import Derived.Test.YtjgjkeponbeekaaGreatDoorTie
set_option linter.all false
namespace Go.Proofs.YtjgjkeponbeekaaGreatDoor
open Go.aw Go.ChangeShapes Go.WideShapes Go.ChangeAt Go.RowKit
def u_:Rows.ClusterLostSaid:=
 OpenClaim.holds_of_wide 5 Tryz.f5 rfl rfl rfl rfl rfl rfl rfl ⟨rfl,rfl,rfl,rfl,rfl⟩ rfl rfl rfl rfl rfl cg.named Tryz.func5 cg.facts cg.inst cg.wrapper
  (λa n b P _=>cg.lifted a n b P)
theorem clusterLost_card:Rows.ClusterLostCardSaid:=
 Claim7.holds_tied_plain_at .later [] [.data,.data,.data,.data,.data,.data,.data] true Rows.clusterLostCard.stood.harness Rows.clusterLostCard.stood.looks
  u_ (λ_ n=>by cases n) cg.text (λ_ n=>by cases n) clusterLost_row_tie rfl ⟨rfl,rfl⟩ cg.mainIs rfl
  (λa b c d=>by
   obtain rfl:a=5:=XJ ((cg.named).symm.trans c)|>.symm
   obtain rfl:b=Tryz.f5:=(XJ (Tryz.func5.symm.trans d)).symm;exact⟨cg.looks,λh P e=>by
    have f:P∈Tryz.f5.params.toList:=by simpa using Array.mem_of_getElem? e
    have g:=cg.Tu;exact(show Tryz.prog.wantsStandIn P=false by simpa using ZY.1 g P f)⟩)
  cg.goes
#print axioms clusterLost_card

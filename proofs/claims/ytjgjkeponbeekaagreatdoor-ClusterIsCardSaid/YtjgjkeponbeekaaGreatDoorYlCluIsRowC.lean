/- ClusterIs answers true at every input, and leaves its arguments, where the listed tables read as listed. -/
import Derived.Test.YtjgjkeponbeekaaGreatDoorYlCluIsRow
import Derived.Test.YtjgjkeponbeekaaGreatDoorYlCluIsRowB
import Derived.Test.YtjgjkeponbeekaaGreatDoorTie
set_option linter.all false
namespace Go.Proofs.YtjgjkeponbeekaaGreatDoor
open Go.au Go.ChangeShapes Go.WideShapes Go.ChangeAt Go.RowKit
def yH:Rows.ClusterIsSaid:=
 OpenClaim.holds_of_wide 6 Tryz.f6 rfl rfl rfl rfl rfl rfl rfl ⟨rfl,rfl,rfl,rfl,rfl⟩ rfl rfl rfl rfl rfl cF.named Tryz.func6 cF.facts cF.inst cF.wrapper
  (λa n b P _=>cF.lifted a n b P)
theorem clusterIs_card:Rows.ClusterIsCardSaid:=
 Claim7.holds_tied_plain_at .later [] [.data,.data,.data,.data,.data,.data,.data] true Rows.clusterIsCard.stood.harness Rows.clusterIsCard.stood.looks
  yH (λ_ n=>by cases n) cF.text (λ_ n=>by cases n) clusterIs_row_tie rfl ⟨rfl,rfl⟩ cF.mainIs rfl
  (λa b c d=>by
   obtain rfl:a=6:=XJ ((cF.named).symm.trans c)|>.symm
   obtain rfl:b=Tryz.f6:=(XJ (Tryz.func6.symm.trans d)).symm;exact⟨cF.looks,λh P e=>by
    have f:P∈Tryz.f6.params.toList:=by simpa using Array.mem_of_getElem? e
    have g:=cF.R_;exact(show Tryz.prog.wantsStandIn P=false by simpa using ZY.1 g P f)⟩)
  cF.goes
#print axioms clusterIs_card

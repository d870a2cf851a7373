/- ClusterReads answers true at every input, and leaves its arguments, where the listed tables read as listed. -/
import Derived.Test.YtjgjkeponbeekaaGreatDoorYiCluReadsRow
import Derived.Test.YtjgjkeponbeekaaGreatDoorYiCluReadsRowB
import Derived.Test.YtjgjkeponbeekaaGreatDoorTie
set_option linter.all false
namespace Go.Proofs.YtjgjkeponbeekaaGreatDoor
open Go.au Go.ChangeShapes Go.WideShapes Go.ChangeAt Go.RowKit
def sO:Rows.ClusterReadsSaid:=
 OpenClaim.holds_of_wide 4 Tryz.f4 rfl rfl rfl rfl rfl rfl rfl ⟨rfl,rfl,rfl,rfl,rfl⟩ rfl rfl rfl rfl rfl bz.named Tryz.func4 bz.facts bz.inst bz.wrapper
  (λa n b P _=>bz.lifted a n b P)
theorem clusterReads_card:Rows.ClusterReadsCardSaid:=
 Claim7.holds_tied_plain_at .later [] [.data,.data,.data,.data,.data,.data,.data] true Rows.clusterReadsCard.stood.harness Rows.clusterReadsCard.stood.looks
  sO (λ_ n=>by cases n) bz.text (λ_ n=>by cases n) clusterReads_row_tie rfl ⟨rfl,rfl⟩ bz.mainIs rfl
  (λa b c d=>by
   obtain rfl:a=4:=XJ ((bz.named).symm.trans c)|>.symm
   obtain rfl:b=Tryz.f4:=(XJ (Tryz.func4.symm.trans d)).symm;exact⟨bz.looks,λh P e=>by
    have f:P∈Tryz.f4.params.toList:=by simpa using Array.mem_of_getElem? e
    have g:=bz.Rt;exact(show Tryz.prog.wantsStandIn P=false by simpa using ZY.1 g P f)⟩)
  bz.goes
#print axioms clusterReads_card

import Derived.Test.YtjgjkeponbeekaaGreatDoorYaCluReadsRow
import Derived.Test.YtjgjkeponbeekaaGreatDoorYaCluReadsRowB
import Derived.Test.YtjgjkeponbeekaaGreatDoorTie
set_option linter.all false
namespace Go.Proofs.YtjgjkeponbeekaaGreatDoor
open Go.ar Go.ChangeShapes Go.WideShapes Go.ChangeAt Go.RowKit
def sP:Rows.ClusterReadsSaid:=
 OpenClaim.holds_of_wide 4 Tryz.f4 rfl rfl rfl rfl rfl rfl rfl ⟨rfl,rfl,rfl,rfl,rfl⟩ rfl rfl rfl rfl rfl bB.named Tryz.func4 bB.facts bB.inst bB.wrapper
  (λc a d b _=>bB.lifted c a d b)
theorem clusterReads_card:Rows.ClusterReadsCardSaid:=
 Claim7.holds_tied_plain_at .later [] [.data,.data,.data,.data,.data,.data,.data] true Rows.clusterReadsCard.stood.harness Rows.clusterReadsCard.stood.looks
  sP (λ_ a=>by cases a) bB.text (λ_ a=>by cases a) clusterReads_row_tie rfl ⟨rfl,rfl⟩ bB.mainIs rfl
  (λc d e f=>by
   obtain rfl:c=4:=XJ ((bB.named).symm.trans e)|>.symm
   obtain rfl:d=Tryz.f4:=(XJ (Tryz.func4.symm.trans f)).symm;exact⟨bB.looks,λj b g=>by
    have h:b∈Tryz.f4.params.toList:=by simpa using Array.mem_of_getElem? g
    have i:=bB.RD;exact(show Tryz.prog.wantsStandIn b=false by simpa using List.all_eq_true.1 i b h)⟩)
  bB.goes
#print axioms clusterReads_card
end Go.Proofs.YtjgjkeponbeekaaGreatDoor

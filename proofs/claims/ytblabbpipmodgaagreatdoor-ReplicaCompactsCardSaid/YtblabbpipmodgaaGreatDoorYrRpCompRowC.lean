/- ReplicaCompacts answers true at every input, and leaves its arguments, where the listed tables read as listed. -/
import Derived.Test.YtblabbpipmodgaaGreatDoorYrRpCompRow
import Derived.Test.YtblabbpipmodgaaGreatDoorYrRpCompRowB
import Derived.Test.YtblabbpipmodgaaGreatDoorTie
set_option linter.all false
namespace Go.Proofs.YtblabbpipmodgaaGreatDoor
open Go.aw Go.ChangeShapes Go.WideShapes Go.ChangeAt Go.RowKit
def pB:Rows.ReplicaCompactsSaid:=
 OpenClaim.holds_of_wide 7 Tryz.f7 rfl rfl rfl rfl rfl rfl rfl ⟨rfl,rfl,rfl,rfl,rfl⟩ rfl rfl rfl rfl rfl bh.named Tryz.func7 bh.facts bh.inst bh.wrapper
  (λb P c a _=>bh.lifted b P c a)
theorem replicaCompacts_card:Rows.ReplicaCompactsCardSaid:=
 Claim7.holds_tied_plain_at .later [] [.data,.data,.data,.data,.data,.data,.data] true Rows.replicaCompactsCard.stood.harness Rows.replicaCompactsCard.stood.looks
  pB (λ_ P=>by cases P) bh.text (λ_ P=>by cases P) replicaCompacts_row_tie rfl ⟨rfl,rfl⟩ bh.mainIs rfl
  (λb c d e=>by
   obtain rfl:b=7:=XJ ((bh.named).symm.trans d)|>.symm
   obtain rfl:c=Tryz.f7:=(XJ (Tryz.func7.symm.trans e)).symm;exact⟨bh.looks,λi a f=>by
    have g:a∈Tryz.f7.params.toList:=by simpa using Array.mem_of_getElem? f
    have h:=bh.SS;exact(show Tryz.prog.wantsStandIn a=false by simpa using ZY.1 h a g)⟩)
  bh.goes
#print axioms replicaCompacts_card

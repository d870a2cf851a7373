/- ReplicaReads answers true at every input, and leaves its arguments, where the listed tables read as listed. -/
import Derived.Test.YtblabbpipmodgaaGreatDoorYpRpReadsRow
import Derived.Test.YtblabbpipmodgaaGreatDoorYpRpReadsRowB
import Derived.Test.YtblabbpipmodgaaGreatDoorTie
set_option linter.all false
namespace Go.Proofs.YtblabbpipmodgaaGreatDoor
open Go.aw Go.ChangeShapes Go.WideShapes Go.ChangeAt Go.RowKit
def tk:Rows.ReplicaReadsSaid:=
 OpenClaim.holds_of_wide 5 Tryz.f5 rfl rfl rfl rfl rfl rfl rfl ⟨rfl,rfl,rfl,rfl,rfl⟩ rfl rfl rfl rfl rfl bG.named Tryz.func5 bG.facts bG.inst bG.wrapper
  (λb P c a _=>bG.lifted b P c a)
theorem replicaReads_card:Rows.ReplicaReadsCardSaid:=
 Claim7.holds_tied_plain_at .later [] [.data,.data,.data,.data,.data,.data,.data] true Rows.replicaReadsCard.stood.harness Rows.replicaReadsCard.stood.looks
  tk (λ_ P=>by cases P) bG.text (λ_ P=>by cases P) replicaReads_row_tie rfl ⟨rfl,rfl⟩ bG.mainIs rfl
  (λb c d e=>by
   obtain rfl:b=5:=XJ ((bG.named).symm.trans d)|>.symm
   obtain rfl:c=Tryz.f5:=(XJ (Tryz.func5.symm.trans e)).symm;exact⟨bG.looks,λi a f=>by
    have g:a∈Tryz.f5.params.toList:=by simpa using Array.mem_of_getElem? f
    have h:=bG.RI;exact(show Tryz.prog.wantsStandIn a=false by simpa using ZY.1 h a g)⟩)
  bG.goes
#print axioms replicaReads_card

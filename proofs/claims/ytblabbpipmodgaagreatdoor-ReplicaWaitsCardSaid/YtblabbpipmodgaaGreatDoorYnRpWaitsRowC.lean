/- ReplicaWaits answers true at every input, and leaves its arguments, where the listed tables read as listed. -/
import Derived.Test.YtblabbpipmodgaaGreatDoorYnRpWaitsRow
import Derived.Test.YtblabbpipmodgaaGreatDoorYnRpWaitsRowB
import Derived.Test.YtblabbpipmodgaaGreatDoorTie
set_option linter.all false
namespace Go.Proofs.YtblabbpipmodgaaGreatDoor
open Go.aw Go.ChangeShapes Go.WideShapes Go.ChangeAt Go.RowKit
def rY:Rows.ReplicaWaitsSaid:=
 OpenClaim.holds_of_wide 3 Tryz.f3 rfl rfl rfl rfl rfl rfl rfl ⟨rfl,rfl,rfl,rfl,rfl⟩ rfl rfl rfl rfl rfl bt.named Tryz.func3 bt.facts bt.inst bt.wrapper
  (λb P c a _=>bt.lifted b P c a)
theorem replicaWaits_card:Rows.ReplicaWaitsCardSaid:=
 Claim7.holds_tied_plain_at .later [] [.data,.data,.data,.data,.data,.data,.data] true Rows.replicaWaitsCard.stood.harness Rows.replicaWaitsCard.stood.looks
  rY (λ_ P=>by cases P) bt.text (λ_ P=>by cases P) replicaWaits_row_tie rfl ⟨rfl,rfl⟩ bt.mainIs rfl
  (λb c d e=>by
   obtain rfl:b=3:=XJ ((bt.named).symm.trans d)|>.symm
   obtain rfl:c=Tryz.f3:=(XJ (Tryz.func3.symm.trans e)).symm;exact⟨bt.looks,λi a f=>by
    have g:a∈Tryz.f3.params.toList:=by simpa using Array.mem_of_getElem? f
    have h:=bt.Pc;exact(show Tryz.prog.wantsStandIn a=false by simpa using ZY.1 h a g)⟩)
  bt.goes
#print axioms replicaWaits_card

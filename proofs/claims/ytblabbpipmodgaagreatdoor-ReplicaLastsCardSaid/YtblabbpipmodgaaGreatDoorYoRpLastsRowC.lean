/- ReplicaLasts answers true at every input, and leaves its arguments, where the listed tables read as listed. -/
import Derived.Test.YtblabbpipmodgaaGreatDoorYoRpLastsRow
import Derived.Test.YtblabbpipmodgaaGreatDoorYoRpLastsRowB
import Derived.Test.YtblabbpipmodgaaGreatDoorTie
set_option linter.all false
namespace Go.Proofs.YtblabbpipmodgaaGreatDoor
open Go.au Go.ChangeShapes Go.WideShapes Go.ChangeAt Go.RowKit
def sX:Rows.ReplicaLastsSaid:=
 OpenClaim.holds_of_wide 4 Tryz.f4 rfl rfl rfl rfl rfl rfl rfl ⟨rfl,rfl,rfl,rfl,rfl⟩ rfl rfl rfl rfl rfl bK.named Tryz.func4 bK.facts bK.inst bK.wrapper
  (λb P c a _=>bK.lifted b P c a)
theorem replicaLasts_card:Rows.ReplicaLastsCardSaid:=
 Claim7.holds_tied_plain_at .later [] [.data,.data,.data,.data,.data,.data,.data] true Rows.replicaLastsCard.stood.harness Rows.replicaLastsCard.stood.looks
  sX (λ_ P=>by cases P) bK.text (λ_ P=>by cases P) replicaLasts_row_tie rfl ⟨rfl,rfl⟩ bK.mainIs rfl
  (λb c d e=>by
   obtain rfl:b=4:=XJ ((bK.named).symm.trans d)|>.symm
   obtain rfl:c=Tryz.f4:=(XJ (Tryz.func4.symm.trans e)).symm;exact⟨bK.looks,λi a f=>by
    have g:a∈Tryz.f4.params.toList:=by simpa using Array.mem_of_getElem? f
    have h:=bK.Q_;exact(show Tryz.prog.wantsStandIn a=false by simpa using ZY.1 h a g)⟩)
  bK.goes
#print axioms replicaLasts_card

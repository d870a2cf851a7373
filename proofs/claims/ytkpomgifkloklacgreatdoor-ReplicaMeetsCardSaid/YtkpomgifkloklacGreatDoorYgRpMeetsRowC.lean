/- ReplicaMeets answers true at every input, and leaves its arguments, where the listed tables read as listed. -/
import Derived.Test.YtkpomgifkloklacGreatDoorYgRpMeetsRow
import Derived.Test.YtkpomgifkloklacGreatDoorYgRpMeetsRowB
import Derived.Test.YtkpomgifkloklacGreatDoorTie
set_option linter.all false
namespace Go.Proofs.YtkpomgifkloklacGreatDoor
open Go.aw Go.ChangeShapes Go.WideShapes Go.ChangeAt Go.RowKit
def sK:Rows.ReplicaMeetsSaid:=
 OpenClaim.holds_of_wide 3 Tryz.f3 rfl rfl rfl rfl rfl rfl rfl ⟨rfl,rfl,rfl,rfl,rfl⟩ rfl rfl rfl rfl rfl bC.named Tryz.func3 bC.facts bC.inst bC.wrapper
  (λb P c a _=>bC.lifted b P c a)
theorem replicaMeets_card:Rows.ReplicaMeetsCardSaid:=
 Claim7.holds_tied_plain_at .later [] [.data,.data,.data,.data,.data,.data,.data] true Rows.replicaMeetsCard.stood.harness Rows.replicaMeetsCard.stood.looks
  sK (λ_ P=>by cases P) bC.text (λ_ P=>by cases P) replicaMeets_row_tie rfl ⟨rfl,rfl⟩ bC.mainIs rfl
  (λb c d e=>by
   obtain rfl:b=3:=XJ ((bC.named).symm.trans d)|>.symm
   obtain rfl:c=Tryz.f3:=(XJ (Tryz.func3.symm.trans e)).symm;exact⟨bC.looks,λi a f=>by
    have g:a∈Tryz.f3.params.toList:=by simpa using Array.mem_of_getElem? f
    have h:=bC.PJ;exact(show Tryz.prog.wantsStandIn a=false by simpa using ZY.1 h a g)⟩)
  bC.goes
#print axioms replicaMeets_card

import Derived.Test.YtkpomgifkloklacGreatDoorYaRpMeetsRow
import Derived.Test.YtkpomgifkloklacGreatDoorYaRpMeetsRowB
import Derived.Test.YtkpomgifkloklacGreatDoorTie
set_option linter.all false
namespace Go.Proofs.YtkpomgifkloklacGreatDoor
open Go.aw Go.ChangeShapes Go.WideShapes Go.ChangeAt Go.RowKit
def sK:Rows.ReplicaMeetsSaid:=
 OpenClaim.holds_of_wide 3 Tryz.f3 rfl rfl rfl rfl rfl rfl rfl ⟨rfl,rfl,rfl,rfl,rfl⟩ rfl rfl rfl rfl rfl bD.named Tryz.func3 bD.facts bD.inst bD.wrapper
  (λb P c a _=>bD.lifted b P c a)
theorem replicaMeets_card:Rows.ReplicaMeetsCardSaid:=
 Claim7.holds_tied_plain_at .later [] [.data,.data,.data,.data,.data,.data,.data] true Rows.replicaMeetsCard.stood.harness Rows.replicaMeetsCard.stood.looks
  sK (λ_ P=>by cases P) bD.text (λ_ P=>by cases P) replicaMeets_row_tie rfl ⟨rfl,rfl⟩ bD.mainIs rfl
  (λb c d e=>by
   obtain rfl:b=3:=XJ ((bD.named).symm.trans d)|>.symm
   obtain rfl:c=Tryz.f3:=(XJ (Tryz.func3.symm.trans e)).symm;exact⟨bD.looks,λi a f=>by
    have g:a∈Tryz.f3.params.toList:=by simpa using Array.mem_of_getElem? f
    have h:=bD.PK;exact(show Tryz.prog.wantsStandIn a=false by simpa using ZY.1 h a g)⟩)
  bD.goes
#print axioms replicaMeets_card

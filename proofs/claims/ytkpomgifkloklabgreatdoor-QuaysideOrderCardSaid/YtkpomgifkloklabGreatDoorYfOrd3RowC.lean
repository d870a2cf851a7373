/- QuaysideOrder answers true at every input, and leaves its arguments, where the listed tables read as listed. -/
import Derived.Test.YtkpomgifkloklabGreatDoorYfOrd3Row
import Derived.Test.YtkpomgifkloklabGreatDoorYfOrd3RowB
import Derived.Test.YtkpomgifkloklabGreatDoorTie
set_option linter.all false
namespace Go.Proofs.YtkpomgifkloklabGreatDoor
open Go.aw Go.ChangeShapes Go.WideShapes Go.ChangeAt Go.RowKit
def sZ:Rows.QuaysideOrderSaid:=
 OpenClaim.holds_of_wide 3 Tryz.f3 rfl rfl rfl rfl rfl rfl rfl ⟨rfl,rfl,rfl,rfl,rfl⟩ rfl rfl rfl rfl rfl bC.named Tryz.func3 bC.facts bC.inst bC.wrapper
  (λa n b P _=>bC.lifted a n b P)
theorem quaysideOrder_card:Rows.QuaysideOrderCardSaid:=
 Claim7.holds_tied_plain_at .later [] [.data,.data,.data,.data,.data,.data,.data] true Rows.quaysideOrderCard.stood.harness Rows.quaysideOrderCard.stood.looks
  sZ (λ_ n=>by cases n) bC.text (λ_ n=>by cases n) quaysideOrder_row_tie rfl ⟨rfl,rfl⟩ bC.mainIs rfl
  (λa b c d=>by
   obtain rfl:a=3:=XJ ((bC.named).symm.trans c)|>.symm
   obtain rfl:b=Tryz.f3:=(XJ (Tryz.func3.symm.trans d)).symm;exact⟨bC.looks,λh P e=>by
    have f:P∈Tryz.f3.params.toList:=by simpa using Array.mem_of_getElem? e
    have g:=bC.UT;exact(show Tryz.prog.wantsStandIn P=false by simpa using ZY.1 g P f)⟩)
  bC.goes
#print axioms quaysideOrder_card

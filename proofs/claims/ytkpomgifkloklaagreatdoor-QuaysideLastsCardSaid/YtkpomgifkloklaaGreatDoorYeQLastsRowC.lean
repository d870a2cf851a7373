/- QuaysideLasts answers true at every input, and leaves its arguments, where the listed tables read as listed. -/
import Derived.Test.YtkpomgifkloklaaGreatDoorYeQLastsRow
import Derived.Test.YtkpomgifkloklaaGreatDoorYeQLastsRowB
import Derived.Test.YtkpomgifkloklaaGreatDoorTie
set_option linter.all false
namespace Go.Proofs.YtkpomgifkloklaaGreatDoor
open Go.aw Go.ChangeShapes Go.WideShapes Go.ChangeAt Go.RowKit
def tx:Rows.QuaysideLastsSaid:=
 OpenClaim.holds_of_wide 3 Tryz.f3 rfl rfl rfl rfl rfl rfl rfl ⟨rfl,rfl,rfl,rfl,rfl⟩ rfl rfl rfl rfl rfl bH.named Tryz.func3 bH.facts bH.inst bH.wrapper
  (λa n b P _=>bH.lifted a n b P)
theorem quaysideLasts_card:Rows.QuaysideLastsCardSaid:=
 Claim7.holds_tied_plain_at .later [] [.data,.data,.data,.data,.data,.data,.data] true Rows.quaysideLastsCard.stood.harness Rows.quaysideLastsCard.stood.looks
  tx (λ_ n=>by cases n) bH.text (λ_ n=>by cases n) quaysideLasts_row_tie rfl ⟨rfl,rfl⟩ bH.mainIs rfl
  (λa b c d=>by
   obtain rfl:a=3:=XJ ((bH.named).symm.trans c)|>.symm
   obtain rfl:b=Tryz.f3:=(XJ (Tryz.func3.symm.trans d)).symm;exact⟨bH.looks,λh P e=>by
    have f:P∈Tryz.f3.params.toList:=by simpa using Array.mem_of_getElem? e
    have g:=bH.Vx;exact(show Tryz.prog.wantsStandIn P=false by simpa using ZY.1 g P f)⟩)
  bH.goes
#print axioms quaysideLasts_card

/- ReplicaKeys answers true at every input, and leaves its arguments, where the listed tables read as listed. -/
import Derived.Test.YtblabbpipmodgaaGreatDoorYqRpKeysRow
import Derived.Test.YtblabbpipmodgaaGreatDoorYqRpKeysRowB
import Derived.Test.YtblabbpipmodgaaGreatDoorTie
set_option linter.all false
namespace Go.Proofs.YtblabbpipmodgaaGreatDoor
open Go.aw Go.ChangeShapes Go.WideShapes Go.ChangeAt Go.RowKit
def uE:Rows.ReplicaKeysSaid:=
 OpenClaim.holds_of_wide 6 Tryz.f6 rfl rfl rfl rfl rfl rfl rfl ⟨rfl,rfl,rfl,rfl,rfl⟩ rfl rfl rfl rfl rfl bL.named Tryz.func6 bL.facts bL.inst bL.wrapper
  (λb P c a _=>bL.lifted b P c a)
theorem replicaKeys_card:Rows.ReplicaKeysCardSaid:=
 Claim7.holds_tied_plain_at .later [] [.data,.data,.data,.data,.data,.data,.data] true Rows.replicaKeysCard.stood.harness Rows.replicaKeysCard.stood.looks
  uE (λ_ P=>by cases P) bL.text (λ_ P=>by cases P) replicaKeys_row_tie rfl ⟨rfl,rfl⟩ bL.mainIs rfl
  (λb c d e=>by
   obtain rfl:b=6:=XJ ((bL.named).symm.trans d)|>.symm
   obtain rfl:c=Tryz.f6:=(XJ (Tryz.func6.symm.trans e)).symm;exact⟨bL.looks,λi a f=>by
    have g:a∈Tryz.f6.params.toList:=by simpa using Array.mem_of_getElem? f
    have h:=bL.Qp;exact(show Tryz.prog.wantsStandIn a=false by simpa using ZY.1 h a g)⟩)
  bL.goes
#print axioms replicaKeys_card

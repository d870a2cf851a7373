import Derived.Test.YthnilpgpacdmnaaGreatDoorRows
import Derived.JoinedOf
namespace Go.Proofs.YthnilpgpacdmnaaGreatDoor.bM
set_option linter.unusedVariables false
set_option maxRecDepth 100000
theorem VM:laidOutB Tryz.prog=true:=by kernel_rfl
theorem VN:mapsRowed Tryz.prog=true:=by kernel_rfl
theorem VO:(Rows.replicaKeysRow.inPlace==Tryz.prog.inPlace 3)=true:=by kernel_rfl
theorem UT:(Rows.replicaKeysRow.unfollowed==Tryz.prog.unfollowed 3)=true:=by kernel_rfl
theorem UU:(Rows.replicaKeysRow.recurses==Tryz.prog.recurses 3)=true:=by kernel_rfl
theorem UW:(Rows.replicaKeysRow.named==Tryz.prog.varsNamed 3)=true:=by kernel_rfl
theorem UX:(Rows.replicaKeysRow.loops==(Tryz.f3.params.toList++Rows.replicaKeysSpec.plain.varTypes Tryz.prog).any (Tryz.prog.loopsFrom ·))=true:=by kernel_rfl
theorem UY:(Tryz.prog.stopsHeard)=true:=by kernel_rfl
theorem UZ:(Tryz.prog.mayEnter)=true:=by kernel_rfl
end Go.Proofs.YthnilpgpacdmnaaGreatDoor.bM

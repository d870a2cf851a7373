import Derived.Test.YtblabbpipmodgaaGreatDoorRows
import Derived.JoinedOf
set_option linter.all false
set_option maxRecDepth 100000
namespace Go.Proofs.YtblabbpipmodgaaGreatDoor.bK
def VL:laidOutB Tryz.prog=true:=by kernel_rfl
def VM:mapsRowed Tryz.prog=true:=by kernel_rfl
def VN:(Rows.replicaLastsRow.inPlace==Tryz.prog.inPlace 4)=true:=by kernel_rfl
def US:(Rows.replicaLastsRow.unfollowed==Tryz.prog.unfollowed 4)=true:=by kernel_rfl
def UT:(Rows.replicaLastsRow.recurses==Tryz.prog.recurses 4)=true:=by kernel_rfl
def UU:(Rows.replicaLastsRow.named==Tryz.prog.varsNamed 4)=true:=by kernel_rfl
def UW:(Rows.replicaLastsRow.loops==(Tryz.f4.params.toList++Rows.replicaLastsSpec.plain.varTypes Tryz.prog).any (Tryz.prog.loopsFrom ·))=true:=by kernel_rfl
def UX:(Tryz.prog.stopsHeard)=true:=by kernel_rfl
def UY:(Tryz.prog.mayEnter)=true:=by kernel_rfl

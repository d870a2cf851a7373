import Derived.Test.YtblabbpipmodgaaGreatDoorRows
import Derived.JoinedOf
set_option linter.all false
set_option maxRecDepth 100000
namespace Go.Proofs.YtblabbpipmodgaaGreatDoor.bL
def Vo:laidOutB Tryz.prog=true:=by kernel_rfl
def Vp:mapsRowed Tryz.prog=true:=by kernel_rfl
def Vq:(Rows.replicaKeysRow.inPlace==Tryz.prog.inPlace 6)=true:=by kernel_rfl
def Uy:(Rows.replicaKeysRow.unfollowed==Tryz.prog.unfollowed 6)=true:=by kernel_rfl
def Uz:(Rows.replicaKeysRow.recurses==Tryz.prog.recurses 6)=true:=by kernel_rfl
def UA:(Rows.replicaKeysRow.named==Tryz.prog.varsNamed 6)=true:=by kernel_rfl
def UB:(Rows.replicaKeysRow.loops==(Tryz.f6.params.toList++Rows.replicaKeysSpec.plain.varTypes Tryz.prog).any (Tryz.prog.loopsFrom ·))=true:=by kernel_rfl
def UC:(Tryz.prog.stopsHeard)=true:=by kernel_rfl
def UD:(Tryz.prog.mayEnter)=true:=by kernel_rfl

import Derived.Test.YtblabbpipmodgaaGreatDoorRows
import Derived.JoinedOf
set_option linter.all false
set_option maxRecDepth 100000
namespace Go.Proofs.YtblabbpipmodgaaGreatDoor.bG
def Wu:laidOutB Tryz.prog=true:=by kernel_rfl
def Wv:mapsRowed Tryz.prog=true:=by kernel_rfl
def Ww:(Rows.replicaReadsRow.inPlace==Tryz.prog.inPlace 5)=true:=by kernel_rfl
def VC:(Rows.replicaReadsRow.unfollowed==Tryz.prog.unfollowed 5)=true:=by kernel_rfl
def VD:(Rows.replicaReadsRow.recurses==Tryz.prog.recurses 5)=true:=by kernel_rfl
def VE:(Rows.replicaReadsRow.named==Tryz.prog.varsNamed 5)=true:=by kernel_rfl
def VF:(Rows.replicaReadsRow.loops==(Tryz.f5.params.toList++Rows.replicaReadsSpec.plain.varTypes Tryz.prog).any (Tryz.prog.loopsFrom ·))=true:=by kernel_rfl
def VG:(Tryz.prog.stopsHeard)=true:=by kernel_rfl
def VH:(Tryz.prog.mayEnter)=true:=by kernel_rfl

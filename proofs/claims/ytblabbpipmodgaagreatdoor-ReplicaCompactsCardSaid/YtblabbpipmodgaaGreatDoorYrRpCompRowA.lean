import Derived.Test.YtblabbpipmodgaaGreatDoorRows
import Derived.JoinedOf
set_option linter.all false
set_option maxRecDepth 100000
namespace Go.Proofs.YtblabbpipmodgaaGreatDoor.bh
def XL:laidOutB Tryz.prog=true:=by kernel_rfl
def XM:mapsRowed Tryz.prog=true:=by kernel_rfl
def XN:(Rows.replicaCompactsRow.inPlace==Tryz.prog.inPlace 7)=true:=by kernel_rfl
def WJ:(Rows.replicaCompactsRow.unfollowed==Tryz.prog.unfollowed 7)=true:=by kernel_rfl
def WK:(Rows.replicaCompactsRow.recurses==Tryz.prog.recurses 7)=true:=by kernel_rfl
def WL:(Rows.replicaCompactsRow.named==Tryz.prog.varsNamed 7)=true:=by kernel_rfl
def WM:(Rows.replicaCompactsRow.loops==(Tryz.f7.params.toList++Rows.replicaCompactsSpec.plain.varTypes Tryz.prog).any (Tryz.prog.loopsFrom ·))=true:=by kernel_rfl
def WN:(Tryz.prog.stopsHeard)=true:=by kernel_rfl
def WO:(Tryz.prog.mayEnter)=true:=by kernel_rfl

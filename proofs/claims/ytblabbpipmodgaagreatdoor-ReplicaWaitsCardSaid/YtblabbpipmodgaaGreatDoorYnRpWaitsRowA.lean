import Derived.Test.YtblabbpipmodgaaGreatDoorRows
import Derived.JoinedOf
set_option linter.all false
set_option maxRecDepth 100000
namespace Go.Proofs.YtblabbpipmodgaaGreatDoor.bt
def Ug:laidOutB Tryz.prog=true:=by kernel_rfl
def Uh:mapsRowed Tryz.prog=true:=by kernel_rfl
def Ui:(Rows.replicaWaitsRow.inPlace==Tryz.prog.inPlace 3)=true:=by kernel_rfl
def Tk:(Rows.replicaWaitsRow.unfollowed==Tryz.prog.unfollowed 3)=true:=by kernel_rfl
def Tl:(Rows.replicaWaitsRow.recurses==Tryz.prog.recurses 3)=true:=by kernel_rfl
def Tm:(Rows.replicaWaitsRow.named==Tryz.prog.varsNamed 3)=true:=by kernel_rfl
def Tn:(Rows.replicaWaitsRow.loops==(Tryz.f3.params.toList++Rows.replicaWaitsSpec.plain.varTypes Tryz.prog).any (Tryz.prog.loopsFrom ·))=true:=by kernel_rfl
def To:(Tryz.prog.stopsHeard)=true:=by kernel_rfl
def Tp:(Tryz.prog.mayEnter)=true:=by kernel_rfl

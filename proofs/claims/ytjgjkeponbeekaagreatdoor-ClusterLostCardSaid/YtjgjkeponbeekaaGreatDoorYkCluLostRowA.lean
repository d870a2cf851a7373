import Derived.Test.YtjgjkeponbeekaaGreatDoorRows
import Derived.JoinedOf
set_option linter.all false
set_option maxRecDepth 100000
namespace Go.Proofs.YtjgjkeponbeekaaGreatDoor.cg
def Zf:laidOutB Tryz.prog=true:=by kernel_rfl
def Zg:mapsRowed Tryz.prog=true:=by kernel_rfl
def Zh:(Rows.clusterLostRow.inPlace==Tryz.prog.inPlace 5)=true:=by kernel_rfl
def Ye:(Rows.clusterLostRow.unfollowed==Tryz.prog.unfollowed 5)=true:=by kernel_rfl
def Yf:(Rows.clusterLostRow.recurses==Tryz.prog.recurses 5)=true:=by kernel_rfl
def Yg:(Rows.clusterLostRow.named==Tryz.prog.varsNamed 5)=true:=by kernel_rfl
def Yh:(Rows.clusterLostRow.loops==(Tryz.f5.params.toList++Rows.clusterLostSpec.plain.varTypes Tryz.prog).any (Tryz.prog.loopsFrom ·))=true:=by kernel_rfl
def Yi:(Tryz.prog.stopsHeard)=true:=by kernel_rfl
def Yj:(Tryz.prog.mayEnter)=true:=by kernel_rfl

import Derived.Test.YtjgjkeponbeekaaGreatDoorRows
import Derived.JoinedOf
set_option linter.all false
set_option maxRecDepth 100000
namespace Go.Proofs.YtjgjkeponbeekaaGreatDoor.cg
def ZA:laidOutB Tryz.prog=true:=by kernel_rfl
def ZB:mapsRowed Tryz.prog=true:=by kernel_rfl
def ZC:(Rows.clusterLostRow.inPlace==Tryz.prog.inPlace 5)=true:=by kernel_rfl
def Yq:(Rows.clusterLostRow.unfollowed==Tryz.prog.unfollowed 5)=true:=by kernel_rfl
def Yr:(Rows.clusterLostRow.recurses==Tryz.prog.recurses 5)=true:=by kernel_rfl
def Ys:(Rows.clusterLostRow.named==Tryz.prog.varsNamed 5)=true:=by kernel_rfl
def Yt:(Rows.clusterLostRow.loops==(Tryz.f5.params.toList++Rows.clusterLostSpec.plain.varTypes Tryz.prog).any (Tryz.prog.loopsFrom ·))=true:=by kernel_rfl
def Yu:(Tryz.prog.stopsHeard)=true:=by kernel_rfl
def Yv:(Tryz.prog.mayEnter)=true:=by kernel_rfl

import Derived.Test.YtjgjkeponbeekaaGreatDoorRows
import Derived.JoinedOf
set_option linter.all false
set_option maxRecDepth 100000
namespace Go.Proofs.YtjgjkeponbeekaaGreatDoor.cF
def Yd:laidOutB Tryz.prog=true:=by kernel_rfl
def Ye:mapsRowed Tryz.prog=true:=by kernel_rfl
def Yf:(Rows.clusterIsRow.inPlace==Tryz.prog.inPlace 6)=true:=by kernel_rfl
def WN:(Rows.clusterIsRow.unfollowed==Tryz.prog.unfollowed 6)=true:=by kernel_rfl
def WO:(Rows.clusterIsRow.recurses==Tryz.prog.recurses 6)=true:=by kernel_rfl
def WQ:(Rows.clusterIsRow.named==Tryz.prog.varsNamed 6)=true:=by kernel_rfl
def WR:(Rows.clusterIsRow.loops==(Tryz.f6.params.toList++Rows.clusterIsSpec.plain.varTypes Tryz.prog).any (Tryz.prog.loopsFrom ·))=true:=by kernel_rfl
def WS:(Tryz.prog.stopsHeard)=true:=by kernel_rfl
def WT:(Tryz.prog.mayEnter)=true:=by kernel_rfl

import Derived.Test.YtjgjkeponbeekaaGreatDoorRows
import Derived.JoinedOf
set_option linter.all false
set_option maxRecDepth 100000
namespace Go.Proofs.YtjgjkeponbeekaaGreatDoor.bz
def WQ:laidOutB Tryz.prog=true:=by kernel_rfl
def WR:mapsRowed Tryz.prog=true:=by kernel_rfl
def WS:(Rows.clusterReadsRow.inPlace==Tryz.prog.inPlace 4)=true:=by kernel_rfl
def VN:(Rows.clusterReadsRow.unfollowed==Tryz.prog.unfollowed 4)=true:=by kernel_rfl
def VO:(Rows.clusterReadsRow.recurses==Tryz.prog.recurses 4)=true:=by kernel_rfl
def VP:(Rows.clusterReadsRow.named==Tryz.prog.varsNamed 4)=true:=by kernel_rfl
def VQ:(Rows.clusterReadsRow.loops==(Tryz.f4.params.toList++Rows.clusterReadsSpec.plain.varTypes Tryz.prog).any (Tryz.prog.loopsFrom ·))=true:=by kernel_rfl
def VR:(Tryz.prog.stopsHeard)=true:=by kernel_rfl
def VS:(Tryz.prog.mayEnter)=true:=by kernel_rfl

import Derived.Test.YtjgjkeponbeekaaGreatDoorRows
import Derived.JoinedOf
set_option linter.all false
set_option maxRecDepth 100000
namespace Go.Proofs.YtjgjkeponbeekaaGreatDoor.bR
def jf1:laidOutB Tryz.prog=true:=by kernel_rfl
def jf2:mapsRowed Tryz.prog=true:=by kernel_rfl
def jf9:(Rows.clusterTellsRow.inPlace==Tryz.prog.inPlace 3)=true:=by kernel_rfl
def Zc:(Rows.clusterTellsRow.unfollowed==Tryz.prog.unfollowed 3)=true:=by kernel_rfl
def Zd:(Rows.clusterTellsRow.recurses==Tryz.prog.recurses 3)=true:=by kernel_rfl
def Ze:(Rows.clusterTellsRow.named==Tryz.prog.varsNamed 3)=true:=by kernel_rfl
def Zf:(Rows.clusterTellsRow.loops==(Tryz.f3.params.toList++Rows.clusterTellsSpec.plain.varTypes Tryz.prog).any (Tryz.prog.loopsFrom ·))=true:=by kernel_rfl
def Zg:(Tryz.prog.stopsHeard)=true:=by kernel_rfl
def Zh:(Tryz.prog.mayEnter)=true:=by kernel_rfl

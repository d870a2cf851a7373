import Derived.Test.YtjgjkeponbeekaaGreatDoorRows
import Derived.JoinedOf
set_option linter.all false
set_option maxRecDepth 100000
namespace Go.Proofs.YtjgjkeponbeekaaGreatDoor.bB
def Xc:laidOutB Tryz.prog=true:=by kernel_rfl
def Xd:mapsRowed Tryz.prog=true:=by kernel_rfl
def Xe:(Rows.clusterReadsRow.inPlace==Tryz.prog.inPlace 4)=true:=by kernel_rfl
def VZ:(Rows.clusterReadsRow.unfollowed==Tryz.prog.unfollowed 4)=true:=by kernel_rfl
def V_:(Rows.clusterReadsRow.recurses==Tryz.prog.recurses 4)=true:=by kernel_rfl
def Wa:(Rows.clusterReadsRow.named==Tryz.prog.varsNamed 4)=true:=by kernel_rfl
def Wb:(Rows.clusterReadsRow.loops==(Tryz.f4.params.toList++Rows.clusterReadsSpec.plain.varTypes Tryz.prog).any (Tryz.prog.loopsFrom ·))=true:=by kernel_rfl
def Wc:(Tryz.prog.stopsHeard)=true:=by kernel_rfl
def Wd:(Tryz.prog.mayEnter)=true:=by kernel_rfl
end Go.Proofs.YtjgjkeponbeekaaGreatDoor.bB

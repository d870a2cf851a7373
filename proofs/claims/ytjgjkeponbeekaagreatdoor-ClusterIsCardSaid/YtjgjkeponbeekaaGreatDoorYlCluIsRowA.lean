import Derived.Test.YtjgjkeponbeekaaGreatDoorRows
import Derived.JoinedOf
set_option linter.all false
set_option maxRecDepth 100000
namespace Go.Proofs.YtjgjkeponbeekaaGreatDoor.cF
def XE:laidOutB Tryz.prog=true:=by kernel_rfl
def XF:mapsRowed Tryz.prog=true:=by kernel_rfl
def XG:(Rows.clusterIsRow.inPlace==Tryz.prog.inPlace 6)=true:=by kernel_rfl
def Wu:(Rows.clusterIsRow.unfollowed==Tryz.prog.unfollowed 6)=true:=by kernel_rfl
def Wv:(Rows.clusterIsRow.recurses==Tryz.prog.recurses 6)=true:=by kernel_rfl
def Ww:(Rows.clusterIsRow.named==Tryz.prog.varsNamed 6)=true:=by kernel_rfl
def Wx:(Rows.clusterIsRow.loops==(Tryz.f6.params.toList++Rows.clusterIsSpec.plain.varTypes Tryz.prog).any (Tryz.prog.loopsFrom ·))=true:=by kernel_rfl
def Wy:(Tryz.prog.stopsHeard)=true:=by kernel_rfl
def Wz:(Tryz.prog.mayEnter)=true:=by kernel_rfl

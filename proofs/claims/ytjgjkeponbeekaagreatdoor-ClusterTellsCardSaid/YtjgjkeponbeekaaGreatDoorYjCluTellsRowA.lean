import Derived.Test.YtjgjkeponbeekaaGreatDoorRows
import Derived.JoinedOf
set_option linter.all false
set_option maxRecDepth 100000
namespace Go.Proofs.YtjgjkeponbeekaaGreatDoor.bP
def jf1:laidOutB Tryz.prog=true:=by kernel_rfl
def jf2:mapsRowed Tryz.prog=true:=by kernel_rfl
def jf9:(Rows.clusterTellsRow.inPlace==Tryz.prog.inPlace 3)=true:=by kernel_rfl
def YR:(Rows.clusterTellsRow.unfollowed==Tryz.prog.unfollowed 3)=true:=by kernel_rfl
def YS:(Rows.clusterTellsRow.recurses==Tryz.prog.recurses 3)=true:=by kernel_rfl
def YT:(Rows.clusterTellsRow.named==Tryz.prog.varsNamed 3)=true:=by kernel_rfl
def YU:(Rows.clusterTellsRow.loops==(Tryz.f3.params.toList++Rows.clusterTellsSpec.plain.varTypes Tryz.prog).any (Tryz.prog.loopsFrom ·))=true:=by kernel_rfl
def YV:(Tryz.prog.stopsHeard)=true:=by kernel_rfl
def YW:(Tryz.prog.mayEnter)=true:=by kernel_rfl

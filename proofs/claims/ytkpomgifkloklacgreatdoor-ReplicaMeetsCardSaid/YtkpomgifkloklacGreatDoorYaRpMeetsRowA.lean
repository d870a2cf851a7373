import Derived.Test.YtkpomgifkloklacGreatDoorRows
import Derived.JoinedOf
set_option linter.all false
set_option maxRecDepth 100000
namespace Go.Proofs.YtkpomgifkloklacGreatDoor.bD
def UE:laidOutB Tryz.prog=true:=by kernel_rfl
def UF:mapsRowed Tryz.prog=true:=by kernel_rfl
def UG:(Rows.replicaMeetsRow.inPlace==Tryz.prog.inPlace 3)=true:=by kernel_rfl
def TL:(Rows.replicaMeetsRow.unfollowed==Tryz.prog.unfollowed 3)=true:=by kernel_rfl
def TM:(Rows.replicaMeetsRow.recurses==Tryz.prog.recurses 3)=true:=by kernel_rfl
def TN:(Rows.replicaMeetsRow.named==Tryz.prog.varsNamed 3)=true:=by kernel_rfl
def TO:(Rows.replicaMeetsRow.loops==(Tryz.f3.params.toList++Rows.replicaMeetsSpec.plain.varTypes Tryz.prog).any (Tryz.prog.loopsFrom ·))=true:=by kernel_rfl
def TP:(Tryz.prog.stopsHeard)=true:=by kernel_rfl
def TQ:(Tryz.prog.mayEnter)=true:=by kernel_rfl

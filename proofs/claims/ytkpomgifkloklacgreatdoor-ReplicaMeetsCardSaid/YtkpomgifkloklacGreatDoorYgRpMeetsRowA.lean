import Derived.Test.YtkpomgifkloklacGreatDoorRows
import Derived.JoinedOf
set_option linter.all false
set_option maxRecDepth 100000
namespace Go.Proofs.YtkpomgifkloklacGreatDoor.bC
def UD:laidOutB Tryz.prog=true:=by kernel_rfl
def UE:mapsRowed Tryz.prog=true:=by kernel_rfl
def UF:(Rows.replicaMeetsRow.inPlace==Tryz.prog.inPlace 3)=true:=by kernel_rfl
def TK:(Rows.replicaMeetsRow.unfollowed==Tryz.prog.unfollowed 3)=true:=by kernel_rfl
def TL:(Rows.replicaMeetsRow.recurses==Tryz.prog.recurses 3)=true:=by kernel_rfl
def TM:(Rows.replicaMeetsRow.named==Tryz.prog.varsNamed 3)=true:=by kernel_rfl
def TN:(Rows.replicaMeetsRow.loops==(Tryz.f3.params.toList++Rows.replicaMeetsSpec.plain.varTypes Tryz.prog).any (Tryz.prog.loopsFrom ·))=true:=by kernel_rfl
def TO:(Tryz.prog.stopsHeard)=true:=by kernel_rfl
def TP:(Tryz.prog.mayEnter)=true:=by kernel_rfl

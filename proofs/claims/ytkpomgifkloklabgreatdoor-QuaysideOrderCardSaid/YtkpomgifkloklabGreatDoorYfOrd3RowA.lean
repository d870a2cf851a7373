import Derived.Test.YtkpomgifkloklabGreatDoorRows
import Derived.JoinedOf
set_option linter.all false
set_option maxRecDepth 100000
namespace Go.Proofs.YtkpomgifkloklabGreatDoor.bC
def jf1:laidOutB Tryz.prog=true:=by kernel_rfl
def jf2:mapsRowed Tryz.prog=true:=by kernel_rfl
def jf9:(Rows.quaysideOrderRow.inPlace==Tryz.prog.inPlace 3)=true:=by kernel_rfl
def Zl:(Rows.quaysideOrderRow.unfollowed==Tryz.prog.unfollowed 3)=true:=by kernel_rfl
def Zm:(Rows.quaysideOrderRow.recurses==Tryz.prog.recurses 3)=true:=by kernel_rfl
def Zn:(Rows.quaysideOrderRow.named==Tryz.prog.varsNamed 3)=true:=by kernel_rfl
def Zo:(Rows.quaysideOrderRow.loops==(Tryz.f3.params.toList++Rows.quaysideOrderSpec.plain.varTypes Tryz.prog).any (Tryz.prog.loopsFrom ·))=true:=by kernel_rfl
def Zp:(Tryz.prog.stopsHeard)=true:=by kernel_rfl
def Zr:(Tryz.prog.mayEnter)=true:=by kernel_rfl

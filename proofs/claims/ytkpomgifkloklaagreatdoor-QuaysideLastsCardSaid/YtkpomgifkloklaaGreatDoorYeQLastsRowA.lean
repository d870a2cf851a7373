import Derived.Test.YtkpomgifkloklaaGreatDoorRows
import Derived.JoinedOf
set_option linter.all false
set_option maxRecDepth 100000
namespace Go.Proofs.YtkpomgifkloklaaGreatDoor.bH
def jf1:laidOutB Tryz.prog=true:=by kernel_rfl
def jf2:mapsRowed Tryz.prog=true:=by kernel_rfl
def jf9:(Rows.quaysideLastsRow.inPlace==Tryz.prog.inPlace 3)=true:=by kernel_rfl
def aac:(Rows.quaysideLastsRow.unfollowed==Tryz.prog.unfollowed 3)=true:=by kernel_rfl
def aad:(Rows.quaysideLastsRow.recurses==Tryz.prog.recurses 3)=true:=by kernel_rfl
def aae:(Rows.quaysideLastsRow.named==Tryz.prog.varsNamed 3)=true:=by kernel_rfl
def aaf:(Rows.quaysideLastsRow.loops==(Tryz.f3.params.toList++Rows.quaysideLastsSpec.plain.varTypes Tryz.prog).any (Tryz.prog.loopsFrom ·))=true:=by kernel_rfl
def aag:(Tryz.prog.stopsHeard)=true:=by kernel_rfl
def aah:(Tryz.prog.mayEnter)=true:=by kernel_rfl

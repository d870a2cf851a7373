import Derived.Test.YtfchlbaidamodaaGreatDoorRows
import Derived.JoinedOf
set_option linter.all false
set_option maxRecDepth 100000
namespace Go.Proofs.YtfchlbaidamodaaGreatDoor.bq
def Wz:laidOutB Tryz.prog=true:=by kernel_rfl
def WA:mapsRowed Tryz.prog=true:=by kernel_rfl
def WB:(Rows.replicaCompactsRow.inPlace==Tryz.prog.inPlace 7)=true:=by kernel_rfl
def Na:(Rows.replicaCompactsRow.unfollowed==Tryz.prog.unfollowed 7)=true:=by kernel_rfl
def Nb:(Rows.replicaCompactsRow.recurses==Tryz.prog.recurses 7)=true:=by kernel_rfl
def Nc:(Rows.replicaCompactsRow.named==Tryz.prog.varsNamed 7)=true:=by kernel_rfl
def Nd:(Rows.replicaCompactsRow.loops==(Tryz.f7.params.toList++Rows.replicaCompactsSpec.plain.varTypes Tryz.prog).any (Tryz.prog.loopsFrom ·))=true:=by kernel_rfl
def Nf:(Tryz.prog.stopsHeard)=true:=by kernel_rfl
def Ng:(Tryz.prog.mayEnter)=true:=by kernel_rfl
end Go.Proofs.YtfchlbaidamodaaGreatDoor.bq

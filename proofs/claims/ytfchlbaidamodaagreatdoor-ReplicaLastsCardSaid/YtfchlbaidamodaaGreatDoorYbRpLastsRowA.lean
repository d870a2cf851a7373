import Derived.Test.YtfchlbaidamodaaGreatDoorRows
import Derived.JoinedOf
set_option linter.all false
set_option maxRecDepth 100000
namespace Go.Proofs.YtfchlbaidamodaaGreatDoor.bX
theorem Wz:laidOutB Tryz.prog=true:=by kernel_rfl
theorem WA:mapsRowed Tryz.prog=true:=by kernel_rfl
theorem WB:(Rows.replicaLastsRow.inPlace==Tryz.prog.inPlace 5)=true:=by kernel_rfl
theorem Na:(Rows.replicaLastsRow.unfollowed==Tryz.prog.unfollowed 5)=true:=by kernel_rfl
theorem Nb:(Rows.replicaLastsRow.recurses==Tryz.prog.recurses 5)=true:=by kernel_rfl
theorem Nc:(Rows.replicaLastsRow.named==Tryz.prog.varsNamed 5)=true:=by kernel_rfl
theorem Nd:(Rows.replicaLastsRow.loops==(Tryz.f5.params.toList++Rows.replicaLastsSpec.plain.varTypes Tryz.prog).any (Tryz.prog.loopsFrom ·))=true:=by kernel_rfl
theorem Nf:(Tryz.prog.stopsHeard)=true:=by kernel_rfl
theorem Ng:(Tryz.prog.mayEnter)=true:=by kernel_rfl
end Go.Proofs.YtfchlbaidamodaaGreatDoor.bX

import Derived.Test.YtfchlbaidamodaaGreatDoorRows
import Derived.JoinedOf
set_option linter.all false
set_option maxRecDepth 100000
namespace Go.Proofs.YtfchlbaidamodaaGreatDoor.bY
theorem Wz:laidOutB Tryz.prog=true:=by kernel_rfl
theorem WA:mapsRowed Tryz.prog=true:=by kernel_rfl
theorem WB:(Rows.replicaReadsRow.inPlace==Tryz.prog.inPlace 6)=true:=by kernel_rfl
theorem Na:(Rows.replicaReadsRow.unfollowed==Tryz.prog.unfollowed 6)=true:=by kernel_rfl
theorem Nb:(Rows.replicaReadsRow.recurses==Tryz.prog.recurses 6)=true:=by kernel_rfl
theorem Nc:(Rows.replicaReadsRow.named==Tryz.prog.varsNamed 6)=true:=by kernel_rfl
theorem Nd:(Rows.replicaReadsRow.loops==(Tryz.f6.params.toList++Rows.replicaReadsSpec.plain.varTypes Tryz.prog).any (Tryz.prog.loopsFrom ·))=true:=by kernel_rfl
theorem Nf:(Tryz.prog.stopsHeard)=true:=by kernel_rfl
theorem Ng:(Tryz.prog.mayEnter)=true:=by kernel_rfl
end Go.Proofs.YtfchlbaidamodaaGreatDoor.bY

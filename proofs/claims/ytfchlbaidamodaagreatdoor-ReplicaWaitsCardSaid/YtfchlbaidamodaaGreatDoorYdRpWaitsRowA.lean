import Derived.Test.YtfchlbaidamodaaGreatDoorRows
import Derived.JoinedOf
set_option linter.all false
set_option maxRecDepth 100000
namespace Go.Proofs.YtfchlbaidamodaaGreatDoor.bZ
theorem Wz:laidOutB Tryz.prog=true:=by kernel_rfl
theorem WA:mapsRowed Tryz.prog=true:=by kernel_rfl
theorem WB:(Rows.replicaWaitsRow.inPlace==Tryz.prog.inPlace 4)=true:=by kernel_rfl
theorem Na:(Rows.replicaWaitsRow.unfollowed==Tryz.prog.unfollowed 4)=true:=by kernel_rfl
theorem Nb:(Rows.replicaWaitsRow.recurses==Tryz.prog.recurses 4)=true:=by kernel_rfl
theorem Nc:(Rows.replicaWaitsRow.named==Tryz.prog.varsNamed 4)=true:=by kernel_rfl
theorem Nd:(Rows.replicaWaitsRow.loops==(Tryz.f4.params.toList++Rows.replicaWaitsSpec.plain.varTypes Tryz.prog).any (Tryz.prog.loopsFrom ·))=true:=by kernel_rfl
theorem Nf:(Tryz.prog.stopsHeard)=true:=by kernel_rfl
theorem Ng:(Tryz.prog.mayEnter)=true:=by kernel_rfl
end Go.Proofs.YtfchlbaidamodaaGreatDoor.bZ

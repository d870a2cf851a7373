import Derived.Test.YtfchlbaidamodaaGreatDoorYdRpWaitsRowA
import Derived.Test.YtfchlbaidamodaaGreatDoorCards
set_option linter.all false
set_option maxRecDepth 100000
namespace Go.Proofs.YtfchlbaidamodaaGreatDoor.bZ
theorem tt {a b:Bool} (c:a=true) (d:b=true):(a&&b)=true:=by rw [c,d];rfl
theorem WC:(Rows.replicaWaitsRow).wf (OpenSpec.ofChange Rows.replicaWaitsSpec)=true:=by kernel_rfl
theorem WD:(Tryz.f4.params.all (Tryz.prog.readableRec ·))=true:=by kernel_rfl
theorem WE:namedTie Tryz.prog Rows.replicaWaitsRow.named Rows.replicaWaitsSpec.vars=true:=by kernel_rfl
theorem WG:(Rows.replicaWaitsRow.stops==[])=true:=by kernel_rfl
theorem WH:(Tryz.prog.stops==[])=true:=by kernel_rfl
theorem WI:(Rows.replicaWaitsRow.knobs==[])=true:=by kernel_rfl
theorem WJ:(Tryz.prog.stopKnobs==[])=true:=by kernel_rfl
theorem Nh:(Rows.replicaWaitsRow.maps==(Tryz.f4.params.toList++Rows.replicaWaitsSpec.plain.varTypes Tryz.prog).any (Tryz.prog.mapsRec ·))=true:=by kernel_rfl
theorem Ni:(Rows.replicaWaitsRow.ifaces==(Tryz.f4.params.toList++Rows.replicaWaitsSpec.plain.varTypes Tryz.prog).any (Tryz.prog.ifacesRec ·))=true:=by kernel_rfl
theorem Nj:(Rows.replicaWaitsRow.mapsOut==Tryz.prog.mapsAmong Tryz.f4.resultTypes.toList)=true:=by kernel_rfl
theorem Nk:(Rows.replicaWaitsRow.wideKeys==(Tryz.f4.params.toList++Rows.replicaWaitsSpec.plain.varTypes Tryz.prog++Tryz.f4.resultTypes.toList).any (Tryz.prog.wideKeysFrom ·))=true:=by kernel_rfl
theorem Nl:(Rows.replicaWaitsSpec.vars.all (Tryz.prog.varReadable ·))=true:=by kernel_rfl
theorem Nn:(Tryz.f4.resultTypes.all (λa=>Tryz.prog.readableRec a&&decide (a<Tryz.prog.types.size)))=true:=by kernel_rfl
theorem No:(Rows.replicaWaitsRow.ifacesOut==Tryz.f4.resultTypes.toList.any (Tryz.prog.ifacesRec ·))=true:=by kernel_rfl
theorem Np:(Rows.replicaWaitsRow.loopsOut==Tryz.f4.resultTypes.toList.any (Tryz.prog.loopsFrom ·))=true:=by kernel_rfl
theorem Nq:(Rows.replicaWaitsRow.plainKeys==Tryz.prog.plainKeys)=true:=by kernel_rfl
theorem Nr:(Rows.replicaWaitsRow.shortTexts.isNone)=true:=by kernel_rfl
theorem Ns:(Rows.replicaWaitsRow.lifted==Tryz.prog.liftsFinal)=true:=by kernel_rfl
theorem Nt:(Tryz.prog.make==some Rows.replicaWaitsRow.make)=true:=by kernel_rfl
theorem Nu:(Rows.replicaWaitsRow.kinds==(if Rows.replicaWaitsRow.domain.isEmpty then []else Tryz.f4.params.toList.map λa=>match Tryz.prog.underlying a with|some (.int b)=>some b|_=>none))=true:=by kernel_rfl
theorem Nv:(Rows.replicaWaitsRow.pinned==Rows.replicaWaitsRow.pinnedBy)=true:=by kernel_rfl
theorem Nw:(Rows.replicaWaitsRow.veiled==(Tryz.f4.params.toList++Rows.replicaWaitsSpec.plain.varTypes Tryz.prog++Tryz.f4.resultTypes.toList).any (Tryz.prog.veiledRec ·))=true:=by kernel_rfl
theorem Nx:(Rows.replicaWaitsRow.veiledFits Tryz.prog Tryz.f4.params.toList (Tryz.f4.params.toList++Rows.replicaWaitsSpec.plain.varTypes Tryz.prog++Tryz.f4.resultTypes.toList))=true:=by kernel_rfl
theorem facts:joinedFacts Tryz.prog 4 Tryz.f4 Rows.replicaWaitsSpec Rows.replicaWaitsRow=true:=by
 unfold joinedFacts;exact tt (tt (tt (tt (tt (tt (tt (tt (tt (tt (tt (tt (tt (tt (tt (tt (tt (tt (tt (tt (tt (tt (tt (tt (tt (tt (tt (tt (tt (tt (tt WC Wz) WA) WD) WE) WG) WH) WI) WJ) WB) Na) Nb) Nc) Nh) Ni) Nj) Nd) Nk) Nl) Nn) No) Np) Nq) Nr) Nf) Ng) Ns) Nt) Nu) Nv) Nw) Nx
theorem inst:Tryz.f4.isInstance Tryz.prog Rows.replicaWaitsRow.origin Rows.replicaWaitsRow.targs:=of_decide_eq_true (by kernel_rfl)
theorem wrapper:Tryz.f4.isWrapper Tryz.prog Rows.replicaWaitsRow.wrapper Rows.replicaWaitsRow.mainSum:=by unfold Func.isWrapper;first|(rw [if_pos (by decide+kernel)];kernel_rfl)|(rw [if_neg (by decide+kernel)];exact⟨rfl,rfl⟩)
theorem named:Tryz.prog.funcNamed Rows.replicaWaitsRow.func=some 4:=by kernel_rfl
theorem looks:Rows.replicaWaitsCard.stood.looks=Tryz.prog.looks []:=by kernel_rfl
theorem pA:(Tryz.f4.params.toList.all λa=>!Tryz.prog.wantsStandIn a)=true:=by kernel_rfl
theorem text:(Rows.replicaWaitsRow).wfByText (OpenSpec.ofChange Rows.replicaWaitsSpec)=true:=by kernel_rfl
theorem goes:false=(Rows.replicaWaitsRow).goesBy Tryz.prog:=by kernel_rfl
theorem mainIs:Tryz.prog.mainIs=some (Rows.replicaWaitsCard.stood.harness.1,Rows.replicaWaitsCard.stood.harness.2.toList):=by kernel_rfl
end Go.Proofs.YtfchlbaidamodaaGreatDoor.bZ

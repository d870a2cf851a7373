import Derived.Test.YtfchlbaidamodaaGreatDoorYaRpReadsRowA
import Derived.Test.YtfchlbaidamodaaGreatDoorCards
set_option linter.all false
set_option maxRecDepth 100000
namespace Go.Proofs.YtfchlbaidamodaaGreatDoor.bY
theorem tt {a b:Bool} (c:a=true) (d:b=true):(a&&b)=true:=by rw [c,d];rfl
theorem WC:(Rows.replicaReadsRow).wf (OpenSpec.ofChange Rows.replicaReadsSpec)=true:=by kernel_rfl
theorem WD:(Tryz.f6.params.all (Tryz.prog.readableRec ·))=true:=by kernel_rfl
theorem WE:namedTie Tryz.prog Rows.replicaReadsRow.named Rows.replicaReadsSpec.vars=true:=by kernel_rfl
theorem WG:(Rows.replicaReadsRow.stops==[])=true:=by kernel_rfl
theorem WH:(Tryz.prog.stops==[])=true:=by kernel_rfl
theorem WI:(Rows.replicaReadsRow.knobs==[])=true:=by kernel_rfl
theorem WJ:(Tryz.prog.stopKnobs==[])=true:=by kernel_rfl
theorem Nh:(Rows.replicaReadsRow.maps==(Tryz.f6.params.toList++Rows.replicaReadsSpec.plain.varTypes Tryz.prog).any (Tryz.prog.mapsRec ·))=true:=by kernel_rfl
theorem Ni:(Rows.replicaReadsRow.ifaces==(Tryz.f6.params.toList++Rows.replicaReadsSpec.plain.varTypes Tryz.prog).any (Tryz.prog.ifacesRec ·))=true:=by kernel_rfl
theorem Nj:(Rows.replicaReadsRow.mapsOut==Tryz.prog.mapsAmong Tryz.f6.resultTypes.toList)=true:=by kernel_rfl
theorem Nk:(Rows.replicaReadsRow.wideKeys==(Tryz.f6.params.toList++Rows.replicaReadsSpec.plain.varTypes Tryz.prog++Tryz.f6.resultTypes.toList).any (Tryz.prog.wideKeysFrom ·))=true:=by kernel_rfl
theorem Nl:(Rows.replicaReadsSpec.vars.all (Tryz.prog.varReadable ·))=true:=by kernel_rfl
theorem Nn:(Tryz.f6.resultTypes.all (λa=>Tryz.prog.readableRec a&&decide (a<Tryz.prog.types.size)))=true:=by kernel_rfl
theorem No:(Rows.replicaReadsRow.ifacesOut==Tryz.f6.resultTypes.toList.any (Tryz.prog.ifacesRec ·))=true:=by kernel_rfl
theorem Np:(Rows.replicaReadsRow.loopsOut==Tryz.f6.resultTypes.toList.any (Tryz.prog.loopsFrom ·))=true:=by kernel_rfl
theorem Nq:(Rows.replicaReadsRow.plainKeys==Tryz.prog.plainKeys)=true:=by kernel_rfl
theorem Nr:(Rows.replicaReadsRow.shortTexts.isNone)=true:=by kernel_rfl
theorem Ns:(Rows.replicaReadsRow.lifted==Tryz.prog.liftsFinal)=true:=by kernel_rfl
theorem Nt:(Tryz.prog.make==some Rows.replicaReadsRow.make)=true:=by kernel_rfl
theorem Nu:(Rows.replicaReadsRow.kinds==(if Rows.replicaReadsRow.domain.isEmpty then []else Tryz.f6.params.toList.map λa=>match Tryz.prog.underlying a with|some (.int b)=>some b|_=>none))=true:=by kernel_rfl
theorem Nv:(Rows.replicaReadsRow.pinned==Rows.replicaReadsRow.pinnedBy)=true:=by kernel_rfl
theorem Nw:(Rows.replicaReadsRow.veiled==(Tryz.f6.params.toList++Rows.replicaReadsSpec.plain.varTypes Tryz.prog++Tryz.f6.resultTypes.toList).any (Tryz.prog.veiledRec ·))=true:=by kernel_rfl
theorem Nx:(Rows.replicaReadsRow.veiledFits Tryz.prog Tryz.f6.params.toList (Tryz.f6.params.toList++Rows.replicaReadsSpec.plain.varTypes Tryz.prog++Tryz.f6.resultTypes.toList))=true:=by kernel_rfl
theorem facts:joinedFacts Tryz.prog 6 Tryz.f6 Rows.replicaReadsSpec Rows.replicaReadsRow=true:=by
 unfold joinedFacts;exact tt (tt (tt (tt (tt (tt (tt (tt (tt (tt (tt (tt (tt (tt (tt (tt (tt (tt (tt (tt (tt (tt (tt (tt (tt (tt (tt (tt (tt (tt (tt WC Wz) WA) WD) WE) WG) WH) WI) WJ) WB) Na) Nb) Nc) Nh) Ni) Nj) Nd) Nk) Nl) Nn) No) Np) Nq) Nr) Nf) Ng) Ns) Nt) Nu) Nv) Nw) Nx
theorem inst:Tryz.f6.isInstance Tryz.prog Rows.replicaReadsRow.origin Rows.replicaReadsRow.targs:=of_decide_eq_true (by kernel_rfl)
theorem wrapper:Tryz.f6.isWrapper Tryz.prog Rows.replicaReadsRow.wrapper Rows.replicaReadsRow.mainSum:=by unfold Func.isWrapper;first|(rw [if_pos (by decide+kernel)];kernel_rfl)|(rw [if_neg (by decide+kernel)];exact⟨rfl,rfl⟩)
theorem named:Tryz.prog.funcNamed Rows.replicaReadsRow.func=some 6:=by kernel_rfl
theorem looks:Rows.replicaReadsCard.stood.looks=Tryz.prog.looks []:=by kernel_rfl
theorem pA:(Tryz.f6.params.toList.all λa=>!Tryz.prog.wantsStandIn a)=true:=by kernel_rfl
theorem text:(Rows.replicaReadsRow).wfByText (OpenSpec.ofChange Rows.replicaReadsSpec)=true:=by kernel_rfl
theorem goes:false=(Rows.replicaReadsRow).goesBy Tryz.prog:=by kernel_rfl
theorem mainIs:Tryz.prog.mainIs=some (Rows.replicaReadsCard.stood.harness.1,Rows.replicaReadsCard.stood.harness.2.toList):=by kernel_rfl
end Go.Proofs.YtfchlbaidamodaaGreatDoor.bY

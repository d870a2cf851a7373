import Derived.Test.YtfchlbaidamodaaGreatDoorYbRpLastsRowA
import Derived.Test.YtfchlbaidamodaaGreatDoorCards
set_option linter.all false
set_option maxRecDepth 100000
namespace Go.Proofs.YtfchlbaidamodaaGreatDoor.bX
theorem tt {a b:Bool} (c:a=true) (d:b=true):(a&&b)=true:=by rw [c,d];rfl
theorem WC:(Rows.replicaLastsRow).wf (OpenSpec.ofChange Rows.replicaLastsSpec)=true:=by kernel_rfl
theorem WD:(Tryz.f5.params.all (Tryz.prog.readableRec ·))=true:=by kernel_rfl
theorem WE:namedTie Tryz.prog Rows.replicaLastsRow.named Rows.replicaLastsSpec.vars=true:=by kernel_rfl
theorem WG:(Rows.replicaLastsRow.stops==[])=true:=by kernel_rfl
theorem WH:(Tryz.prog.stops==[])=true:=by kernel_rfl
theorem WI:(Rows.replicaLastsRow.knobs==[])=true:=by kernel_rfl
theorem WJ:(Tryz.prog.stopKnobs==[])=true:=by kernel_rfl
theorem Nh:(Rows.replicaLastsRow.maps==(Tryz.f5.params.toList++Rows.replicaLastsSpec.plain.varTypes Tryz.prog).any (Tryz.prog.mapsRec ·))=true:=by kernel_rfl
theorem Ni:(Rows.replicaLastsRow.ifaces==(Tryz.f5.params.toList++Rows.replicaLastsSpec.plain.varTypes Tryz.prog).any (Tryz.prog.ifacesRec ·))=true:=by kernel_rfl
theorem Nj:(Rows.replicaLastsRow.mapsOut==Tryz.prog.mapsAmong Tryz.f5.resultTypes.toList)=true:=by kernel_rfl
theorem Nk:(Rows.replicaLastsRow.wideKeys==(Tryz.f5.params.toList++Rows.replicaLastsSpec.plain.varTypes Tryz.prog++Tryz.f5.resultTypes.toList).any (Tryz.prog.wideKeysFrom ·))=true:=by kernel_rfl
theorem Nl:(Rows.replicaLastsSpec.vars.all (Tryz.prog.varReadable ·))=true:=by kernel_rfl
theorem Nn:(Tryz.f5.resultTypes.all (λa=>Tryz.prog.readableRec a&&decide (a<Tryz.prog.types.size)))=true:=by kernel_rfl
theorem No:(Rows.replicaLastsRow.ifacesOut==Tryz.f5.resultTypes.toList.any (Tryz.prog.ifacesRec ·))=true:=by kernel_rfl
theorem Np:(Rows.replicaLastsRow.loopsOut==Tryz.f5.resultTypes.toList.any (Tryz.prog.loopsFrom ·))=true:=by kernel_rfl
theorem Nq:(Rows.replicaLastsRow.plainKeys==Tryz.prog.plainKeys)=true:=by kernel_rfl
theorem Nr:(Rows.replicaLastsRow.shortTexts.isNone)=true:=by kernel_rfl
theorem Ns:(Rows.replicaLastsRow.lifted==Tryz.prog.liftsFinal)=true:=by kernel_rfl
theorem Nt:(Tryz.prog.make==some Rows.replicaLastsRow.make)=true:=by kernel_rfl
theorem Nu:(Rows.replicaLastsRow.kinds==(if Rows.replicaLastsRow.domain.isEmpty then []else Tryz.f5.params.toList.map λa=>match Tryz.prog.underlying a with|some (.int b)=>some b|_=>none))=true:=by kernel_rfl
theorem Nv:(Rows.replicaLastsRow.pinned==Rows.replicaLastsRow.pinnedBy)=true:=by kernel_rfl
theorem Nw:(Rows.replicaLastsRow.veiled==(Tryz.f5.params.toList++Rows.replicaLastsSpec.plain.varTypes Tryz.prog++Tryz.f5.resultTypes.toList).any (Tryz.prog.veiledRec ·))=true:=by kernel_rfl
theorem Nx:(Rows.replicaLastsRow.veiledFits Tryz.prog Tryz.f5.params.toList (Tryz.f5.params.toList++Rows.replicaLastsSpec.plain.varTypes Tryz.prog++Tryz.f5.resultTypes.toList))=true:=by kernel_rfl
theorem facts:joinedFacts Tryz.prog 5 Tryz.f5 Rows.replicaLastsSpec Rows.replicaLastsRow=true:=by
 unfold joinedFacts;exact tt (tt (tt (tt (tt (tt (tt (tt (tt (tt (tt (tt (tt (tt (tt (tt (tt (tt (tt (tt (tt (tt (tt (tt (tt (tt (tt (tt (tt (tt (tt WC Wz) WA) WD) WE) WG) WH) WI) WJ) WB) Na) Nb) Nc) Nh) Ni) Nj) Nd) Nk) Nl) Nn) No) Np) Nq) Nr) Nf) Ng) Ns) Nt) Nu) Nv) Nw) Nx
theorem inst:Tryz.f5.isInstance Tryz.prog Rows.replicaLastsRow.origin Rows.replicaLastsRow.targs:=of_decide_eq_true (by kernel_rfl)
theorem wrapper:Tryz.f5.isWrapper Tryz.prog Rows.replicaLastsRow.wrapper Rows.replicaLastsRow.mainSum:=by unfold Func.isWrapper;first|(rw [if_pos (by decide+kernel)];kernel_rfl)|(rw [if_neg (by decide+kernel)];exact⟨rfl,rfl⟩)
theorem named:Tryz.prog.funcNamed Rows.replicaLastsRow.func=some 5:=by kernel_rfl
theorem looks:Rows.replicaLastsCard.stood.looks=Tryz.prog.looks []:=by kernel_rfl
theorem pA:(Tryz.f5.params.toList.all λa=>!Tryz.prog.wantsStandIn a)=true:=by kernel_rfl
theorem text:(Rows.replicaLastsRow).wfByText (OpenSpec.ofChange Rows.replicaLastsSpec)=true:=by kernel_rfl
theorem goes:false=(Rows.replicaLastsRow).goesBy Tryz.prog:=by kernel_rfl
theorem mainIs:Tryz.prog.mainIs=some (Rows.replicaLastsCard.stood.harness.1,Rows.replicaLastsCard.stood.harness.2.toList):=by kernel_rfl
end Go.Proofs.YtfchlbaidamodaaGreatDoor.bX

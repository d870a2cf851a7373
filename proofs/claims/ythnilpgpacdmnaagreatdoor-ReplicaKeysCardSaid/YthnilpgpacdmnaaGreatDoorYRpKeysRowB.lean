import Derived.Test.YthnilpgpacdmnaaGreatDoorYRpKeysRowA
import Derived.Test.YthnilpgpacdmnaaGreatDoorCards
namespace Go.Proofs.YthnilpgpacdmnaaGreatDoor.bM
set_option linter.unusedVariables false
set_option maxRecDepth 100000
theorem tt {a b:Bool} (c:a=true) (d:b=true):(a&&b)=true:=by rw [c,d];rfl
theorem VP:(Rows.replicaKeysRow).wf (OpenSpec.ofChange Rows.replicaKeysSpec)=true:=by kernel_rfl
theorem VQ:(Tryz.f3.params.all (Tryz.prog.readableRec ·))=true:=by kernel_rfl
theorem VR:namedTie Tryz.prog Rows.replicaKeysRow.named Rows.replicaKeysSpec.vars=true:=by kernel_rfl
theorem VS:(Rows.replicaKeysRow.stops==[])=true:=by kernel_rfl
theorem VT:(Tryz.prog.stops==[])=true:=by kernel_rfl
theorem VU:(Rows.replicaKeysRow.knobs==[])=true:=by kernel_rfl
theorem VV:(Tryz.prog.stopKnobs==[])=true:=by kernel_rfl
theorem U_:(Rows.replicaKeysRow.maps==(Tryz.f3.params.toList++Rows.replicaKeysSpec.plain.varTypes Tryz.prog).any (Tryz.prog.mapsRec ·))=true:=by kernel_rfl
theorem Va:(Rows.replicaKeysRow.ifaces==(Tryz.f3.params.toList++Rows.replicaKeysSpec.plain.varTypes Tryz.prog).any (Tryz.prog.ifacesRec ·))=true:=by kernel_rfl
theorem Vb:(Rows.replicaKeysRow.mapsOut==Tryz.prog.mapsAmong Tryz.f3.resultTypes.toList)=true:=by kernel_rfl
theorem Vc:(Rows.replicaKeysRow.wideKeys==(Tryz.f3.params.toList++Rows.replicaKeysSpec.plain.varTypes Tryz.prog++Tryz.f3.resultTypes.toList).any (Tryz.prog.wideKeysFrom ·))=true:=by kernel_rfl
theorem Vd:(Rows.replicaKeysSpec.vars.all (Tryz.prog.varReadable ·))=true:=by kernel_rfl
theorem Ve:(Tryz.f3.resultTypes.all (λa=>Tryz.prog.readableRec a&&decide (a<Tryz.prog.types.size)))=true:=by kernel_rfl
theorem Vf:(Rows.replicaKeysRow.ifacesOut==Tryz.f3.resultTypes.toList.any (Tryz.prog.ifacesRec ·))=true:=by kernel_rfl
theorem Vg:(Rows.replicaKeysRow.loopsOut==Tryz.f3.resultTypes.toList.any (Tryz.prog.loopsFrom ·))=true:=by kernel_rfl
theorem Vh:(Rows.replicaKeysRow.plainKeys==Tryz.prog.plainKeys)=true:=by kernel_rfl
theorem Vi:(Rows.replicaKeysRow.shortTexts.isNone)=true:=by kernel_rfl
theorem Vj:(Rows.replicaKeysRow.lifted==Tryz.prog.liftsFinal)=true:=by kernel_rfl
theorem Vk:(Tryz.prog.make==some Rows.replicaKeysRow.make)=true:=by kernel_rfl
theorem Vl:(Rows.replicaKeysRow.kinds==(if Rows.replicaKeysRow.domain.isEmpty then []else Tryz.f3.params.toList.map λa=>match Tryz.prog.underlying a with|some (.int b)=>some b|_=>none))=true:=by kernel_rfl
theorem Vm:(Rows.replicaKeysRow.pinned==Rows.replicaKeysRow.pinnedBy)=true:=by kernel_rfl
theorem Vn:(Rows.replicaKeysRow.veiled==(Tryz.f3.params.toList++Rows.replicaKeysSpec.plain.varTypes Tryz.prog++Tryz.f3.resultTypes.toList).any (Tryz.prog.veiledRec ·))=true:=by kernel_rfl
theorem Vo:(Rows.replicaKeysRow.veiledFits Tryz.prog Tryz.f3.params.toList (Tryz.f3.params.toList++Rows.replicaKeysSpec.plain.varTypes Tryz.prog++Tryz.f3.resultTypes.toList))=true:=by kernel_rfl
theorem facts:joinedFacts Tryz.prog 3 Tryz.f3 Rows.replicaKeysSpec Rows.replicaKeysRow=true:=by
 unfold joinedFacts;exact tt (tt (tt (tt (tt (tt (tt (tt (tt (tt (tt (tt (tt (tt (tt (tt (tt (tt (tt (tt (tt (tt (tt (tt (tt (tt (tt (tt (tt (tt (tt VP VM) VN) VQ) VR) VS) VT) VU) VV) VO) UT) UU) UW) U_) Va) Vb) UX) Vc) Vd) Ve) Vf) Vg) Vh) Vi) UY) UZ) Vj) Vk) Vl) Vm) Vn) Vo
theorem inst:Tryz.f3.isInstance Tryz.prog Rows.replicaKeysRow.origin Rows.replicaKeysRow.targs:=of_decide_eq_true (by kernel_rfl)
theorem wrapper:Tryz.f3.isWrapper Tryz.prog Rows.replicaKeysRow.wrapper Rows.replicaKeysRow.mainSum:=by unfold Func.isWrapper;first|(rw [if_pos (by decide+kernel)];kernel_rfl)|(rw [if_neg (by decide+kernel)];exact⟨rfl,rfl⟩)
theorem named:Tryz.prog.funcNamed Rows.replicaKeysRow.func=some 3:=by kernel_rfl
theorem looks:Rows.replicaKeysCard.stood.looks=Tryz.prog.looks []:=by kernel_rfl
theorem QO:(Tryz.f3.params.toList.all λa=>!Tryz.prog.wantsStandIn a)=true:=by kernel_rfl
theorem text:(Rows.replicaKeysRow).wfByText (OpenSpec.ofChange Rows.replicaKeysSpec)=true:=by kernel_rfl
theorem goes:false=(Rows.replicaKeysRow).goesBy Tryz.prog:=by kernel_rfl
theorem mainIs:Tryz.prog.mainIs=some (Rows.replicaKeysCard.stood.harness.1,Rows.replicaKeysCard.stood.harness.2.toList):=by kernel_rfl
end Go.Proofs.YthnilpgpacdmnaaGreatDoor.bM

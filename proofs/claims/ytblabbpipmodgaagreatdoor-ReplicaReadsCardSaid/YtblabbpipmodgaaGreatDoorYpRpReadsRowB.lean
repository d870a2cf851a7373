import Derived.Test.YtblabbpipmodgaaGreatDoorYpRpReadsRowA
import Derived.Test.YtblabbpipmodgaaGreatDoorCards
set_option linter.all false
set_option maxRecDepth 100000
namespace Go.Proofs.YtblabbpipmodgaaGreatDoor.bG
def tt{P a:Bool}(b:P=true)(c:a=true):(P&&a)=true:=by rw[b,c];rfl
def Wx:(Rows.replicaReadsRow).wf (OpenSpec.ofChange Rows.replicaReadsSpec)=true:=by kernel_rfl
def Wy:(Tryz.f5.params.all (Tryz.prog.readableRec ·))=true:=by kernel_rfl
def Wz:namedTie Tryz.prog Rows.replicaReadsRow.named Rows.replicaReadsSpec.vars=true:=by kernel_rfl
def WA:(Rows.replicaReadsRow.stops==[])=true:=by kernel_rfl
def WB:(Tryz.prog.stops==[])=true:=by kernel_rfl
def WC:(Rows.replicaReadsRow.knobs==[])=true:=by kernel_rfl
def WD:(Tryz.prog.stopKnobs==[])=true:=by kernel_rfl
def VI:(Rows.replicaReadsRow.maps==(Tryz.f5.params.toList++Rows.replicaReadsSpec.plain.varTypes Tryz.prog).any (Tryz.prog.mapsRec ·))=true:=by kernel_rfl
def VJ:(Rows.replicaReadsRow.ifaces==(Tryz.f5.params.toList++Rows.replicaReadsSpec.plain.varTypes Tryz.prog).any (Tryz.prog.ifacesRec ·))=true:=by kernel_rfl
def VK:(Rows.replicaReadsRow.mapsOut==Tryz.prog.mapsAmong Tryz.f5.resultTypes.toList)=true:=by kernel_rfl
def VL:(Rows.replicaReadsRow.wideKeys==(Tryz.f5.params.toList++Rows.replicaReadsSpec.plain.varTypes Tryz.prog++Tryz.f5.resultTypes.toList).any (Tryz.prog.wideKeysFrom ·))=true:=by kernel_rfl
def VM:(Rows.replicaReadsSpec.vars.all (Tryz.prog.varReadable ·))=true:=by kernel_rfl
def VN:(Tryz.f5.resultTypes.all (λP=>Tryz.prog.readableRec P&&decide (P<Tryz.prog.types.size)))=true:=by kernel_rfl
def VO:(Rows.replicaReadsRow.ifacesOut==Tryz.f5.resultTypes.toList.any (Tryz.prog.ifacesRec ·))=true:=by kernel_rfl
def VP:(Rows.replicaReadsRow.loopsOut==Tryz.f5.resultTypes.toList.any (Tryz.prog.loopsFrom ·))=true:=by kernel_rfl
def VQ:(Rows.replicaReadsRow.plainKeys==Tryz.prog.plainKeys)=true:=by kernel_rfl
def VR:(Rows.replicaReadsRow.shortTexts.isNone)=true:=by kernel_rfl
def VS:(Rows.replicaReadsRow.lifted==Tryz.prog.liftsFinal)=true:=by kernel_rfl
def VT:(Tryz.prog.make==some Rows.replicaReadsRow.make)=true:=by kernel_rfl
def VU:(Rows.replicaReadsRow.kinds==(if Rows.replicaReadsRow.domain.isEmpty then []else Tryz.f5.params.toList.map λP=>match Tryz.prog.underlying P with|some (.int a)=>some a|_=>none))=true:=by kernel_rfl
def VV:(Rows.replicaReadsRow.pinned==Rows.replicaReadsRow.pinnedBy)=true:=by kernel_rfl
def VW:(Rows.replicaReadsRow.veiled==(Tryz.f5.params.toList++Rows.replicaReadsSpec.plain.varTypes Tryz.prog++Tryz.f5.resultTypes.toList).any (Tryz.prog.veiledRec ·))=true:=by kernel_rfl
def VX:(Rows.replicaReadsRow.veiledFits Tryz.prog Tryz.f5.params.toList (Tryz.f5.params.toList++Rows.replicaReadsSpec.plain.varTypes Tryz.prog++Tryz.f5.resultTypes.toList))=true:=by kernel_rfl
def facts:joinedFacts Tryz.prog 5 Tryz.f5 Rows.replicaReadsSpec Rows.replicaReadsRow=true:=by
 unfold joinedFacts;exact tt (tt (tt (tt (tt (tt (tt (tt (tt (tt (tt (tt (tt (tt (tt (tt (tt (tt (tt (tt (tt (tt (tt (tt (tt (tt (tt (tt (tt (tt (tt Wx Wu) Wv) Wy) Wz) WA) WB) WC) WD) Ww) VC) VD) VE) VI) VJ) VK) VF) VL) VM) VN) VO) VP) VQ) VR) VG) VH) VS) VT) VU) VV) VW) VX
def inst:Tryz.f5.isInstance Tryz.prog Rows.replicaReadsRow.origin Rows.replicaReadsRow.targs:=of_decide_eq_true (by kernel_rfl)
def wrapper:Tryz.f5.isWrapper Tryz.prog Rows.replicaReadsRow.wrapper Rows.replicaReadsRow.mainSum:=by unfold Func.isWrapper;first|(rw[if_pos (by decide+kernel)];kernel_rfl)|(rw[if_neg (by decide+kernel)];exact⟨rfl,rfl⟩)
def named:Tryz.prog.funcNamed Rows.replicaReadsRow.func=some 5:=by kernel_rfl
def looks:Rows.replicaReadsCard.stood.looks=Tryz.prog.looks []:=by kernel_rfl
def RI:(Tryz.f5.params.toList.all λP=>!Tryz.prog.wantsStandIn P)=true:=by kernel_rfl
def text:(Rows.replicaReadsRow).wfByText (OpenSpec.ofChange Rows.replicaReadsSpec)=true:=by kernel_rfl
def goes:false=(Rows.replicaReadsRow).goesBy Tryz.prog:=by kernel_rfl
def mainIs:Tryz.prog.mainIs=some (Rows.replicaReadsCard.stood.harness.1,Rows.replicaReadsCard.stood.harness.2.toList):=by kernel_rfl

import Derived.Test.YtblabbpipmodgaaGreatDoorYrRpCompRowA
import Derived.Test.YtblabbpipmodgaaGreatDoorCards
set_option linter.all false
set_option maxRecDepth 100000
namespace Go.Proofs.YtblabbpipmodgaaGreatDoor.bh
def tt{P a:Bool}(b:P=true)(c:a=true):(P&&a)=true:=by rw[b,c];rfl
def XO:(Rows.replicaCompactsRow).wf (OpenSpec.ofChange Rows.replicaCompactsSpec)=true:=by kernel_rfl
def XP:(Tryz.f7.params.all (Tryz.prog.readableRec ·))=true:=by kernel_rfl
def XR:namedTie Tryz.prog Rows.replicaCompactsRow.named Rows.replicaCompactsSpec.vars=true:=by kernel_rfl
def XS:(Rows.replicaCompactsRow.stops==[])=true:=by kernel_rfl
def XT:(Tryz.prog.stops==[])=true:=by kernel_rfl
def XU:(Rows.replicaCompactsRow.knobs==[])=true:=by kernel_rfl
def X_:(Tryz.prog.stopKnobs==[])=true:=by kernel_rfl
def WQ:(Rows.replicaCompactsRow.maps==(Tryz.f7.params.toList++Rows.replicaCompactsSpec.plain.varTypes Tryz.prog).any (Tryz.prog.mapsRec ·))=true:=by kernel_rfl
def WR:(Rows.replicaCompactsRow.ifaces==(Tryz.f7.params.toList++Rows.replicaCompactsSpec.plain.varTypes Tryz.prog).any (Tryz.prog.ifacesRec ·))=true:=by kernel_rfl
def WS:(Rows.replicaCompactsRow.mapsOut==Tryz.prog.mapsAmong Tryz.f7.resultTypes.toList)=true:=by kernel_rfl
def WT:(Rows.replicaCompactsRow.wideKeys==(Tryz.f7.params.toList++Rows.replicaCompactsSpec.plain.varTypes Tryz.prog++Tryz.f7.resultTypes.toList).any (Tryz.prog.wideKeysFrom ·))=true:=by kernel_rfl
def WU:(Rows.replicaCompactsSpec.vars.all (Tryz.prog.varReadable ·))=true:=by kernel_rfl
def WV:(Tryz.f7.resultTypes.all (λP=>Tryz.prog.readableRec P&&decide (P<Tryz.prog.types.size)))=true:=by kernel_rfl
def WW:(Rows.replicaCompactsRow.ifacesOut==Tryz.f7.resultTypes.toList.any (Tryz.prog.ifacesRec ·))=true:=by kernel_rfl
def WX:(Rows.replicaCompactsRow.loopsOut==Tryz.f7.resultTypes.toList.any (Tryz.prog.loopsFrom ·))=true:=by kernel_rfl
def WY:(Rows.replicaCompactsRow.plainKeys==Tryz.prog.plainKeys)=true:=by kernel_rfl
def WZ:(Rows.replicaCompactsRow.shortTexts.isNone)=true:=by kernel_rfl
def W_:(Rows.replicaCompactsRow.lifted==Tryz.prog.liftsFinal)=true:=by kernel_rfl
def Xa:(Tryz.prog.make==some Rows.replicaCompactsRow.make)=true:=by kernel_rfl
def Xb:(Rows.replicaCompactsRow.kinds==(if Rows.replicaCompactsRow.domain.isEmpty then []else Tryz.f7.params.toList.map λP=>match Tryz.prog.underlying P with|some (.int a)=>some a|_=>none))=true:=by kernel_rfl
def Xc:(Rows.replicaCompactsRow.pinned==Rows.replicaCompactsRow.pinnedBy)=true:=by kernel_rfl
def Xd:(Rows.replicaCompactsRow.veiled==(Tryz.f7.params.toList++Rows.replicaCompactsSpec.plain.varTypes Tryz.prog++Tryz.f7.resultTypes.toList).any (Tryz.prog.veiledRec ·))=true:=by kernel_rfl
def Xe:(Rows.replicaCompactsRow.veiledFits Tryz.prog Tryz.f7.params.toList (Tryz.f7.params.toList++Rows.replicaCompactsSpec.plain.varTypes Tryz.prog++Tryz.f7.resultTypes.toList))=true:=by kernel_rfl
def facts:joinedFacts Tryz.prog 7 Tryz.f7 Rows.replicaCompactsSpec Rows.replicaCompactsRow=true:=by
 unfold joinedFacts;exact tt (tt (tt (tt (tt (tt (tt (tt (tt (tt (tt (tt (tt (tt (tt (tt (tt (tt (tt (tt (tt (tt (tt (tt (tt (tt (tt (tt (tt (tt (tt XO XL) XM) XP) XR) XS) XT) XU) X_) XN) WJ) WK) WL) WQ) WR) WS) WM) WT) WU) WV) WW) WX) WY) WZ) WN) WO) W_) Xa) Xb) Xc) Xd) Xe
def inst:Tryz.f7.isInstance Tryz.prog Rows.replicaCompactsRow.origin Rows.replicaCompactsRow.targs:=of_decide_eq_true (by kernel_rfl)
def wrapper:Tryz.f7.isWrapper Tryz.prog Rows.replicaCompactsRow.wrapper Rows.replicaCompactsRow.mainSum:=by unfold Func.isWrapper;first|(rw[if_pos (by decide+kernel)];kernel_rfl)|(rw[if_neg (by decide+kernel)];exact⟨rfl,rfl⟩)
def named:Tryz.prog.funcNamed Rows.replicaCompactsRow.func=some 7:=by kernel_rfl
def looks:Rows.replicaCompactsCard.stood.looks=Tryz.prog.looks []:=by kernel_rfl
def SS:(Tryz.f7.params.toList.all λP=>!Tryz.prog.wantsStandIn P)=true:=by kernel_rfl
def text:(Rows.replicaCompactsRow).wfByText (OpenSpec.ofChange Rows.replicaCompactsSpec)=true:=by kernel_rfl
def goes:false=(Rows.replicaCompactsRow).goesBy Tryz.prog:=by kernel_rfl
def mainIs:Tryz.prog.mainIs=some (Rows.replicaCompactsCard.stood.harness.1,Rows.replicaCompactsCard.stood.harness.2.toList):=by kernel_rfl

import Derived.Test.YtblabbpipmodgaaGreatDoorYqRpKeysRowA
import Derived.Test.YtblabbpipmodgaaGreatDoorCards
set_option linter.all false
set_option maxRecDepth 100000
namespace Go.Proofs.YtblabbpipmodgaaGreatDoor.bL
def tt{P a:Bool}(b:P=true)(c:a=true):(P&&a)=true:=by rw[b,c];rfl
def Vr:(Rows.replicaKeysRow).wf (OpenSpec.ofChange Rows.replicaKeysSpec)=true:=by kernel_rfl
def Vs:(Tryz.f6.params.all (Tryz.prog.readableRec ·))=true:=by kernel_rfl
def Vt:namedTie Tryz.prog Rows.replicaKeysRow.named Rows.replicaKeysSpec.vars=true:=by kernel_rfl
def Vu:(Rows.replicaKeysRow.stops==[])=true:=by kernel_rfl
def Vv:(Tryz.prog.stops==[])=true:=by kernel_rfl
def Vw:(Rows.replicaKeysRow.knobs==[])=true:=by kernel_rfl
def Vx:(Tryz.prog.stopKnobs==[])=true:=by kernel_rfl
def UE:(Rows.replicaKeysRow.maps==(Tryz.f6.params.toList++Rows.replicaKeysSpec.plain.varTypes Tryz.prog).any (Tryz.prog.mapsRec ·))=true:=by kernel_rfl
def UF:(Rows.replicaKeysRow.ifaces==(Tryz.f6.params.toList++Rows.replicaKeysSpec.plain.varTypes Tryz.prog).any (Tryz.prog.ifacesRec ·))=true:=by kernel_rfl
def UG:(Rows.replicaKeysRow.mapsOut==Tryz.prog.mapsAmong Tryz.f6.resultTypes.toList)=true:=by kernel_rfl
def UH:(Rows.replicaKeysRow.wideKeys==(Tryz.f6.params.toList++Rows.replicaKeysSpec.plain.varTypes Tryz.prog++Tryz.f6.resultTypes.toList).any (Tryz.prog.wideKeysFrom ·))=true:=by kernel_rfl
def UI:(Rows.replicaKeysSpec.vars.all (Tryz.prog.varReadable ·))=true:=by kernel_rfl
def UJ:(Tryz.f6.resultTypes.all (λP=>Tryz.prog.readableRec P&&decide (P<Tryz.prog.types.size)))=true:=by kernel_rfl
def UK:(Rows.replicaKeysRow.ifacesOut==Tryz.f6.resultTypes.toList.any (Tryz.prog.ifacesRec ·))=true:=by kernel_rfl
def UL:(Rows.replicaKeysRow.loopsOut==Tryz.f6.resultTypes.toList.any (Tryz.prog.loopsFrom ·))=true:=by kernel_rfl
def UM:(Rows.replicaKeysRow.plainKeys==Tryz.prog.plainKeys)=true:=by kernel_rfl
def UN:(Rows.replicaKeysRow.shortTexts.isNone)=true:=by kernel_rfl
def UO:(Rows.replicaKeysRow.lifted==Tryz.prog.liftsFinal)=true:=by kernel_rfl
def UP:(Tryz.prog.make==some Rows.replicaKeysRow.make)=true:=by kernel_rfl
def UQ:(Rows.replicaKeysRow.kinds==(if Rows.replicaKeysRow.domain.isEmpty then []else Tryz.f6.params.toList.map λP=>match Tryz.prog.underlying P with|some (.int a)=>some a|_=>none))=true:=by kernel_rfl
def UR:(Rows.replicaKeysRow.pinned==Rows.replicaKeysRow.pinnedBy)=true:=by kernel_rfl
def US:(Rows.replicaKeysRow.veiled==(Tryz.f6.params.toList++Rows.replicaKeysSpec.plain.varTypes Tryz.prog++Tryz.f6.resultTypes.toList).any (Tryz.prog.veiledRec ·))=true:=by kernel_rfl
def UT:(Rows.replicaKeysRow.veiledFits Tryz.prog Tryz.f6.params.toList (Tryz.f6.params.toList++Rows.replicaKeysSpec.plain.varTypes Tryz.prog++Tryz.f6.resultTypes.toList))=true:=by kernel_rfl
def facts:joinedFacts Tryz.prog 6 Tryz.f6 Rows.replicaKeysSpec Rows.replicaKeysRow=true:=by
 unfold joinedFacts;exact tt (tt (tt (tt (tt (tt (tt (tt (tt (tt (tt (tt (tt (tt (tt (tt (tt (tt (tt (tt (tt (tt (tt (tt (tt (tt (tt (tt (tt (tt (tt Vr Vo) Vp) Vs) Vt) Vu) Vv) Vw) Vx) Vq) Uy) Uz) UA) UE) UF) UG) UB) UH) UI) UJ) UK) UL) UM) UN) UC) UD) UO) UP) UQ) UR) US) UT
def inst:Tryz.f6.isInstance Tryz.prog Rows.replicaKeysRow.origin Rows.replicaKeysRow.targs:=of_decide_eq_true (by kernel_rfl)
def wrapper:Tryz.f6.isWrapper Tryz.prog Rows.replicaKeysRow.wrapper Rows.replicaKeysRow.mainSum:=by unfold Func.isWrapper;first|(rw[if_pos (by decide+kernel)];kernel_rfl)|(rw[if_neg (by decide+kernel)];exact⟨rfl,rfl⟩)
def named:Tryz.prog.funcNamed Rows.replicaKeysRow.func=some 6:=by kernel_rfl
def looks:Rows.replicaKeysCard.stood.looks=Tryz.prog.looks []:=by kernel_rfl
def Qp:(Tryz.f6.params.toList.all λP=>!Tryz.prog.wantsStandIn P)=true:=by kernel_rfl
def text:(Rows.replicaKeysRow).wfByText (OpenSpec.ofChange Rows.replicaKeysSpec)=true:=by kernel_rfl
def goes:false=(Rows.replicaKeysRow).goesBy Tryz.prog:=by kernel_rfl
def mainIs:Tryz.prog.mainIs=some (Rows.replicaKeysCard.stood.harness.1,Rows.replicaKeysCard.stood.harness.2.toList):=by kernel_rfl

import Derived.Test.YtblabbpipmodgaaGreatDoorYoRpLastsRowA
import Derived.Test.YtblabbpipmodgaaGreatDoorCards
set_option linter.all false
set_option maxRecDepth 100000
namespace Go.Proofs.YtblabbpipmodgaaGreatDoor.bK
def tt{P a:Bool}(b:P=true)(c:a=true):(P&&a)=true:=by rw[b,c];rfl
def VO:(Rows.replicaLastsRow).wf (OpenSpec.ofChange Rows.replicaLastsSpec)=true:=by kernel_rfl
def VP:(Tryz.f4.params.all (Tryz.prog.readableRec ·))=true:=by kernel_rfl
def VQ:namedTie Tryz.prog Rows.replicaLastsRow.named Rows.replicaLastsSpec.vars=true:=by kernel_rfl
def VR:(Rows.replicaLastsRow.stops==[])=true:=by kernel_rfl
def VS:(Tryz.prog.stops==[])=true:=by kernel_rfl
def VT:(Rows.replicaLastsRow.knobs==[])=true:=by kernel_rfl
def VU:(Tryz.prog.stopKnobs==[])=true:=by kernel_rfl
def UZ:(Rows.replicaLastsRow.maps==(Tryz.f4.params.toList++Rows.replicaLastsSpec.plain.varTypes Tryz.prog).any (Tryz.prog.mapsRec ·))=true:=by kernel_rfl
def U_:(Rows.replicaLastsRow.ifaces==(Tryz.f4.params.toList++Rows.replicaLastsSpec.plain.varTypes Tryz.prog).any (Tryz.prog.ifacesRec ·))=true:=by kernel_rfl
def Va:(Rows.replicaLastsRow.mapsOut==Tryz.prog.mapsAmong Tryz.f4.resultTypes.toList)=true:=by kernel_rfl
def Vb:(Rows.replicaLastsRow.wideKeys==(Tryz.f4.params.toList++Rows.replicaLastsSpec.plain.varTypes Tryz.prog++Tryz.f4.resultTypes.toList).any (Tryz.prog.wideKeysFrom ·))=true:=by kernel_rfl
def Vc:(Rows.replicaLastsSpec.vars.all (Tryz.prog.varReadable ·))=true:=by kernel_rfl
def Vd:(Tryz.f4.resultTypes.all (λP=>Tryz.prog.readableRec P&&decide (P<Tryz.prog.types.size)))=true:=by kernel_rfl
def Ve:(Rows.replicaLastsRow.ifacesOut==Tryz.f4.resultTypes.toList.any (Tryz.prog.ifacesRec ·))=true:=by kernel_rfl
def Vf:(Rows.replicaLastsRow.loopsOut==Tryz.f4.resultTypes.toList.any (Tryz.prog.loopsFrom ·))=true:=by kernel_rfl
def Vg:(Rows.replicaLastsRow.plainKeys==Tryz.prog.plainKeys)=true:=by kernel_rfl
def Vh:(Rows.replicaLastsRow.shortTexts.isNone)=true:=by kernel_rfl
def Vi:(Rows.replicaLastsRow.lifted==Tryz.prog.liftsFinal)=true:=by kernel_rfl
def Vj:(Tryz.prog.make==some Rows.replicaLastsRow.make)=true:=by kernel_rfl
def Vk:(Rows.replicaLastsRow.kinds==(if Rows.replicaLastsRow.domain.isEmpty then []else Tryz.f4.params.toList.map λP=>match Tryz.prog.underlying P with|some (.int a)=>some a|_=>none))=true:=by kernel_rfl
def Vl:(Rows.replicaLastsRow.pinned==Rows.replicaLastsRow.pinnedBy)=true:=by kernel_rfl
def Vm:(Rows.replicaLastsRow.veiled==(Tryz.f4.params.toList++Rows.replicaLastsSpec.plain.varTypes Tryz.prog++Tryz.f4.resultTypes.toList).any (Tryz.prog.veiledRec ·))=true:=by kernel_rfl
def Vn:(Rows.replicaLastsRow.veiledFits Tryz.prog Tryz.f4.params.toList (Tryz.f4.params.toList++Rows.replicaLastsSpec.plain.varTypes Tryz.prog++Tryz.f4.resultTypes.toList))=true:=by kernel_rfl
def facts:joinedFacts Tryz.prog 4 Tryz.f4 Rows.replicaLastsSpec Rows.replicaLastsRow=true:=by
 unfold joinedFacts;exact tt (tt (tt (tt (tt (tt (tt (tt (tt (tt (tt (tt (tt (tt (tt (tt (tt (tt (tt (tt (tt (tt (tt (tt (tt (tt (tt (tt (tt (tt (tt VO VL) VM) VP) VQ) VR) VS) VT) VU) VN) US) UT) UU) UZ) U_) Va) UW) Vb) Vc) Vd) Ve) Vf) Vg) Vh) UX) UY) Vi) Vj) Vk) Vl) Vm) Vn
def inst:Tryz.f4.isInstance Tryz.prog Rows.replicaLastsRow.origin Rows.replicaLastsRow.targs:=of_decide_eq_true (by kernel_rfl)
def wrapper:Tryz.f4.isWrapper Tryz.prog Rows.replicaLastsRow.wrapper Rows.replicaLastsRow.mainSum:=by unfold Func.isWrapper;first|(rw[if_pos (by decide+kernel)];kernel_rfl)|(rw[if_neg (by decide+kernel)];exact⟨rfl,rfl⟩)
def named:Tryz.prog.funcNamed Rows.replicaLastsRow.func=some 4:=by kernel_rfl
def looks:Rows.replicaLastsCard.stood.looks=Tryz.prog.looks []:=by kernel_rfl
def Q_:(Tryz.f4.params.toList.all λP=>!Tryz.prog.wantsStandIn P)=true:=by kernel_rfl
def text:(Rows.replicaLastsRow).wfByText (OpenSpec.ofChange Rows.replicaLastsSpec)=true:=by kernel_rfl
def goes:false=(Rows.replicaLastsRow).goesBy Tryz.prog:=by kernel_rfl
def mainIs:Tryz.prog.mainIs=some (Rows.replicaLastsCard.stood.harness.1,Rows.replicaLastsCard.stood.harness.2.toList):=by kernel_rfl

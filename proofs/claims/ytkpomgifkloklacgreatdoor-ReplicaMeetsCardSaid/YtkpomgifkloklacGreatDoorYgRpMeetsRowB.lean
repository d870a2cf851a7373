import Derived.Test.YtkpomgifkloklacGreatDoorYgRpMeetsRowA
import Derived.Test.YtkpomgifkloklacGreatDoorCards
set_option linter.all false
set_option maxRecDepth 100000
namespace Go.Proofs.YtkpomgifkloklacGreatDoor.bC
def tt{P a:Bool}(b:P=true)(c:a=true):(P&&a)=true:=by rw[b,c];rfl
def UG:(Rows.replicaMeetsRow).wf (OpenSpec.ofChange Rows.replicaMeetsSpec)=true:=by kernel_rfl
def UH:(Tryz.f3.params.all (Tryz.prog.readableRec ·))=true:=by kernel_rfl
def UI:namedTie Tryz.prog Rows.replicaMeetsRow.named Rows.replicaMeetsSpec.vars=true:=by kernel_rfl
def UJ:(Rows.replicaMeetsRow.stops==[])=true:=by kernel_rfl
def UK:(Tryz.prog.stops==[])=true:=by kernel_rfl
def UL:(Rows.replicaMeetsRow.knobs==[])=true:=by kernel_rfl
def UM:(Tryz.prog.stopKnobs==[])=true:=by kernel_rfl
def TQ:(Rows.replicaMeetsRow.maps==(Tryz.f3.params.toList++Rows.replicaMeetsSpec.plain.varTypes Tryz.prog).any (Tryz.prog.mapsRec ·))=true:=by kernel_rfl
def TR:(Rows.replicaMeetsRow.ifaces==(Tryz.f3.params.toList++Rows.replicaMeetsSpec.plain.varTypes Tryz.prog).any (Tryz.prog.ifacesRec ·))=true:=by kernel_rfl
def TS:(Rows.replicaMeetsRow.mapsOut==Tryz.prog.mapsAmong Tryz.f3.resultTypes.toList)=true:=by kernel_rfl
def TU:(Rows.replicaMeetsRow.wideKeys==(Tryz.f3.params.toList++Rows.replicaMeetsSpec.plain.varTypes Tryz.prog++Tryz.f3.resultTypes.toList).any (Tryz.prog.wideKeysFrom ·))=true:=by kernel_rfl
def TV:(Rows.replicaMeetsSpec.vars.all (Tryz.prog.varReadable ·))=true:=by kernel_rfl
def TW:(Tryz.f3.resultTypes.all (λP=>Tryz.prog.readableRec P&&decide (P<Tryz.prog.types.size)))=true:=by kernel_rfl
def TX:(Rows.replicaMeetsRow.ifacesOut==Tryz.f3.resultTypes.toList.any (Tryz.prog.ifacesRec ·))=true:=by kernel_rfl
def TY:(Rows.replicaMeetsRow.loopsOut==Tryz.f3.resultTypes.toList.any (Tryz.prog.loopsFrom ·))=true:=by kernel_rfl
def TZ:(Rows.replicaMeetsRow.plainKeys==Tryz.prog.plainKeys)=true:=by kernel_rfl
def T_:(Rows.replicaMeetsRow.shortTexts.isNone)=true:=by kernel_rfl
def Ua:(Rows.replicaMeetsRow.lifted==Tryz.prog.liftsFinal)=true:=by kernel_rfl
def Ub:(Tryz.prog.make==some Rows.replicaMeetsRow.make)=true:=by kernel_rfl
def Uc:(Rows.replicaMeetsRow.kinds==(if Rows.replicaMeetsRow.domain.isEmpty then []else Tryz.f3.params.toList.map λP=>match Tryz.prog.underlying P with|some (.int a)=>some a|_=>none))=true:=by kernel_rfl
def Ud:(Rows.replicaMeetsRow.pinned==Rows.replicaMeetsRow.pinnedBy)=true:=by kernel_rfl
def Ue:(Rows.replicaMeetsRow.veiled==(Tryz.f3.params.toList++Rows.replicaMeetsSpec.plain.varTypes Tryz.prog++Tryz.f3.resultTypes.toList).any (Tryz.prog.veiledRec ·))=true:=by kernel_rfl
def Uf:(Rows.replicaMeetsRow.veiledFits Tryz.prog Tryz.f3.params.toList (Tryz.f3.params.toList++Rows.replicaMeetsSpec.plain.varTypes Tryz.prog++Tryz.f3.resultTypes.toList))=true:=by kernel_rfl
def facts:joinedFacts Tryz.prog 3 Tryz.f3 Rows.replicaMeetsSpec Rows.replicaMeetsRow=true:=by
 unfold joinedFacts;exact tt (tt (tt (tt (tt (tt (tt (tt (tt (tt (tt (tt (tt (tt (tt (tt (tt (tt (tt (tt (tt (tt (tt (tt (tt (tt (tt (tt (tt (tt (tt UG UD) UE) UH) UI) UJ) UK) UL) UM) UF) TK) TL) TM) TQ) TR) TS) TN) TU) TV) TW) TX) TY) TZ) T_) TO) TP) Ua) Ub) Uc) Ud) Ue) Uf
def inst:Tryz.f3.isInstance Tryz.prog Rows.replicaMeetsRow.origin Rows.replicaMeetsRow.targs:=of_decide_eq_true (by kernel_rfl)
def wrapper:Tryz.f3.isWrapper Tryz.prog Rows.replicaMeetsRow.wrapper Rows.replicaMeetsRow.mainSum:=by unfold Func.isWrapper;first|(rw[if_pos (by decide+kernel)];kernel_rfl)|(rw[if_neg (by decide+kernel)];exact⟨rfl,rfl⟩)
def named:Tryz.prog.funcNamed Rows.replicaMeetsRow.func=some 3:=by kernel_rfl
def looks:Rows.replicaMeetsCard.stood.looks=Tryz.prog.looks []:=by kernel_rfl
def PJ:(Tryz.f3.params.toList.all λP=>!Tryz.prog.wantsStandIn P)=true:=by kernel_rfl
def text:(Rows.replicaMeetsRow).wfByText (OpenSpec.ofChange Rows.replicaMeetsSpec)=true:=by kernel_rfl
def goes:false=(Rows.replicaMeetsRow).goesBy Tryz.prog:=by kernel_rfl
def mainIs:Tryz.prog.mainIs=some (Rows.replicaMeetsCard.stood.harness.1,Rows.replicaMeetsCard.stood.harness.2.toList):=by kernel_rfl

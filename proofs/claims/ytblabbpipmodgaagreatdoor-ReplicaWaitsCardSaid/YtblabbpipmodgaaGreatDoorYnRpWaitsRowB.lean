import Derived.Test.YtblabbpipmodgaaGreatDoorYnRpWaitsRowA
import Derived.Test.YtblabbpipmodgaaGreatDoorCards
set_option linter.all false
set_option maxRecDepth 100000
namespace Go.Proofs.YtblabbpipmodgaaGreatDoor.bt
def tt{P a:Bool}(b:P=true)(c:a=true):(P&&a)=true:=by rw[b,c];rfl
def Uj:(Rows.replicaWaitsRow).wf (OpenSpec.ofChange Rows.replicaWaitsSpec)=true:=by kernel_rfl
def Uk:(Tryz.f3.params.all (Tryz.prog.readableRec ·))=true:=by kernel_rfl
def Ul:namedTie Tryz.prog Rows.replicaWaitsRow.named Rows.replicaWaitsSpec.vars=true:=by kernel_rfl
def Um:(Rows.replicaWaitsRow.stops==[])=true:=by kernel_rfl
def Un:(Tryz.prog.stops==[])=true:=by kernel_rfl
def Uo:(Rows.replicaWaitsRow.knobs==[])=true:=by kernel_rfl
def Up:(Tryz.prog.stopKnobs==[])=true:=by kernel_rfl
def Tq:(Rows.replicaWaitsRow.maps==(Tryz.f3.params.toList++Rows.replicaWaitsSpec.plain.varTypes Tryz.prog).any (Tryz.prog.mapsRec ·))=true:=by kernel_rfl
def Ts:(Rows.replicaWaitsRow.ifaces==(Tryz.f3.params.toList++Rows.replicaWaitsSpec.plain.varTypes Tryz.prog).any (Tryz.prog.ifacesRec ·))=true:=by kernel_rfl
def Tt:(Rows.replicaWaitsRow.mapsOut==Tryz.prog.mapsAmong Tryz.f3.resultTypes.toList)=true:=by kernel_rfl
def Tu:(Rows.replicaWaitsRow.wideKeys==(Tryz.f3.params.toList++Rows.replicaWaitsSpec.plain.varTypes Tryz.prog++Tryz.f3.resultTypes.toList).any (Tryz.prog.wideKeysFrom ·))=true:=by kernel_rfl
def Tv:(Rows.replicaWaitsSpec.vars.all (Tryz.prog.varReadable ·))=true:=by kernel_rfl
def Tw:(Tryz.f3.resultTypes.all (λP=>Tryz.prog.readableRec P&&decide (P<Tryz.prog.types.size)))=true:=by kernel_rfl
def Tx:(Rows.replicaWaitsRow.ifacesOut==Tryz.f3.resultTypes.toList.any (Tryz.prog.ifacesRec ·))=true:=by kernel_rfl
def Tz:(Rows.replicaWaitsRow.loopsOut==Tryz.f3.resultTypes.toList.any (Tryz.prog.loopsFrom ·))=true:=by kernel_rfl
def TA:(Rows.replicaWaitsRow.plainKeys==Tryz.prog.plainKeys)=true:=by kernel_rfl
def TC:(Rows.replicaWaitsRow.shortTexts.isNone)=true:=by kernel_rfl
def TD:(Rows.replicaWaitsRow.lifted==Tryz.prog.liftsFinal)=true:=by kernel_rfl
def TE:(Tryz.prog.make==some Rows.replicaWaitsRow.make)=true:=by kernel_rfl
def TF:(Rows.replicaWaitsRow.kinds==(if Rows.replicaWaitsRow.domain.isEmpty then []else Tryz.f3.params.toList.map λP=>match Tryz.prog.underlying P with|some (.int a)=>some a|_=>none))=true:=by kernel_rfl
def TG:(Rows.replicaWaitsRow.pinned==Rows.replicaWaitsRow.pinnedBy)=true:=by kernel_rfl
def TH:(Rows.replicaWaitsRow.veiled==(Tryz.f3.params.toList++Rows.replicaWaitsSpec.plain.varTypes Tryz.prog++Tryz.f3.resultTypes.toList).any (Tryz.prog.veiledRec ·))=true:=by kernel_rfl
def TI:(Rows.replicaWaitsRow.veiledFits Tryz.prog Tryz.f3.params.toList (Tryz.f3.params.toList++Rows.replicaWaitsSpec.plain.varTypes Tryz.prog++Tryz.f3.resultTypes.toList))=true:=by kernel_rfl
def facts:joinedFacts Tryz.prog 3 Tryz.f3 Rows.replicaWaitsSpec Rows.replicaWaitsRow=true:=by
 unfold joinedFacts;exact tt (tt (tt (tt (tt (tt (tt (tt (tt (tt (tt (tt (tt (tt (tt (tt (tt (tt (tt (tt (tt (tt (tt (tt (tt (tt (tt (tt (tt (tt (tt Uj Ug) Uh) Uk) Ul) Um) Un) Uo) Up) Ui) Tk) Tl) Tm) Tq) Ts) Tt) Tn) Tu) Tv) Tw) Tx) Tz) TA) TC) To) Tp) TD) TE) TF) TG) TH) TI
def inst:Tryz.f3.isInstance Tryz.prog Rows.replicaWaitsRow.origin Rows.replicaWaitsRow.targs:=of_decide_eq_true (by kernel_rfl)
def wrapper:Tryz.f3.isWrapper Tryz.prog Rows.replicaWaitsRow.wrapper Rows.replicaWaitsRow.mainSum:=by unfold Func.isWrapper;first|(rw[if_pos (by decide+kernel)];kernel_rfl)|(rw[if_neg (by decide+kernel)];exact⟨rfl,rfl⟩)
def named:Tryz.prog.funcNamed Rows.replicaWaitsRow.func=some 3:=by kernel_rfl
def looks:Rows.replicaWaitsCard.stood.looks=Tryz.prog.looks []:=by kernel_rfl
def Pc:(Tryz.f3.params.toList.all λP=>!Tryz.prog.wantsStandIn P)=true:=by kernel_rfl
def text:(Rows.replicaWaitsRow).wfByText (OpenSpec.ofChange Rows.replicaWaitsSpec)=true:=by kernel_rfl
def goes:false=(Rows.replicaWaitsRow).goesBy Tryz.prog:=by kernel_rfl
def mainIs:Tryz.prog.mainIs=some (Rows.replicaWaitsCard.stood.harness.1,Rows.replicaWaitsCard.stood.harness.2.toList):=by kernel_rfl

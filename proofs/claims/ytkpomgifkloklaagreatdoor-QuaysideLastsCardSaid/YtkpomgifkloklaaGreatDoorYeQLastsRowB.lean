import Derived.Test.YtkpomgifkloklaaGreatDoorYeQLastsRowA
import Derived.Test.YtkpomgifkloklaaGreatDoorCards
set_option linter.all false
set_option maxRecDepth 100000
namespace Go.Proofs.YtkpomgifkloklaaGreatDoor.bH
def tt{n P:Bool}(a:n=true)(b:P=true):(n&&P)=true:=by rw[a,b];rfl
def jf0:(Rows.quaysideLastsRow).wf (OpenSpec.ofChange Rows.quaysideLastsSpec)=true:=by kernel_rfl
def jf3:(Tryz.f3.params.all (Tryz.prog.readableRec ·))=true:=by kernel_rfl
def jf4:namedTie Tryz.prog Rows.quaysideLastsRow.named Rows.quaysideLastsSpec.vars=true:=by kernel_rfl
def jf5:(Rows.quaysideLastsRow.stops==[])=true:=by kernel_rfl
def jf6:(Tryz.prog.stops==[])=true:=by kernel_rfl
def jf7:(Rows.quaysideLastsRow.knobs==[])=true:=by kernel_rfl
def jf8:(Tryz.prog.stopKnobs==[])=true:=by kernel_rfl
def aai:(Rows.quaysideLastsRow.maps==(Tryz.f3.params.toList++Rows.quaysideLastsSpec.plain.varTypes Tryz.prog).any (Tryz.prog.mapsRec ·))=true:=by kernel_rfl
def aaj:(Rows.quaysideLastsRow.ifaces==(Tryz.f3.params.toList++Rows.quaysideLastsSpec.plain.varTypes Tryz.prog).any (Tryz.prog.ifacesRec ·))=true:=by kernel_rfl
def aak:(Rows.quaysideLastsRow.mapsOut==Tryz.prog.mapsAmong Tryz.f3.resultTypes.toList)=true:=by kernel_rfl
def aal:(Rows.quaysideLastsRow.wideKeys==(Tryz.f3.params.toList++Rows.quaysideLastsSpec.plain.varTypes Tryz.prog++Tryz.f3.resultTypes.toList).any (Tryz.prog.wideKeysFrom ·))=true:=by kernel_rfl
def aam:(Rows.quaysideLastsSpec.vars.all (Tryz.prog.varReadable ·))=true:=by kernel_rfl
def aan:(Tryz.f3.resultTypes.all (λn=>Tryz.prog.readableRec n&&decide (n<Tryz.prog.types.size)))=true:=by kernel_rfl
def aao:(Rows.quaysideLastsRow.ifacesOut==Tryz.f3.resultTypes.toList.any (Tryz.prog.ifacesRec ·))=true:=by kernel_rfl
def aap:(Rows.quaysideLastsRow.loopsOut==Tryz.f3.resultTypes.toList.any (Tryz.prog.loopsFrom ·))=true:=by kernel_rfl
def aaq:(Rows.quaysideLastsRow.plainKeys==Tryz.prog.plainKeys)=true:=by kernel_rfl
def aar:(Rows.quaysideLastsRow.shortTexts.isNone)=true:=by kernel_rfl
def aas:(Rows.quaysideLastsRow.lifted==Tryz.prog.liftsFinal)=true:=by kernel_rfl
def aat:(Tryz.prog.make==some Rows.quaysideLastsRow.make)=true:=by kernel_rfl
def aau:(Rows.quaysideLastsRow.kinds==(if Rows.quaysideLastsRow.domain.isEmpty then []else Tryz.f3.params.toList.map λn=>match Tryz.prog.underlying n with|some (.int P)=>some P|_=>none))=true:=by kernel_rfl
def aav:(Rows.quaysideLastsRow.pinned==Rows.quaysideLastsRow.pinnedBy)=true:=by kernel_rfl
def aaw:(Rows.quaysideLastsRow.veiled==(Tryz.f3.params.toList++Rows.quaysideLastsSpec.plain.varTypes Tryz.prog++Tryz.f3.resultTypes.toList).any (Tryz.prog.veiledRec ·))=true:=by kernel_rfl
def aax:(Rows.quaysideLastsRow.veiledFits Tryz.prog Tryz.f3.params.toList (Tryz.f3.params.toList++Rows.quaysideLastsSpec.plain.varTypes Tryz.prog++Tryz.f3.resultTypes.toList))=true:=by kernel_rfl
def facts:joinedFacts Tryz.prog 3 Tryz.f3 Rows.quaysideLastsSpec Rows.quaysideLastsRow=true:=by
 unfold joinedFacts;exact tt (tt (tt (tt (tt (tt (tt (tt (tt (tt (tt (tt (tt (tt (tt (tt (tt (tt (tt (tt (tt (tt (tt (tt (tt (tt (tt (tt (tt (tt (tt jf0 jf1) jf2) jf3) jf4) jf5) jf6) jf7) jf8) jf9) aac) aad) aae) aai) aaj) aak) aaf) aal) aam) aan) aao) aap) aaq) aar) aag) aah) aas) aat) aau) aav) aaw) aax
def inst:Tryz.f3.isInstance Tryz.prog Rows.quaysideLastsRow.origin Rows.quaysideLastsRow.targs:=of_decide_eq_true (by kernel_rfl)
def wrapper:Tryz.f3.isWrapper Tryz.prog Rows.quaysideLastsRow.wrapper Rows.quaysideLastsRow.mainSum:=by unfold Func.isWrapper;first|(rw[if_pos (by decide+kernel)];kernel_rfl)|(rw[if_neg (by decide+kernel)];exact⟨rfl,rfl⟩)
def named:Tryz.prog.funcNamed Rows.quaysideLastsRow.func=some 3:=by kernel_rfl
def looks:Rows.quaysideLastsCard.stood.looks=Tryz.prog.looks []:=by kernel_rfl
def Vx:(Tryz.f3.params.toList.all λn=>!Tryz.prog.wantsStandIn n)=true:=by kernel_rfl
def text:(Rows.quaysideLastsRow).wfByText (OpenSpec.ofChange Rows.quaysideLastsSpec)=true:=by kernel_rfl
def goes:false=(Rows.quaysideLastsRow).goesBy Tryz.prog:=by kernel_rfl
def mainIs:Tryz.prog.mainIs=some (Rows.quaysideLastsCard.stood.harness.1,Rows.quaysideLastsCard.stood.harness.2.toList):=by kernel_rfl

import Derived.Test.YtkpomgifkloklabGreatDoorYfOrd3RowA
import Derived.Test.YtkpomgifkloklabGreatDoorCards
set_option linter.all false
set_option maxRecDepth 100000
namespace Go.Proofs.YtkpomgifkloklabGreatDoor.bC
def tt{n P:Bool}(a:n=true)(b:P=true):(n&&P)=true:=by rw[a,b];rfl
def jf0:(Rows.quaysideOrderRow).wf (OpenSpec.ofChange Rows.quaysideOrderSpec)=true:=by kernel_rfl
def jf3:(Tryz.f3.params.all (Tryz.prog.readableRec ·))=true:=by kernel_rfl
def jf4:namedTie Tryz.prog Rows.quaysideOrderRow.named Rows.quaysideOrderSpec.vars=true:=by kernel_rfl
def jf5:(Rows.quaysideOrderRow.stops==[])=true:=by kernel_rfl
def jf6:(Tryz.prog.stops==[])=true:=by kernel_rfl
def jf7:(Rows.quaysideOrderRow.knobs==[])=true:=by kernel_rfl
def jf8:(Tryz.prog.stopKnobs==[])=true:=by kernel_rfl
def Zs:(Rows.quaysideOrderRow.maps==(Tryz.f3.params.toList++Rows.quaysideOrderSpec.plain.varTypes Tryz.prog).any (Tryz.prog.mapsRec ·))=true:=by kernel_rfl
def Zt:(Rows.quaysideOrderRow.ifaces==(Tryz.f3.params.toList++Rows.quaysideOrderSpec.plain.varTypes Tryz.prog).any (Tryz.prog.ifacesRec ·))=true:=by kernel_rfl
def Zu:(Rows.quaysideOrderRow.mapsOut==Tryz.prog.mapsAmong Tryz.f3.resultTypes.toList)=true:=by kernel_rfl
def ZA:(Rows.quaysideOrderRow.wideKeys==(Tryz.f3.params.toList++Rows.quaysideOrderSpec.plain.varTypes Tryz.prog++Tryz.f3.resultTypes.toList).any (Tryz.prog.wideKeysFrom ·))=true:=by kernel_rfl
def ZB:(Rows.quaysideOrderSpec.vars.all (Tryz.prog.varReadable ·))=true:=by kernel_rfl
def ZC:(Tryz.f3.resultTypes.all (λn=>Tryz.prog.readableRec n&&decide (n<Tryz.prog.types.size)))=true:=by kernel_rfl
def ZD:(Rows.quaysideOrderRow.ifacesOut==Tryz.f3.resultTypes.toList.any (Tryz.prog.ifacesRec ·))=true:=by kernel_rfl
def ZE:(Rows.quaysideOrderRow.loopsOut==Tryz.f3.resultTypes.toList.any (Tryz.prog.loopsFrom ·))=true:=by kernel_rfl
def ZF:(Rows.quaysideOrderRow.plainKeys==Tryz.prog.plainKeys)=true:=by kernel_rfl
def ZG:(Rows.quaysideOrderRow.shortTexts.isNone)=true:=by kernel_rfl
def ZH:(Rows.quaysideOrderRow.lifted==Tryz.prog.liftsFinal)=true:=by kernel_rfl
def ZI:(Tryz.prog.make==some Rows.quaysideOrderRow.make)=true:=by kernel_rfl
def ZL:(Rows.quaysideOrderRow.kinds==(if Rows.quaysideOrderRow.domain.isEmpty then []else Tryz.f3.params.toList.map λn=>match Tryz.prog.underlying n with|some (.int P)=>some P|_=>none))=true:=by kernel_rfl
def ZM:(Rows.quaysideOrderRow.pinned==Rows.quaysideOrderRow.pinnedBy)=true:=by kernel_rfl
def ZN:(Rows.quaysideOrderRow.veiled==(Tryz.f3.params.toList++Rows.quaysideOrderSpec.plain.varTypes Tryz.prog++Tryz.f3.resultTypes.toList).any (Tryz.prog.veiledRec ·))=true:=by kernel_rfl
def ZO:(Rows.quaysideOrderRow.veiledFits Tryz.prog Tryz.f3.params.toList (Tryz.f3.params.toList++Rows.quaysideOrderSpec.plain.varTypes Tryz.prog++Tryz.f3.resultTypes.toList))=true:=by kernel_rfl
def facts:joinedFacts Tryz.prog 3 Tryz.f3 Rows.quaysideOrderSpec Rows.quaysideOrderRow=true:=by
 unfold joinedFacts;exact tt (tt (tt (tt (tt (tt (tt (tt (tt (tt (tt (tt (tt (tt (tt (tt (tt (tt (tt (tt (tt (tt (tt (tt (tt (tt (tt (tt (tt (tt (tt jf0 jf1) jf2) jf3) jf4) jf5) jf6) jf7) jf8) jf9) Zl) Zm) Zn) Zs) Zt) Zu) Zo) ZA) ZB) ZC) ZD) ZE) ZF) ZG) Zp) Zr) ZH) ZI) ZL) ZM) ZN) ZO
def inst:Tryz.f3.isInstance Tryz.prog Rows.quaysideOrderRow.origin Rows.quaysideOrderRow.targs:=of_decide_eq_true (by kernel_rfl)
def wrapper:Tryz.f3.isWrapper Tryz.prog Rows.quaysideOrderRow.wrapper Rows.quaysideOrderRow.mainSum:=by unfold Func.isWrapper;first|(rw[if_pos (by decide+kernel)];kernel_rfl)|(rw[if_neg (by decide+kernel)];exact⟨rfl,rfl⟩)
def named:Tryz.prog.funcNamed Rows.quaysideOrderRow.func=some 3:=by kernel_rfl
def looks:Rows.quaysideOrderCard.stood.looks=Tryz.prog.looks []:=by kernel_rfl
def UT:(Tryz.f3.params.toList.all λn=>!Tryz.prog.wantsStandIn n)=true:=by kernel_rfl
def text:(Rows.quaysideOrderRow).wfByText (OpenSpec.ofChange Rows.quaysideOrderSpec)=true:=by kernel_rfl
def goes:false=(Rows.quaysideOrderRow).goesBy Tryz.prog:=by kernel_rfl
def mainIs:Tryz.prog.mainIs=some (Rows.quaysideOrderCard.stood.harness.1,Rows.quaysideOrderCard.stood.harness.2.toList):=by kernel_rfl

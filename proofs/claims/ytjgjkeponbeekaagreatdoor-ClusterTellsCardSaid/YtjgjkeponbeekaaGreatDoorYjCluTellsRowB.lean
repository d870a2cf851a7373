import Derived.Test.YtjgjkeponbeekaaGreatDoorYjCluTellsRowA
import Derived.Test.YtjgjkeponbeekaaGreatDoorCards
set_option linter.all false
set_option maxRecDepth 100000
namespace Go.Proofs.YtjgjkeponbeekaaGreatDoor.bP
def tt{n P:Bool}(a:n=true)(b:P=true):(n&&P)=true:=by rw[a,b];rfl
def jf0:(Rows.clusterTellsRow).wf (OpenSpec.ofChange Rows.clusterTellsSpec)=true:=by kernel_rfl
def jf3:(Tryz.f3.params.all (Tryz.prog.readableRec ·))=true:=by kernel_rfl
def jf4:namedTie Tryz.prog Rows.clusterTellsRow.named Rows.clusterTellsSpec.vars=true:=by kernel_rfl
def jf5:(Rows.clusterTellsRow.stops==[])=true:=by kernel_rfl
def jf6:(Tryz.prog.stops==[])=true:=by kernel_rfl
def jf7:(Rows.clusterTellsRow.knobs==[])=true:=by kernel_rfl
def jf8:(Tryz.prog.stopKnobs==[])=true:=by kernel_rfl
def YX:(Rows.clusterTellsRow.maps==(Tryz.f3.params.toList++Rows.clusterTellsSpec.plain.varTypes Tryz.prog).any (Tryz.prog.mapsRec ·))=true:=by kernel_rfl
def YY:(Rows.clusterTellsRow.ifaces==(Tryz.f3.params.toList++Rows.clusterTellsSpec.plain.varTypes Tryz.prog).any (Tryz.prog.ifacesRec ·))=true:=by kernel_rfl
def YZ:(Rows.clusterTellsRow.mapsOut==Tryz.prog.mapsAmong Tryz.f3.resultTypes.toList)=true:=by kernel_rfl
def Y_:(Rows.clusterTellsRow.wideKeys==(Tryz.f3.params.toList++Rows.clusterTellsSpec.plain.varTypes Tryz.prog++Tryz.f3.resultTypes.toList).any (Tryz.prog.wideKeysFrom ·))=true:=by kernel_rfl
def Za:(Rows.clusterTellsSpec.vars.all (Tryz.prog.varReadable ·))=true:=by kernel_rfl
def Zb:(Tryz.f3.resultTypes.all (λn=>Tryz.prog.readableRec n&&decide (n<Tryz.prog.types.size)))=true:=by kernel_rfl
def Zc:(Rows.clusterTellsRow.ifacesOut==Tryz.f3.resultTypes.toList.any (Tryz.prog.ifacesRec ·))=true:=by kernel_rfl
def Zd:(Rows.clusterTellsRow.loopsOut==Tryz.f3.resultTypes.toList.any (Tryz.prog.loopsFrom ·))=true:=by kernel_rfl
def Ze:(Rows.clusterTellsRow.plainKeys==Tryz.prog.plainKeys)=true:=by kernel_rfl
def Zf:(Rows.clusterTellsRow.shortTexts.isNone)=true:=by kernel_rfl
def Zg:(Rows.clusterTellsRow.lifted==Tryz.prog.liftsFinal)=true:=by kernel_rfl
def Zh:(Tryz.prog.make==some Rows.clusterTellsRow.make)=true:=by kernel_rfl
def Zi:(Rows.clusterTellsRow.kinds==(if Rows.clusterTellsRow.domain.isEmpty then []else Tryz.f3.params.toList.map λn=>match Tryz.prog.underlying n with|some (.int P)=>some P|_=>none))=true:=by kernel_rfl
def Zl:(Rows.clusterTellsRow.pinned==Rows.clusterTellsRow.pinnedBy)=true:=by kernel_rfl
def Zm:(Rows.clusterTellsRow.veiled==(Tryz.f3.params.toList++Rows.clusterTellsSpec.plain.varTypes Tryz.prog++Tryz.f3.resultTypes.toList).any (Tryz.prog.veiledRec ·))=true:=by kernel_rfl
def Zn:(Rows.clusterTellsRow.veiledFits Tryz.prog Tryz.f3.params.toList (Tryz.f3.params.toList++Rows.clusterTellsSpec.plain.varTypes Tryz.prog++Tryz.f3.resultTypes.toList))=true:=by kernel_rfl
def facts:joinedFacts Tryz.prog 3 Tryz.f3 Rows.clusterTellsSpec Rows.clusterTellsRow=true:=by
 unfold joinedFacts;exact tt (tt (tt (tt (tt (tt (tt (tt (tt (tt (tt (tt (tt (tt (tt (tt (tt (tt (tt (tt (tt (tt (tt (tt (tt (tt (tt (tt (tt (tt (tt jf0 jf1) jf2) jf3) jf4) jf5) jf6) jf7) jf8) jf9) YR) YS) YT) YX) YY) YZ) YU) Y_) Za) Zb) Zc) Zd) Ze) Zf) YV) YW) Zg) Zh) Zi) Zl) Zm) Zn
def inst:Tryz.f3.isInstance Tryz.prog Rows.clusterTellsRow.origin Rows.clusterTellsRow.targs:=of_decide_eq_true (by kernel_rfl)
def wrapper:Tryz.f3.isWrapper Tryz.prog Rows.clusterTellsRow.wrapper Rows.clusterTellsRow.mainSum:=by unfold Func.isWrapper;first|(rw[if_pos (by decide+kernel)];kernel_rfl)|(rw[if_neg (by decide+kernel)];exact⟨rfl,rfl⟩)
def named:Tryz.prog.funcNamed Rows.clusterTellsRow.func=some 3:=by kernel_rfl
def looks:Rows.clusterTellsCard.stood.looks=Tryz.prog.looks []:=by kernel_rfl
def Uc:(Tryz.f3.params.toList.all λn=>!Tryz.prog.wantsStandIn n)=true:=by kernel_rfl
def text:(Rows.clusterTellsRow).wfByText (OpenSpec.ofChange Rows.clusterTellsSpec)=true:=by kernel_rfl
def goes:false=(Rows.clusterTellsRow).goesBy Tryz.prog:=by kernel_rfl
def mainIs:Tryz.prog.mainIs=some (Rows.clusterTellsCard.stood.harness.1,Rows.clusterTellsCard.stood.harness.2.toList):=by kernel_rfl

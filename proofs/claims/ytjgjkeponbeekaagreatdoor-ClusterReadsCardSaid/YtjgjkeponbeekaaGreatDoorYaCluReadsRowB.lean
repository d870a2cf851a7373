import Derived.Test.YtjgjkeponbeekaaGreatDoorYaCluReadsRowA
import Derived.Test.YtjgjkeponbeekaaGreatDoorCards
set_option linter.all false
set_option maxRecDepth 100000
namespace Go.Proofs.YtjgjkeponbeekaaGreatDoor.bB
def tt{a b:Bool}(c:a=true)(d:b=true):(a&&b)=true:=by rw[c,d];rfl
def Xf:(Rows.clusterReadsRow).wf (OpenSpec.ofChange Rows.clusterReadsSpec)=true:=by kernel_rfl
def Xg:(Tryz.f4.params.all (Tryz.prog.readableRec ·))=true:=by kernel_rfl
def Xh:namedTie Tryz.prog Rows.clusterReadsRow.named Rows.clusterReadsSpec.vars=true:=by kernel_rfl
def Xi:(Rows.clusterReadsRow.stops==[])=true:=by kernel_rfl
def Xl:(Tryz.prog.stops==[])=true:=by kernel_rfl
def Xm:(Rows.clusterReadsRow.knobs==[])=true:=by kernel_rfl
def Xn:(Tryz.prog.stopKnobs==[])=true:=by kernel_rfl
def We:(Rows.clusterReadsRow.maps==(Tryz.f4.params.toList++Rows.clusterReadsSpec.plain.varTypes Tryz.prog).any (Tryz.prog.mapsRec ·))=true:=by kernel_rfl
def Wf:(Rows.clusterReadsRow.ifaces==(Tryz.f4.params.toList++Rows.clusterReadsSpec.plain.varTypes Tryz.prog).any (Tryz.prog.ifacesRec ·))=true:=by kernel_rfl
def Wg:(Rows.clusterReadsRow.mapsOut==Tryz.prog.mapsAmong Tryz.f4.resultTypes.toList)=true:=by kernel_rfl
def Wh:(Rows.clusterReadsRow.wideKeys==(Tryz.f4.params.toList++Rows.clusterReadsSpec.plain.varTypes Tryz.prog++Tryz.f4.resultTypes.toList).any (Tryz.prog.wideKeysFrom ·))=true:=by kernel_rfl
def Wi:(Rows.clusterReadsSpec.vars.all (Tryz.prog.varReadable ·))=true:=by kernel_rfl
def Wj:(Tryz.f4.resultTypes.all (λa=>Tryz.prog.readableRec a&&decide (a<Tryz.prog.types.size)))=true:=by kernel_rfl
def Wl:(Rows.clusterReadsRow.ifacesOut==Tryz.f4.resultTypes.toList.any (Tryz.prog.ifacesRec ·))=true:=by kernel_rfl
def Wm:(Rows.clusterReadsRow.loopsOut==Tryz.f4.resultTypes.toList.any (Tryz.prog.loopsFrom ·))=true:=by kernel_rfl
def Wn:(Rows.clusterReadsRow.plainKeys==Tryz.prog.plainKeys)=true:=by kernel_rfl
def Wo:(Rows.clusterReadsRow.shortTexts.isNone)=true:=by kernel_rfl
def Wp:(Rows.clusterReadsRow.lifted==Tryz.prog.liftsFinal)=true:=by kernel_rfl
def Wq:(Tryz.prog.make==some Rows.clusterReadsRow.make)=true:=by kernel_rfl
def Wr:(Rows.clusterReadsRow.kinds==(if Rows.clusterReadsRow.domain.isEmpty then []else Tryz.f4.params.toList.map λa=>match Tryz.prog.underlying a with|some (.int b)=>some b|_=>none))=true:=by kernel_rfl
def Ws:(Rows.clusterReadsRow.pinned==Rows.clusterReadsRow.pinnedBy)=true:=by kernel_rfl
def Wt:(Rows.clusterReadsRow.veiled==(Tryz.f4.params.toList++Rows.clusterReadsSpec.plain.varTypes Tryz.prog++Tryz.f4.resultTypes.toList).any (Tryz.prog.veiledRec ·))=true:=by kernel_rfl
def Wu:(Rows.clusterReadsRow.veiledFits Tryz.prog Tryz.f4.params.toList (Tryz.f4.params.toList++Rows.clusterReadsSpec.plain.varTypes Tryz.prog++Tryz.f4.resultTypes.toList))=true:=by kernel_rfl
def facts:joinedFacts Tryz.prog 4 Tryz.f4 Rows.clusterReadsSpec Rows.clusterReadsRow=true:=by
 unfold joinedFacts;exact tt (tt (tt (tt (tt (tt (tt (tt (tt (tt (tt (tt (tt (tt (tt (tt (tt (tt (tt (tt (tt (tt (tt (tt (tt (tt (tt (tt (tt (tt (tt Xf Xc) Xd) Xg) Xh) Xi) Xl) Xm) Xn) Xe) VZ) V_) Wa) We) Wf) Wg) Wb) Wh) Wi) Wj) Wl) Wm) Wn) Wo) Wc) Wd) Wp) Wq) Wr) Ws) Wt) Wu
def inst:Tryz.f4.isInstance Tryz.prog Rows.clusterReadsRow.origin Rows.clusterReadsRow.targs:=of_decide_eq_true (by kernel_rfl)
def wrapper:Tryz.f4.isWrapper Tryz.prog Rows.clusterReadsRow.wrapper Rows.clusterReadsRow.mainSum:=by unfold Func.isWrapper;first|(rw[if_pos (by decide+kernel)];kernel_rfl)|(rw[if_neg (by decide+kernel)];exact⟨rfl,rfl⟩)
def named:Tryz.prog.funcNamed Rows.clusterReadsRow.func=some 4:=by kernel_rfl
def looks:Rows.clusterReadsCard.stood.looks=Tryz.prog.looks []:=by kernel_rfl
def RD:(Tryz.f4.params.toList.all λa=>!Tryz.prog.wantsStandIn a)=true:=by kernel_rfl
def text:(Rows.clusterReadsRow).wfByText (OpenSpec.ofChange Rows.clusterReadsSpec)=true:=by kernel_rfl
def goes:false=(Rows.clusterReadsRow).goesBy Tryz.prog:=by kernel_rfl
def mainIs:Tryz.prog.mainIs=some (Rows.clusterReadsCard.stood.harness.1,Rows.clusterReadsCard.stood.harness.2.toList):=by kernel_rfl
end Go.Proofs.YtjgjkeponbeekaaGreatDoor.bB

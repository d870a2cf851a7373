import Derived.Test.YtjgjkeponbeekaaGreatDoorYiCluReadsRowA
import Derived.Test.YtjgjkeponbeekaaGreatDoorCards
set_option linter.all false
set_option maxRecDepth 100000
namespace Go.Proofs.YtjgjkeponbeekaaGreatDoor.bz
def tt{n P:Bool}(a:n=true)(b:P=true):(n&&P)=true:=by rw[a,b];rfl
def WT:(Rows.clusterReadsRow).wf (OpenSpec.ofChange Rows.clusterReadsSpec)=true:=by kernel_rfl
def WU:(Tryz.f4.params.all (Tryz.prog.readableRec ·))=true:=by kernel_rfl
def WV:namedTie Tryz.prog Rows.clusterReadsRow.named Rows.clusterReadsSpec.vars=true:=by kernel_rfl
def WW:(Rows.clusterReadsRow.stops==[])=true:=by kernel_rfl
def WX:(Tryz.prog.stops==[])=true:=by kernel_rfl
def WY:(Rows.clusterReadsRow.knobs==[])=true:=by kernel_rfl
def WZ:(Tryz.prog.stopKnobs==[])=true:=by kernel_rfl
def VT:(Rows.clusterReadsRow.maps==(Tryz.f4.params.toList++Rows.clusterReadsSpec.plain.varTypes Tryz.prog).any (Tryz.prog.mapsRec ·))=true:=by kernel_rfl
def VU:(Rows.clusterReadsRow.ifaces==(Tryz.f4.params.toList++Rows.clusterReadsSpec.plain.varTypes Tryz.prog).any (Tryz.prog.ifacesRec ·))=true:=by kernel_rfl
def VV:(Rows.clusterReadsRow.mapsOut==Tryz.prog.mapsAmong Tryz.f4.resultTypes.toList)=true:=by kernel_rfl
def VW:(Rows.clusterReadsRow.wideKeys==(Tryz.f4.params.toList++Rows.clusterReadsSpec.plain.varTypes Tryz.prog++Tryz.f4.resultTypes.toList).any (Tryz.prog.wideKeysFrom ·))=true:=by kernel_rfl
def VX:(Rows.clusterReadsSpec.vars.all (Tryz.prog.varReadable ·))=true:=by kernel_rfl
def VY:(Tryz.f4.resultTypes.all (λn=>Tryz.prog.readableRec n&&decide (n<Tryz.prog.types.size)))=true:=by kernel_rfl
def VZ:(Rows.clusterReadsRow.ifacesOut==Tryz.f4.resultTypes.toList.any (Tryz.prog.ifacesRec ·))=true:=by kernel_rfl
def V_:(Rows.clusterReadsRow.loopsOut==Tryz.f4.resultTypes.toList.any (Tryz.prog.loopsFrom ·))=true:=by kernel_rfl
def Wa:(Rows.clusterReadsRow.plainKeys==Tryz.prog.plainKeys)=true:=by kernel_rfl
def Wb:(Rows.clusterReadsRow.shortTexts.isNone)=true:=by kernel_rfl
def Wc:(Rows.clusterReadsRow.lifted==Tryz.prog.liftsFinal)=true:=by kernel_rfl
def Wd:(Tryz.prog.make==some Rows.clusterReadsRow.make)=true:=by kernel_rfl
def We:(Rows.clusterReadsRow.kinds==(if Rows.clusterReadsRow.domain.isEmpty then []else Tryz.f4.params.toList.map λn=>match Tryz.prog.underlying n with|some (.int P)=>some P|_=>none))=true:=by kernel_rfl
def Wf:(Rows.clusterReadsRow.pinned==Rows.clusterReadsRow.pinnedBy)=true:=by kernel_rfl
def Wg:(Rows.clusterReadsRow.veiled==(Tryz.f4.params.toList++Rows.clusterReadsSpec.plain.varTypes Tryz.prog++Tryz.f4.resultTypes.toList).any (Tryz.prog.veiledRec ·))=true:=by kernel_rfl
def Wh:(Rows.clusterReadsRow.veiledFits Tryz.prog Tryz.f4.params.toList (Tryz.f4.params.toList++Rows.clusterReadsSpec.plain.varTypes Tryz.prog++Tryz.f4.resultTypes.toList))=true:=by kernel_rfl
def facts:joinedFacts Tryz.prog 4 Tryz.f4 Rows.clusterReadsSpec Rows.clusterReadsRow=true:=by
 unfold joinedFacts;exact tt (tt (tt (tt (tt (tt (tt (tt (tt (tt (tt (tt (tt (tt (tt (tt (tt (tt (tt (tt (tt (tt (tt (tt (tt (tt (tt (tt (tt (tt (tt WT WQ) WR) WU) WV) WW) WX) WY) WZ) WS) VN) VO) VP) VT) VU) VV) VQ) VW) VX) VY) VZ) V_) Wa) Wb) VR) VS) Wc) Wd) We) Wf) Wg) Wh
def inst:Tryz.f4.isInstance Tryz.prog Rows.clusterReadsRow.origin Rows.clusterReadsRow.targs:=of_decide_eq_true (by kernel_rfl)
def wrapper:Tryz.f4.isWrapper Tryz.prog Rows.clusterReadsRow.wrapper Rows.clusterReadsRow.mainSum:=by unfold Func.isWrapper;first|(rw[if_pos (by decide+kernel)];kernel_rfl)|(rw[if_neg (by decide+kernel)];exact⟨rfl,rfl⟩)
def named:Tryz.prog.funcNamed Rows.clusterReadsRow.func=some 4:=by kernel_rfl
def looks:Rows.clusterReadsCard.stood.looks=Tryz.prog.looks []:=by kernel_rfl
def Rt:(Tryz.f4.params.toList.all λn=>!Tryz.prog.wantsStandIn n)=true:=by kernel_rfl
def text:(Rows.clusterReadsRow).wfByText (OpenSpec.ofChange Rows.clusterReadsSpec)=true:=by kernel_rfl
def goes:false=(Rows.clusterReadsRow).goesBy Tryz.prog:=by kernel_rfl
def mainIs:Tryz.prog.mainIs=some (Rows.clusterReadsCard.stood.harness.1,Rows.clusterReadsCard.stood.harness.2.toList):=by kernel_rfl

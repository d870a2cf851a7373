import Derived.Test.YtjgjkeponbeekaaGreatDoorYkCluLostRowA
import Derived.Test.YtjgjkeponbeekaaGreatDoorCards
set_option linter.all false
set_option maxRecDepth 100000
namespace Go.Proofs.YtjgjkeponbeekaaGreatDoor.cg
def tt{n P:Bool}(a:n=true)(b:P=true):(n&&P)=true:=by rw[a,b];rfl
def Zi:(Rows.clusterLostRow).wf (OpenSpec.ofChange Rows.clusterLostSpec)=true:=by kernel_rfl
def Zl:(Tryz.f5.params.all (Tryz.prog.readableRec ·))=true:=by kernel_rfl
def Zm:namedTie Tryz.prog Rows.clusterLostRow.named Rows.clusterLostSpec.vars=true:=by kernel_rfl
def Zn:(Rows.clusterLostRow.stops==[])=true:=by kernel_rfl
def Zo:(Tryz.prog.stops==[])=true:=by kernel_rfl
def Zp:(Rows.clusterLostRow.knobs==[])=true:=by kernel_rfl
def Zr:(Tryz.prog.stopKnobs==[])=true:=by kernel_rfl
def Yk:(Rows.clusterLostRow.maps==(Tryz.f5.params.toList++Rows.clusterLostSpec.plain.varTypes Tryz.prog).any (Tryz.prog.mapsRec ·))=true:=by kernel_rfl
def Yl:(Rows.clusterLostRow.ifaces==(Tryz.f5.params.toList++Rows.clusterLostSpec.plain.varTypes Tryz.prog).any (Tryz.prog.ifacesRec ·))=true:=by kernel_rfl
def Ym:(Rows.clusterLostRow.mapsOut==Tryz.prog.mapsAmong Tryz.f5.resultTypes.toList)=true:=by kernel_rfl
def Yn:(Rows.clusterLostRow.wideKeys==(Tryz.f5.params.toList++Rows.clusterLostSpec.plain.varTypes Tryz.prog++Tryz.f5.resultTypes.toList).any (Tryz.prog.wideKeysFrom ·))=true:=by kernel_rfl
def Yo:(Rows.clusterLostSpec.vars.all (Tryz.prog.varReadable ·))=true:=by kernel_rfl
def Yp:(Tryz.f5.resultTypes.all (λn=>Tryz.prog.readableRec n&&decide (n<Tryz.prog.types.size)))=true:=by kernel_rfl
def Yq:(Rows.clusterLostRow.ifacesOut==Tryz.f5.resultTypes.toList.any (Tryz.prog.ifacesRec ·))=true:=by kernel_rfl
def Yr:(Rows.clusterLostRow.loopsOut==Tryz.f5.resultTypes.toList.any (Tryz.prog.loopsFrom ·))=true:=by kernel_rfl
def Ys:(Rows.clusterLostRow.plainKeys==Tryz.prog.plainKeys)=true:=by kernel_rfl
def Yt:(Rows.clusterLostRow.shortTexts.isNone)=true:=by kernel_rfl
def Yu:(Rows.clusterLostRow.lifted==Tryz.prog.liftsFinal)=true:=by kernel_rfl
def Yv:(Tryz.prog.make==some Rows.clusterLostRow.make)=true:=by kernel_rfl
def Yw:(Rows.clusterLostRow.kinds==(if Rows.clusterLostRow.domain.isEmpty then []else Tryz.f5.params.toList.map λn=>match Tryz.prog.underlying n with|some (.int P)=>some P|_=>none))=true:=by kernel_rfl
def Yx:(Rows.clusterLostRow.pinned==Rows.clusterLostRow.pinnedBy)=true:=by kernel_rfl
def Yy:(Rows.clusterLostRow.veiled==(Tryz.f5.params.toList++Rows.clusterLostSpec.plain.varTypes Tryz.prog++Tryz.f5.resultTypes.toList).any (Tryz.prog.veiledRec ·))=true:=by kernel_rfl
def Yz:(Rows.clusterLostRow.veiledFits Tryz.prog Tryz.f5.params.toList (Tryz.f5.params.toList++Rows.clusterLostSpec.plain.varTypes Tryz.prog++Tryz.f5.resultTypes.toList))=true:=by kernel_rfl
def facts:joinedFacts Tryz.prog 5 Tryz.f5 Rows.clusterLostSpec Rows.clusterLostRow=true:=by
 unfold joinedFacts;exact tt (tt (tt (tt (tt (tt (tt (tt (tt (tt (tt (tt (tt (tt (tt (tt (tt (tt (tt (tt (tt (tt (tt (tt (tt (tt (tt (tt (tt (tt (tt Zi Zf) Zg) Zl) Zm) Zn) Zo) Zp) Zr) Zh) Ye) Yf) Yg) Yk) Yl) Ym) Yh) Yn) Yo) Yp) Yq) Yr) Ys) Yt) Yi) Yj) Yu) Yv) Yw) Yx) Yy) Yz
def inst:Tryz.f5.isInstance Tryz.prog Rows.clusterLostRow.origin Rows.clusterLostRow.targs:=of_decide_eq_true (by kernel_rfl)
def wrapper:Tryz.f5.isWrapper Tryz.prog Rows.clusterLostRow.wrapper Rows.clusterLostRow.mainSum:=by unfold Func.isWrapper;first|(rw[if_pos (by decide+kernel)];kernel_rfl)|(rw[if_neg (by decide+kernel)];exact⟨rfl,rfl⟩)
def named:Tryz.prog.funcNamed Rows.clusterLostRow.func=some 5:=by kernel_rfl
def looks:Rows.clusterLostCard.stood.looks=Tryz.prog.looks []:=by kernel_rfl
def Tu:(Tryz.f5.params.toList.all λn=>!Tryz.prog.wantsStandIn n)=true:=by kernel_rfl
def text:(Rows.clusterLostRow).wfByText (OpenSpec.ofChange Rows.clusterLostSpec)=true:=by kernel_rfl
def goes:false=(Rows.clusterLostRow).goesBy Tryz.prog:=by kernel_rfl
def mainIs:Tryz.prog.mainIs=some (Rows.clusterLostCard.stood.harness.1,Rows.clusterLostCard.stood.harness.2.toList):=by kernel_rfl

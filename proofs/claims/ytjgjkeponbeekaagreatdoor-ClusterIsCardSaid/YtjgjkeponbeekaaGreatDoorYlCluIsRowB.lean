import Derived.Test.YtjgjkeponbeekaaGreatDoorYlCluIsRowA
import Derived.Test.YtjgjkeponbeekaaGreatDoorCards
set_option linter.all false
set_option maxRecDepth 100000
namespace Go.Proofs.YtjgjkeponbeekaaGreatDoor.cF
def tt{n P:Bool}(a:n=true)(b:P=true):(n&&P)=true:=by rw[a,b];rfl
def XH:(Rows.clusterIsRow).wf (OpenSpec.ofChange Rows.clusterIsSpec)=true:=by kernel_rfl
def XI:(Tryz.f6.params.all (Tryz.prog.readableRec ·))=true:=by kernel_rfl
def XL:namedTie Tryz.prog Rows.clusterIsRow.named Rows.clusterIsSpec.vars=true:=by kernel_rfl
def XM:(Rows.clusterIsRow.stops==[])=true:=by kernel_rfl
def XN:(Tryz.prog.stops==[])=true:=by kernel_rfl
def XO:(Rows.clusterIsRow.knobs==[])=true:=by kernel_rfl
def XP:(Tryz.prog.stopKnobs==[])=true:=by kernel_rfl
def WA:(Rows.clusterIsRow.maps==(Tryz.f6.params.toList++Rows.clusterIsSpec.plain.varTypes Tryz.prog).any (Tryz.prog.mapsRec ·))=true:=by kernel_rfl
def WB:(Rows.clusterIsRow.ifaces==(Tryz.f6.params.toList++Rows.clusterIsSpec.plain.varTypes Tryz.prog).any (Tryz.prog.ifacesRec ·))=true:=by kernel_rfl
def WC:(Rows.clusterIsRow.mapsOut==Tryz.prog.mapsAmong Tryz.f6.resultTypes.toList)=true:=by kernel_rfl
def WD:(Rows.clusterIsRow.wideKeys==(Tryz.f6.params.toList++Rows.clusterIsSpec.plain.varTypes Tryz.prog++Tryz.f6.resultTypes.toList).any (Tryz.prog.wideKeysFrom ·))=true:=by kernel_rfl
def WE:(Rows.clusterIsSpec.vars.all (Tryz.prog.varReadable ·))=true:=by kernel_rfl
def WG:(Tryz.f6.resultTypes.all (λn=>Tryz.prog.readableRec n&&decide (n<Tryz.prog.types.size)))=true:=by kernel_rfl
def WH:(Rows.clusterIsRow.ifacesOut==Tryz.f6.resultTypes.toList.any (Tryz.prog.ifacesRec ·))=true:=by kernel_rfl
def WI:(Rows.clusterIsRow.loopsOut==Tryz.f6.resultTypes.toList.any (Tryz.prog.loopsFrom ·))=true:=by kernel_rfl
def WJ:(Rows.clusterIsRow.plainKeys==Tryz.prog.plainKeys)=true:=by kernel_rfl
def WK:(Rows.clusterIsRow.shortTexts.isNone)=true:=by kernel_rfl
def WL:(Rows.clusterIsRow.lifted==Tryz.prog.liftsFinal)=true:=by kernel_rfl
def WM:(Tryz.prog.make==some Rows.clusterIsRow.make)=true:=by kernel_rfl
def WN:(Rows.clusterIsRow.kinds==(if Rows.clusterIsRow.domain.isEmpty then []else Tryz.f6.params.toList.map λn=>match Tryz.prog.underlying n with|some (.int P)=>some P|_=>none))=true:=by kernel_rfl
def WO:(Rows.clusterIsRow.pinned==Rows.clusterIsRow.pinnedBy)=true:=by kernel_rfl
def WQ:(Rows.clusterIsRow.veiled==(Tryz.f6.params.toList++Rows.clusterIsSpec.plain.varTypes Tryz.prog++Tryz.f6.resultTypes.toList).any (Tryz.prog.veiledRec ·))=true:=by kernel_rfl
def WR:(Rows.clusterIsRow.veiledFits Tryz.prog Tryz.f6.params.toList (Tryz.f6.params.toList++Rows.clusterIsSpec.plain.varTypes Tryz.prog++Tryz.f6.resultTypes.toList))=true:=by kernel_rfl
def facts:joinedFacts Tryz.prog 6 Tryz.f6 Rows.clusterIsSpec Rows.clusterIsRow=true:=by
 unfold joinedFacts;exact tt (tt (tt (tt (tt (tt (tt (tt (tt (tt (tt (tt (tt (tt (tt (tt (tt (tt (tt (tt (tt (tt (tt (tt (tt (tt (tt (tt (tt (tt (tt XH XE) XF) XI) XL) XM) XN) XO) XP) XG) Wu) Wv) Ww) WA) WB) WC) Wx) WD) WE) WG) WH) WI) WJ) WK) Wy) Wz) WL) WM) WN) WO) WQ) WR
def inst:Tryz.f6.isInstance Tryz.prog Rows.clusterIsRow.origin Rows.clusterIsRow.targs:=of_decide_eq_true (by kernel_rfl)
def wrapper:Tryz.f6.isWrapper Tryz.prog Rows.clusterIsRow.wrapper Rows.clusterIsRow.mainSum:=by unfold Func.isWrapper;first|(rw[if_pos (by decide+kernel)];kernel_rfl)|(rw[if_neg (by decide+kernel)];exact⟨rfl,rfl⟩)
def named:Tryz.prog.funcNamed Rows.clusterIsRow.func=some 6:=by kernel_rfl
def looks:Rows.clusterIsCard.stood.looks=Tryz.prog.looks []:=by kernel_rfl
def R_:(Tryz.f6.params.toList.all λn=>!Tryz.prog.wantsStandIn n)=true:=by kernel_rfl
def text:(Rows.clusterIsRow).wfByText (OpenSpec.ofChange Rows.clusterIsSpec)=true:=by kernel_rfl
def goes:false=(Rows.clusterIsRow).goesBy Tryz.prog:=by kernel_rfl
def mainIs:Tryz.prog.mainIs=some (Rows.clusterIsCard.stood.harness.1,Rows.clusterIsCard.stood.harness.2.toList):=by kernel_rfl

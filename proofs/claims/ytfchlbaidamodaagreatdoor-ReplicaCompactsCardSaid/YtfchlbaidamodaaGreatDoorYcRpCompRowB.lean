import Derived.Test.YtfchlbaidamodaaGreatDoorYcRpCompRowA
import Derived.Test.YtfchlbaidamodaaGreatDoorCards
set_option linter.all false
set_option maxRecDepth 100000
namespace Go.Proofs.YtfchlbaidamodaaGreatDoor.bq
open Rows Go.Proofs.Tryz
def tt{a b:Bool}(c:a=true)(d:b=true):(a&&b)=true:=by rw[c,d];rfl
def WC:(replicaCompactsRow).wf (OpenSpec.ofChange replicaCompactsSpec)=true:=by kernel_rfl
def WD:(f7.params.all (prog.readableRec ·))=true:=by kernel_rfl
def WE:namedTie prog replicaCompactsRow.named replicaCompactsSpec.vars=true:=by kernel_rfl
def WG:(replicaCompactsRow.stops==[])=true:=by kernel_rfl
def WH:(prog.stops==[])=true:=by kernel_rfl
def WI:(replicaCompactsRow.knobs==[])=true:=by kernel_rfl
def WJ:(prog.stopKnobs==[])=true:=by kernel_rfl
def Nh:(replicaCompactsRow.maps==(f7.params.toList++replicaCompactsSpec.plain.varTypes prog).any (prog.mapsRec ·))=true:=by kernel_rfl
def Ni:(replicaCompactsRow.ifaces==(f7.params.toList++replicaCompactsSpec.plain.varTypes prog).any (prog.ifacesRec ·))=true:=by kernel_rfl
def Nj:(replicaCompactsRow.mapsOut==prog.mapsAmong f7.resultTypes.toList)=true:=by kernel_rfl
def Nk:(replicaCompactsRow.wideKeys==(f7.params.toList++replicaCompactsSpec.plain.varTypes prog++f7.resultTypes.toList).any (prog.wideKeysFrom ·))=true:=by kernel_rfl
def Nl:(replicaCompactsSpec.vars.all (prog.varReadable ·))=true:=by kernel_rfl
def Nn:(f7.resultTypes.all (λa=>prog.readableRec a&&decide (a<prog.types.size)))=true:=by kernel_rfl
def No:(replicaCompactsRow.ifacesOut==f7.resultTypes.toList.any (prog.ifacesRec ·))=true:=by kernel_rfl
def Np:(replicaCompactsRow.loopsOut==f7.resultTypes.toList.any (prog.loopsFrom ·))=true:=by kernel_rfl
def Nq:(replicaCompactsRow.plainKeys==prog.plainKeys)=true:=by kernel_rfl
def Nr:(replicaCompactsRow.shortTexts.isNone)=true:=by kernel_rfl
def Ns:(replicaCompactsRow.lifted==prog.liftsFinal)=true:=by kernel_rfl
def Nt:(prog.make==some replicaCompactsRow.make)=true:=by kernel_rfl
def Nu:(replicaCompactsRow.kinds==(if replicaCompactsRow.domain.isEmpty then []else f7.params.toList.map λa=>match prog.underlying a with|some (.int b)=>some b|_=>none))=true:=by kernel_rfl
def Nv:(replicaCompactsRow.pinned==replicaCompactsRow.pinnedBy)=true:=by kernel_rfl
def Nw:(replicaCompactsRow.veiled==(f7.params.toList++replicaCompactsSpec.plain.varTypes prog++f7.resultTypes.toList).any (prog.veiledRec ·))=true:=by kernel_rfl
def Nx:(replicaCompactsRow.veiledFits prog f7.params.toList (f7.params.toList++replicaCompactsSpec.plain.varTypes prog++f7.resultTypes.toList))=true:=by kernel_rfl
def facts:joinedFacts prog 7 f7 replicaCompactsSpec replicaCompactsRow=true:=by
 unfold joinedFacts;exact tt (tt (tt (tt (tt (tt (tt (tt (tt (tt (tt (tt (tt (tt (tt (tt (tt (tt (tt (tt (tt (tt (tt (tt (tt (tt (tt (tt (tt (tt (tt WC Wz) WA) WD) WE) WG) WH) WI) WJ) WB) Na) Nb) Nc) Nh) Ni) Nj) Nd) Nk) Nl) Nn) No) Np) Nq) Nr) Nf) Ng) Ns) Nt) Nu) Nv) Nw) Nx
def inst:f7.isInstance prog replicaCompactsRow.origin replicaCompactsRow.targs:=of_decide_eq_true (by kernel_rfl)
def wrapper:f7.isWrapper prog replicaCompactsRow.wrapper replicaCompactsRow.mainSum:=by unfold Func.isWrapper;first|(rw[if_pos (by decide+kernel)];kernel_rfl)|(rw[if_neg (by decide+kernel)];exact⟨rfl,rfl⟩)
def named:prog.funcNamed replicaCompactsRow.func=some 7:=by kernel_rfl
def looks:replicaCompactsCard.stood.looks=prog.looks []:=by kernel_rfl
def pA:(f7.params.toList.all λa=>!prog.wantsStandIn a)=true:=by kernel_rfl
def text:(replicaCompactsRow).wfByText (OpenSpec.ofChange replicaCompactsSpec)=true:=by kernel_rfl
def goes:false=(replicaCompactsRow).goesBy prog:=by kernel_rfl
def mainIs:prog.mainIs=some (replicaCompactsCard.stood.harness.1,replicaCompactsCard.stood.harness.2.toList):=by kernel_rfl
end Go.Proofs.YtfchlbaidamodaaGreatDoor.bq

import Derived.Test.YtfchlbaidamodaaGreatDoorYcLaidRow
import Derived.Test.YtfchlbaidamodaaGreatDoorKc23
set_option linter.all false
set_option maxRecDepth 100000
namespace Go.Proofs.YtfchlbaidamodaaGreatDoor
open Go.ax
def mz:List (String×DataW Unit):=[("math/bits.deBruijn32tab",Rows.laid_math_bits_deBruijn32tab),("math/bits.deBruijn64tab",Rows.laid_math_bits_deBruijn64tab),("internal/strconv.uint64pow10",Rows.laid_internal_strconv_uint64pow10),("quayside/crc.lower",Rows.laid_quayside_crc_lower),("quayside/crc.upper",Rows.laid_quayside_crc_upper),("quayside/schema.policies",Rows.laid_quayside_schema_policies),("quayside/schema.kinds",Rows.laid_quayside_schema_kinds)]
def Oi(b:Os)(a:Array Value):laidMetH ZQ mz ((World.doorLaid ZQ 400 b).forCall (λ_ _=>0) ⟨#[],a,[]⟩).memory:=
 laidMetH_of_parts3 (fuel:=8) (laidMet_of_run' 8 kR kR) kR kR
def Su:ZQ.globalNamed "quayside/schema.kinds"=some 1:=kR
def Vq:ZQ.globalNamed "quayside/schema.policies"=some 0:=kR
variable{b:World}
def wP(f:laidMetH ZQ mz b):Laid b/\eM b:=by
 rw[MakeChecks.laidMetH_plain _ _ _ kR]at f;have g:∃a c d,(ZQ.globals[2]?).map (·.type)=some a/\(ZQ.globals[3]?).map (·.type)=some a/\ZQ.underlying a=some (.array c d)/\ZQ.underlying d=some (.int .u32)/\ZQ.cellsOf d=1/\ZQ.cellsOf a=c:=⟨409,16,357,kR,kR,kR,kR,kR,kR⟩
 have h:∃j a c d,ZQ.globalNamed "internal/strconv.uint64pow10"=some j/\(ZQ.globals[j]?).map (·.type)=some a/\ZQ.underlying a=some (.array c d)/\ZQ.underlying d=some (.int .u64)/\ZQ.cellsOf d=1/\ZQ.cellsOf a=c:=⟨4,420,20,359,kR,kR,kR,kR,kR,kR⟩
 obtain⟨a,c,d,q,r,k,l,m,n⟩:=g;obtain⟨O,P,Q,R,s,t,u,v,w,x⟩:=h;have y:∃a c d,(ZQ.globals[0]?).map (·.type)=some a/\ZQ.underlying a=some (.array c d)/\ZQ.underlying d=some (.int .i64)/\ZQ.cellsOf d=1/\ZQ.cellsOf a=c:=⟨211,5,3,kR,kR,kR,kR,kR⟩
 have z:∃a c d,(ZQ.globals[1]?).map (·.type)=some a/\ZQ.underlying a=some (.array c d)/\ZQ.underlying d=some (.int .i64)/\ZQ.cellsOf d=1/\ZQ.cellsOf a=c:=⟨313,6,3,kR,kR,kR,kR,kR⟩
 obtain⟨S,T,U,A,B,C,E,F⟩:=y;obtain⟨V,W,X,H,I,J,K,L⟩:=z;have M:=Lib.tabIs_of_head Vq A B C E F (show laidMet ZQ (("quayside/schema.policies",Lib.tabData .i64 [0,2,14,6,6])::_) b from f.tail.tail.tail.tail.tail);have N:=Lib.tabIs_of_head Su H I J K L (show laidMet ZQ (("quayside/schema.kinds",Lib.tabData .i64 [0,1,2,3,3,4])::_) b from f.tail.tail.tail.tail.tail.tail);have o:∀e,e<6->b.cell? ⟨1,e,none⟩=some (QH (rO e)):=λe i=>by
  have:=N.cell Su e (by simpa using i);rw[this];rcases e with _|_|_|_|_|_|e<;>first|rfl|omega
 have p:∀e,e<5->b.cell? ⟨0,e,none⟩=some (QH (([0,2,14,6,6]:List Int).getD e 0)):=λe i=>M.cell Vq e (by simpa using i);refine⟨⟨Ur ?_ ?_,?_⟩,o,p,lI (o 0 dC),lI (p 0 dC)⟩
 ·exact Lib.tabIs_of_head Sr q k l m n (show laidMet ZQ (("quayside/crc.lower",Lib.tabData .u32 (kv.map λc:Nat=>(c:Int)))::_) b from f.tail.tail.tail)
 ·exact Lib.tabIs_of_head Ss r k l m n (show laidMet ZQ (("quayside/crc.upper",Lib.tabData .u32 (ky.map λc:Nat=>(c:Int)))::_) b from f.tail.tail.tail.tail)
 ·exact Lib.tabIs_of_head s t u v w x (show laidMet ZQ (("internal/strconv.uint64pow10",Lib.tabData .u64 Lib.pow10Tab)::_) b from f.tail.tail)
end Go.Proofs.YtfchlbaidamodaaGreatDoor

import Derived.Test.YtblabbpipmodgaaGreatDoorYrLaidRow
import Derived.Test.YtblabbpipmodgaaGreatDoorKr14
set_option linter.all false
set_option maxRecDepth 100000
namespace Go.Proofs.YtblabbpipmodgaaGreatDoor
open Go.aw
def Ie:List (String×DataW Unit):=[("math/bits.deBruijn32tab",Rows.laid_math_bits_deBruijn32tab),("math/bits.deBruijn64tab",Rows.laid_math_bits_deBruijn64tab),("internal/strconv.uint64pow10",Rows.laid_internal_strconv_uint64pow10),("quayside/crc.lower",Rows.laid_quayside_crc_lower),("quayside/crc.upper",Rows.laid_quayside_crc_upper),("quayside/schema.policies",Rows.laid_quayside_schema_policies),("quayside/schema.kinds",Rows.laid_quayside_schema_kinds)]
def Vu(a:Os)(P:Array Value):laidMetH ZP Ie ((World.doorLaid ZP 400 a).forCall (λ_ _=>0) ⟨#[],P,[]⟩).memory:=
 laidMetH_of_parts3 (fuel:=8) (laidMet_of_run' 8 kR kR) kR kR
def Qe:Tryz.prog.globalNamed "quayside/schema.kinds"=some 1:=kR
def TB:Tryz.prog.globalNamed "quayside/schema.policies"=some 0:=kR
variable{b:World}
def Qf(e:laidMetH ZP Ie b):Laid b/\eX b:=by
 rw[MakeChecks.laidMetH_plain _ _ _ kR]at e;have f:∃P a c,(Tryz.prog.globals[2]?).map (·.type)=some P/\(Tryz.prog.globals[3]?).map (·.type)=some P/\Tryz.prog.underlying P=some (.array a c)/\Tryz.prog.underlying c=some (.int .u32)/\Tryz.prog.cellsOf c=1/\Tryz.prog.cellsOf P=a:=⟨409,16,357,kR,kR,kR,kR,kR,kR⟩
 have g:∃i P a c,Tryz.prog.globalNamed "internal/strconv.uint64pow10"=some i/\(Tryz.prog.globals[i]?).map (·.type)=some P/\Tryz.prog.underlying P=some (.array a c)/\Tryz.prog.underlying c=some (.int .u64)/\Tryz.prog.cellsOf c=1/\Tryz.prog.cellsOf P=a:=⟨4,420,20,359,kR,kR,kR,kR,kR,kR⟩
 obtain⟨P,a,c,p,q,j,k,l,m⟩:=f;obtain⟨N,O,Q,R,r,s,t,u,v,w⟩:=g;have x:∃P a c,(Tryz.prog.globals[0]?).map (·.type)=some P/\Tryz.prog.underlying P=some (.array a c)/\Tryz.prog.underlying c=some (.int .i64)/\Tryz.prog.cellsOf c=1/\Tryz.prog.cellsOf P=a:=⟨211,5,3,kR,kR,kR,kR,kR⟩
 have y:∃P a c,(Tryz.prog.globals[1]?).map (·.type)=some P/\Tryz.prog.underlying P=some (.array a c)/\Tryz.prog.underlying c=some (.int .i64)/\Tryz.prog.cellsOf c=1/\Tryz.prog.cellsOf P=a:=⟨313,6,3,kR,kR,kR,kR,kR⟩
 obtain⟨S,T,U,z,A,B,C,E⟩:=x;obtain⟨V,W,X,F,H,I,J,K⟩:=y;have L:=Lib.tabIs_of_head TB z A B C E (show laidMet ZP (("quayside/schema.policies",Lib.tabData .i64 [0,2,14,6,6])::_) b from e.tail.tail.tail.tail.tail);have M:=Lib.tabIs_of_head Qe F H I J K (show laidMet ZP (("quayside/schema.kinds",Lib.tabData .i64 [0,1,2,3,3,4])::_) b from e.tail.tail.tail.tail.tail.tail);have n:∀d,d<6->b.cell? ⟨1,d,none⟩=some (ZH (qA d)):=λd h=>by
  have:=M.cell Qe d (by simpa using h);rw[this];rcases d with _|_|_|_|_|_|d<;>first|rfl|omega
 have o:∀d,d<5->b.cell? ⟨0,d,none⟩=some (ZH (([0,2,14,6,6]:List Int).getD d 0)):=λd h=>L.cell TB d (by simpa using h);refine⟨⟨Su ?_ ?_,?_⟩,n,o,kM (n 0 dC),kM (o 0 dC)⟩
 ·exact Lib.tabIs_of_head Qc p j k l m (show laidMet ZP (("quayside/crc.lower",Lib.tabData .u32 (jL.map λa:Nat=>(a:Int)))::_) b from e.tail.tail.tail)
 ·exact Lib.tabIs_of_head Qd q j k l m (show laidMet ZP (("quayside/crc.upper",Lib.tabData .u32 (jM.map λa:Nat=>(a:Int)))::_) b from e.tail.tail.tail.tail)
 ·exact Lib.tabIs_of_head r s t u v w (show laidMet ZP (("internal/strconv.uint64pow10",Lib.tabData .u64 Lib.pow10Tab)::_) b from e.tail.tail)

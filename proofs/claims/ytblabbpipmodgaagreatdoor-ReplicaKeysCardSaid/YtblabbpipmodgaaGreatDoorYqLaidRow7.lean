import Derived.Test.YtblabbpipmodgaaGreatDoorYqLaidRow
import Derived.Test.YtblabbpipmodgaaGreatDoorKq14
set_option linter.all false
set_option maxRecDepth 100000
namespace Go.Proofs.YtblabbpipmodgaaGreatDoor
open Go.aw
def GC:List (String×DataW Unit):=[("math/bits.deBruijn32tab",Rows.laid_math_bits_deBruijn32tab),("math/bits.deBruijn64tab",Rows.laid_math_bits_deBruijn64tab),("internal/strconv.uint64pow10",Rows.laid_internal_strconv_uint64pow10),("quayside/crc.lower",Rows.laid_quayside_crc_lower),("quayside/crc.upper",Rows.laid_quayside_crc_upper),("quayside/schema.policies",Rows.laid_quayside_schema_policies),("quayside/schema.kinds",Rows.laid_quayside_schema_kinds)]
def Tm(a:Os)(P:Array Value):laidMetH XP GC ((World.doorLaid XP 400 a).forCall (λ_ _=>0) ⟨#[],P,[]⟩).memory:=
 laidMetH_of_parts3 (fuel:=8) (laidMet_of_run' 8 kR kR) kR kR
def NY:Tryz.prog.globalNamed "quayside/schema.kinds"=some 1:=kR
def Rk:Tryz.prog.globalNamed "quayside/schema.policies"=some 0:=kR
variable{b:World}
def NZ(e:laidMetH XP GC b):Laid b/\et b:=by
 rw[MakeChecks.laidMetH_plain _ _ _ kR]at e;have f:∃P a c,(Tryz.prog.globals[2]?).map (·.type)=some P/\(Tryz.prog.globals[3]?).map (·.type)=some P/\Tryz.prog.underlying P=some (.array a c)/\Tryz.prog.underlying c=some (.int .u32)/\Tryz.prog.cellsOf c=1/\Tryz.prog.cellsOf P=a:=⟨409,16,357,kR,kR,kR,kR,kR,kR⟩
 have g:∃i P a c,Tryz.prog.globalNamed "internal/strconv.uint64pow10"=some i/\(Tryz.prog.globals[i]?).map (·.type)=some P/\Tryz.prog.underlying P=some (.array a c)/\Tryz.prog.underlying c=some (.int .u64)/\Tryz.prog.cellsOf c=1/\Tryz.prog.cellsOf P=a:=⟨4,420,20,359,kR,kR,kR,kR,kR,kR⟩
 obtain⟨P,a,c,p,q,j,k,l,m⟩:=f;obtain⟨N,O,Q,R,r,s,t,u,v,w⟩:=g;have x:∃P a c,(Tryz.prog.globals[0]?).map (·.type)=some P/\Tryz.prog.underlying P=some (.array a c)/\Tryz.prog.underlying c=some (.int .i64)/\Tryz.prog.cellsOf c=1/\Tryz.prog.cellsOf P=a:=⟨211,5,3,kR,kR,kR,kR,kR⟩
 have y:∃P a c,(Tryz.prog.globals[1]?).map (·.type)=some P/\Tryz.prog.underlying P=some (.array a c)/\Tryz.prog.underlying c=some (.int .i64)/\Tryz.prog.cellsOf c=1/\Tryz.prog.cellsOf P=a:=⟨313,6,3,kR,kR,kR,kR,kR⟩
 obtain⟨S,T,U,z,A,B,C,E⟩:=x;obtain⟨V,W,X,F,H,I,J,K⟩:=y;have L:=Lib.tabIs_of_head Rk z A B C E (show laidMet XP (("quayside/schema.policies",Lib.tabData .i64 [0,2,14,6,6])::_) b from e.tail.tail.tail.tail.tail);have M:=Lib.tabIs_of_head NY F H I J K (show laidMet XP (("quayside/schema.kinds",Lib.tabData .i64 [0,1,2,3,3,4])::_) b from e.tail.tail.tail.tail.tail.tail);have n:∀d,d<6->b.cell? ⟨1,d,none⟩=some (XH (pB d)):=λd h=>by
  have:=M.cell NY d (by simpa using h);rw[this];rcases d with _|_|_|_|_|_|d<;>first|rfl|omega
 have o:∀d,d<5->b.cell? ⟨0,d,none⟩=some (XH (([0,2,14,6,6]:List Int).getD d 0)):=λd h=>L.cell Rk d (by simpa using h);refine⟨⟨PT ?_ ?_,?_⟩,n,o,jO (n 0 dC),jO (o 0 dC)⟩
 ·exact Lib.tabIs_of_head NW p j k l m (show laidMet XP (("quayside/crc.lower",Lib.tabData .u32 (iW.map λa:Nat=>(a:Int)))::_) b from e.tail.tail.tail)
 ·exact Lib.tabIs_of_head NX q j k l m (show laidMet XP (("quayside/crc.upper",Lib.tabData .u32 (iX.map λa:Nat=>(a:Int)))::_) b from e.tail.tail.tail.tail)
 ·exact Lib.tabIs_of_head r s t u v w (show laidMet XP (("internal/strconv.uint64pow10",Lib.tabData .u64 Lib.pow10Tab)::_) b from e.tail.tail)

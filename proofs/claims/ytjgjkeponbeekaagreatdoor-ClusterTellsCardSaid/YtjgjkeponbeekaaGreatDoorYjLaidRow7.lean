import Derived.Test.YtjgjkeponbeekaaGreatDoorYjLaidRow
import Derived.Test.YtjgjkeponbeekaaGreatDoorKj14
set_option linter.all false
set_option maxRecDepth 100000
namespace Go.Proofs.YtjgjkeponbeekaaGreatDoor
open Go.aw
def IJ:List (String×DataW Unit):=[("math/bits.deBruijn32tab",Rows.laid_math_bits_deBruijn32tab),("math/bits.deBruijn64tab",Rows.laid_math_bits_deBruijn64tab),("internal/strconv.uint64pow10",Rows.laid_internal_strconv_uint64pow10),("quayside/crc.lower",Rows.laid_quayside_crc_lower),("quayside/crc.upper",Rows.laid_quayside_crc_upper),("quayside/schema.policies",Rows.laid_quayside_schema_policies),("quayside/schema.kinds",Rows.laid_quayside_schema_kinds)]
def Xs(P:Os)(n:Array Value):laidMetH LL IJ ((World.doorLaid LL 400 P).forCall (λ_ _=>0) ⟨#[],n,[]⟩).memory:=
 laidMetH_of_parts3 (fuel:=8) (laidMet_of_run' 8 kR kR) kR kR
def Sq:Tryz.prog.globalNamed "quayside/schema.kinds"=some 1:=kR
def VC:Tryz.prog.globalNamed "quayside/schema.policies"=some 0:=kR
variable{b:World}
def RG(d:laidMetH LL IJ b):Laid b/\fw b:=by
 rw[MakeChecks.laidMetH_plain _ _ _ kR]at d;have e:∃n P a,(Tryz.prog.globals[2]?).map (·.type)=some n/\(Tryz.prog.globals[3]?).map (·.type)=some n/\Tryz.prog.underlying n=some (.array P a)/\Tryz.prog.underlying a=some (.int .u32)/\Tryz.prog.cellsOf a=1/\Tryz.prog.cellsOf n=P:=⟨434,16,365,kR,kR,kR,kR,kR,kR⟩
 have f:∃h n P a,Tryz.prog.globalNamed "internal/strconv.uint64pow10"=some h/\(Tryz.prog.globals[h]?).map (·.type)=some n/\Tryz.prog.underlying n=some (.array P a)/\Tryz.prog.underlying a=some (.int .u64)/\Tryz.prog.cellsOf a=1/\Tryz.prog.cellsOf n=P:=⟨4,441,20,367,kR,kR,kR,kR,kR,kR⟩
 obtain⟨n,P,a,p,q,i,j,k,l⟩:=e;obtain⟨N,O,Q,R,r,s,t,u,v,w⟩:=f;have x:∃n P a,(Tryz.prog.globals[0]?).map (·.type)=some n/\Tryz.prog.underlying n=some (.array P a)/\Tryz.prog.underlying a=some (.int .i64)/\Tryz.prog.cellsOf a=1/\Tryz.prog.cellsOf n=P:=⟨191,5,3,kR,kR,kR,kR,kR⟩
 have y:∃n P a,(Tryz.prog.globals[1]?).map (·.type)=some n/\Tryz.prog.underlying n=some (.array P a)/\Tryz.prog.underlying a=some (.int .i64)/\Tryz.prog.cellsOf a=1/\Tryz.prog.cellsOf n=P:=⟨353,6,3,kR,kR,kR,kR,kR⟩
 obtain⟨S,T,U,z,A,B,C,E⟩:=x;obtain⟨V,W,X,F,H,I,J,K⟩:=y;have L:=Lib.tabIs_of_head VC z A B C E (show laidMet LL (("quayside/schema.policies",Lib.tabData .i64 [0,2,14,6,6])::_) b from d.tail.tail.tail.tail.tail);have M:=Lib.tabIs_of_head Sq F H I J K (show laidMet LL (("quayside/schema.kinds",Lib.tabData .i64 [0,1,2,3,3,4])::_) b from d.tail.tail.tail.tail.tail.tail);have m:∀c,c<6->b.cell? ⟨1,c,none⟩=some (WP (rK c)):=λc g=>by
  have:=M.cell Sq c (by simpa using g);rw[this];rcases c with _|_|_|_|_|_|c<;>first|rfl|omega
 have o:∀c,c<5->b.cell? ⟨0,c,none⟩=some (WP (([0,2,14,6,6]:List Int).getD c 0)):=λc g=>L.cell VC c (by simpa using g);refine⟨⟨UB ?_ ?_,?_⟩,m,o,lS (m 0 dC),lS (o 0 dC)⟩
 ·exact Lib.tabIs_of_head Sn p i j k l (show laidMet LL (("quayside/crc.lower",Lib.tabData .u32 (kL.map λP:Nat=>(P:Int)))::_) b from d.tail.tail.tail)
 ·exact Lib.tabIs_of_head Sp q i j k l (show laidMet LL (("quayside/crc.upper",Lib.tabData .u32 (kM.map λP:Nat=>(P:Int)))::_) b from d.tail.tail.tail.tail)
 ·exact Lib.tabIs_of_head r s t u v w (show laidMet LL (("internal/strconv.uint64pow10",Lib.tabData .u64 Lib.pow10Tab)::_) b from d.tail.tail)

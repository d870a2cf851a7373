import Derived.Test.YtjgjkeponbeekaaGreatDoorYaLaidRow
import Derived.Test.YtjgjkeponbeekaaGreatDoorKa20
set_option linter.all false
set_option maxRecDepth 100000
namespace Go.Proofs.YtjgjkeponbeekaaGreatDoor
open Go.ar
def Hi:List (String×DataW Unit):=[("math/bits.deBruijn32tab",Rows.laid_math_bits_deBruijn32tab),("math/bits.deBruijn64tab",Rows.laid_math_bits_deBruijn64tab),("internal/strconv.uint64pow10",Rows.laid_internal_strconv_uint64pow10),("quayside/crc.lower",Rows.laid_quayside_crc_lower),("quayside/crc.upper",Rows.laid_quayside_crc_upper),("quayside/schema.policies",Rows.laid_quayside_schema_policies),("quayside/schema.kinds",Rows.laid_quayside_schema_kinds)]
def UO(b:Os)(a:Array Value):laidMetH XP Hi ((World.doorLaid XP 400 b).forCall (λ_ _=>0) ⟨#[],a,[]⟩).memory:=
 laidMetH_of_parts3 (fuel:=8) (laidMet_of_run' 8 kR kR) kR kR
def PO:Tryz.prog.globalNamed "quayside/schema.kinds"=some 1:=kR
def Td:Tryz.prog.globalNamed "quayside/schema.policies"=some 0:=kR
variable{b:World}
def Pa(f:laidMetH XP Hi b):Laid b/\eA b:=by
 rw[MakeChecks.laidMetH_plain _ _ _ kR]at f;have g:∃a c d,(Tryz.prog.globals[2]?).map (·.type)=some a/\(Tryz.prog.globals[3]?).map (·.type)=some a/\Tryz.prog.underlying a=some (.array c d)/\Tryz.prog.underlying d=some (.int .u32)/\Tryz.prog.cellsOf d=1/\Tryz.prog.cellsOf a=c:=⟨434,16,365,kR,kR,kR,kR,kR,kR⟩
 have h:∃j a c d,Tryz.prog.globalNamed "internal/strconv.uint64pow10"=some j/\(Tryz.prog.globals[j]?).map (·.type)=some a/\Tryz.prog.underlying a=some (.array c d)/\Tryz.prog.underlying d=some (.int .u64)/\Tryz.prog.cellsOf d=1/\Tryz.prog.cellsOf a=c:=⟨4,441,20,367,kR,kR,kR,kR,kR,kR⟩
 obtain⟨a,c,d,q,r,k,l,m,n⟩:=g;obtain⟨O,P,Q,R,s,t,u,v,w,x⟩:=h;have y:∃a c d,(Tryz.prog.globals[0]?).map (·.type)=some a/\Tryz.prog.underlying a=some (.array c d)/\Tryz.prog.underlying d=some (.int .i64)/\Tryz.prog.cellsOf d=1/\Tryz.prog.cellsOf a=c:=⟨191,5,3,kR,kR,kR,kR,kR⟩
 have z:∃a c d,(Tryz.prog.globals[1]?).map (·.type)=some a/\Tryz.prog.underlying a=some (.array c d)/\Tryz.prog.underlying d=some (.int .i64)/\Tryz.prog.cellsOf d=1/\Tryz.prog.cellsOf a=c:=⟨353,6,3,kR,kR,kR,kR,kR⟩
 obtain⟨S,T,U,A,B,C,E,F⟩:=y;obtain⟨V,W,X,H,I,J,K,L⟩:=z;have M:=Lib.tabIs_of_head Td A B C E F (show laidMet XP (("quayside/schema.policies",Lib.tabData .i64 [0,2,14,6,6])::_) b from f.tail.tail.tail.tail.tail);have N:=Lib.tabIs_of_head PO H I J K L (show laidMet XP (("quayside/schema.kinds",Lib.tabData .i64 [0,1,2,3,3,4])::_) b from f.tail.tail.tail.tail.tail.tail);have o:∀e,e<6->b.cell? ⟨1,e,none⟩=some (XH (qt e)):=λe i=>by
  have:=N.cell PO e (by simpa using i);rw[this];rcases e with _|_|_|_|_|_|e<;>first|rfl|omega
 have p:∀e,e<5->b.cell? ⟨0,e,none⟩=some (XH (([0,2,14,6,6]:List Int).getD e 0)):=λe i=>M.cell Td e (by simpa using i);refine⟨⟨RZ ?_ ?_,?_⟩,o,p,km (o 0 dC),km (p 0 dC)⟩
 ·exact Lib.tabIs_of_head PM q k l m n (show laidMet XP (("quayside/crc.lower",Lib.tabData .u32 (jv.map λc:Nat=>(c:Int)))::_) b from f.tail.tail.tail)
 ·exact Lib.tabIs_of_head PN r k l m n (show laidMet XP (("quayside/crc.upper",Lib.tabData .u32 (jw.map λc:Nat=>(c:Int)))::_) b from f.tail.tail.tail.tail)
 ·exact Lib.tabIs_of_head s t u v w x (show laidMet XP (("internal/strconv.uint64pow10",Lib.tabData .u64 Lib.pow10Tab)::_) b from f.tail.tail)
end Go.Proofs.YtjgjkeponbeekaaGreatDoor

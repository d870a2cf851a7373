import Derived.Test.YtblabbpipmodgaaGreatDoorKo11
import Derived.LaidMore
import Derived.MakeChecks
import Derived.Stop.LaidErr
import Derived.Lib.LaidTab
import Derived.ChangeMaps5
set_option linter.all false
set_option maxRecDepth 100000
namespace Go.au
open Go
def Cs(P:List Nat)(a:Nat):(P.map λb:Nat=>(b:Int)).getD a 0=((P.getD a 0:Nat):Int):=by
 simp only[QQ,Q9]
 cases P[a]? <;>rfl
end Go.au
namespace Go.Proofs.YtblabbpipmodgaaGreatDoor
open Go.au
def Oi:Tryz.prog.globalNamed "quayside/crc.lower"=some 2:=kR
def Oj:Tryz.prog.globalNamed "quayside/crc.upper"=some 3:=kR
def Md:jA.length=16:=by decide+kernel
def Me:jB.length=16:=by decide+kernel
variable{b:World}
def Qp(f:Lib.TabIs XG b "quayside/crc.lower" .u32 (jA.map λa:Nat=>(a:Int)))(g:Lib.TabIs XG b "quayside/crc.upper" .u32 (jB.map λa:Nat=>(a:Int))):oV b:=
 have d:=λP (c:P<16)=>(f.cell Oi P (by rw[Q8,Md];exact c)).trans (by rw[Cs]);have e:=λP (c:P<16)=>(g.cell Oj P (by rw[Q8,Me];exact c)).trans (by rw[Cs])
 ⟨d,e,ko (d 0 dC),ko (e 0 dC)⟩

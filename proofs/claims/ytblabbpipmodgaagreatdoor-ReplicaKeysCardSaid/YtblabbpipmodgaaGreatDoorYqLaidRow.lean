import Derived.Test.YtblabbpipmodgaaGreatDoorKq11
import Derived.LaidMore
import Derived.MakeChecks
import Derived.Stop.LaidErr
import Derived.Lib.LaidTab
import Derived.ChangeMaps5
set_option linter.all false
set_option maxRecDepth 100000
namespace Go.aw
open Go
def CA(P:List Nat)(a:Nat):(P.map λb:Nat=>(b:Int)).getD a 0=((P.getD a 0:Nat):Int):=by
 simp only[QQ,Q9]
 cases P[a]? <;>rfl
end Go.aw
namespace Go.Proofs.YtblabbpipmodgaaGreatDoor
open Go.aw
def NW:Tryz.prog.globalNamed "quayside/crc.lower"=some 2:=kR
def NX:Tryz.prog.globalNamed "quayside/crc.upper"=some 3:=kR
def LS:iW.length=16:=by decide+kernel
def LU:iX.length=16:=by decide+kernel
variable{b:World}
def PT(f:Lib.TabIs XP b "quayside/crc.lower" .u32 (iW.map λa:Nat=>(a:Int)))(g:Lib.TabIs XP b "quayside/crc.upper" .u32 (iX.map λa:Nat=>(a:Int))):oG b:=
 have d:=λP (c:P<16)=>(f.cell NW P (by rw[Q8,LS];exact c)).trans (by rw[CA]);have e:=λP (c:P<16)=>(g.cell NX P (by rw[Q8,LU];exact c)).trans (by rw[CA])
 ⟨d,e,jO (d 0 dC),jO (e 0 dC)⟩

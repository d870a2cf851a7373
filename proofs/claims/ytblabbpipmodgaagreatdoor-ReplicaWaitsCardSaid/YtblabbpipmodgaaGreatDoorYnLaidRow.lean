import Derived.Test.YtblabbpipmodgaaGreatDoorKn11
import Derived.LaidMore
import Derived.MakeChecks
import Derived.Stop.LaidErr
import Derived.Lib.LaidTab
import Derived.ChangeMaps5
set_option linter.all false
set_option maxRecDepth 100000
namespace Go.aw
open Go
def Bo(P:List Nat)(a:Nat):(P.map λb:Nat=>(b:Int)).getD a 0=((P.getD a 0:Nat):Int):=by
 simp only[QQ,Q9]
 cases P[a]? <;>rfl
end Go.aw
namespace Go.Proofs.YtblabbpipmodgaaGreatDoor
open Go.aw
def MC:Tryz.prog.globalNamed "quayside/crc.lower"=some 2:=kR
def MD:Tryz.prog.globalNamed "quayside/crc.upper"=some 3:=kR
def Kx:iK.length=16:=by decide+kernel
def Ky:iL.length=16:=by decide+kernel
variable{b:World}
def OD(f:Lib.TabIs XP b "quayside/crc.lower" .u32 (iK.map λa:Nat=>(a:Int)))(g:Lib.TabIs XP b "quayside/crc.upper" .u32 (iL.map λa:Nat=>(a:Int))):qu b:=
 have d:=λP (c:P<16)=>(f.cell MC P (by rw[Q8,Kx];exact c)).trans (by rw[Bo]);have e:=λP (c:P<16)=>(g.cell MD P (by rw[Q8,Ky];exact c)).trans (by rw[Bo])
 ⟨d,e,jB (d 0 dC),jB (e 0 dC)⟩

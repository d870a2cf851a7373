import Derived.Test.YtblabbpipmodgaaGreatDoorKp11
import Derived.LaidMore
import Derived.MakeChecks
import Derived.Stop.LaidErr
import Derived.Lib.LaidTab
import Derived.ChangeMaps5
set_option linter.all false
set_option maxRecDepth 100000
namespace Go.aw
open Go
def Da(P:List Nat)(a:Nat):(P.map λb:Nat=>(b:Int)).getD a 0=((P.getD a 0:Nat):Int):=by
 simp only[QQ,Q9]
 cases P[a]? <;>rfl
end Go.aw
namespace Go.Proofs.YtblabbpipmodgaaGreatDoor
open Go.aw
def OW:Tryz.prog.globalNamed "quayside/crc.lower"=some 2:=kR
def OX:Tryz.prog.globalNamed "quayside/crc.upper"=some 3:=kR
def ML:jj.length=16:=by decide+kernel
def MM:jk.length=16:=by decide+kernel
variable{b:World}
def Rk(f:Lib.TabIs XP b "quayside/crc.lower" .u32 (jj.map λa:Nat=>(a:Int)))(g:Lib.TabIs XP b "quayside/crc.upper" .u32 (jk.map λa:Nat=>(a:Int))):pg b:=
 have d:=λP (c:P<16)=>(f.cell OW P (by rw[Q8,ML];exact c)).trans (by rw[Da]);have e:=λP (c:P<16)=>(g.cell OX P (by rw[Q8,MM];exact c)).trans (by rw[Da])
 ⟨d,e,ke (d 0 dC),ke (e 0 dC)⟩

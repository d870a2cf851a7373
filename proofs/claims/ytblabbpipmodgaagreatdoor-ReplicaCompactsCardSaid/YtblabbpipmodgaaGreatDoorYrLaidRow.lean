import Derived.Test.YtblabbpipmodgaaGreatDoorKr11
import Derived.LaidMore
import Derived.MakeChecks
import Derived.Stop.LaidErr
import Derived.Lib.LaidTab
import Derived.ChangeMaps5
set_option linter.all false
set_option maxRecDepth 100000
namespace Go.aw
open Go
def Ed(P:List Nat)(a:Nat):(P.map λb:Nat=>(b:Int)).getD a 0=((P.getD a 0:Nat):Int):=by
 simp only[QQ,Q9]
 cases P[a]? <;>rfl
end Go.aw
namespace Go.Proofs.YtblabbpipmodgaaGreatDoor
open Go.aw
def Qc:Tryz.prog.globalNamed "quayside/crc.lower"=some 2:=kR
def Qd:Tryz.prog.globalNamed "quayside/crc.upper"=some 3:=kR
def NJ:jL.length=16:=by decide+kernel
def NK:jM.length=16:=by decide+kernel
variable{b:World}
def Su(f:Lib.TabIs ZP b "quayside/crc.lower" .u32 (jL.map λa:Nat=>(a:Int)))(g:Lib.TabIs ZP b "quayside/crc.upper" .u32 (jM.map λa:Nat=>(a:Int))):pU b:=
 have d:=λP (c:P<16)=>(f.cell Qc P (by rw[Q8,NJ];exact c)).trans (by rw[Ed]);have e:=λP (c:P<16)=>(g.cell Qd P (by rw[Q8,NK];exact c)).trans (by rw[Ed])
 ⟨d,e,kM (d 0 dC),kM (e 0 dC)⟩

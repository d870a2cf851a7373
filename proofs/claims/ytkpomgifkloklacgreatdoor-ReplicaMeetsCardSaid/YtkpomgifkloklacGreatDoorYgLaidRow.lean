import Derived.Test.YtkpomgifkloklacGreatDoorKg11
import Derived.LaidMore
import Derived.MakeChecks
import Derived.Stop.LaidErr
import Derived.Lib.LaidTab
import Derived.ChangeMaps5
set_option linter.all false
set_option maxRecDepth 100000
namespace Go.aw
open Go
def BL(P:List Nat)(a:Nat):(P.map λb:Nat=>(b:Int)).getD a 0=((P.getD a 0:Nat):Int):=by
 simp only[QQ,Q9]
 cases P[a]? <;>rfl
end Go.aw
namespace Go.Proofs.YtkpomgifkloklacGreatDoor
open Go.aw
def Nh:Tryz.prog.globalNamed "quayside/crc.lower"=some 2:=kR
def Ni:Tryz.prog.globalNamed "quayside/crc.upper"=some 3:=kR
def Le:je.length=16:=by decide+kernel
def Lf:jf.length=16:=by decide+kernel
variable{b:World}
def Pj(f:Lib.TabIs XP b "quayside/crc.lower" .u32 (je.map λa:Nat=>(a:Int)))(g:Lib.TabIs XP b "quayside/crc.upper" .u32 (jf.map λa:Nat=>(a:Int))):qS b:=
 have d:=λP (c:P<16)=>(f.cell Nh P (by rw[Q8,Le];exact c)).trans (by rw[BL]);have e:=λP (c:P<16)=>(g.cell Ni P (by rw[Q8,Lf];exact c)).trans (by rw[BL])
 ⟨d,e,jT (d 0 dC),jT (e 0 dC)⟩

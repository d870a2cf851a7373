import Derived.Test.YtjgjkeponbeekaaGreatDoorKa16
import Derived.LaidMore
import Derived.MakeChecks
import Derived.Stop.LaidErr
import Derived.Lib.LaidTab
import Derived.ChangeMaps5
set_option linter.all false
set_option maxRecDepth 100000
namespace Go.ar
open Go
def DE(a:List Nat)(b:Nat):(a.map λc:Nat=>(c:Int)).getD b 0=((a.getD b 0:Nat):Int):=by
 simp only[QQ,Q9]
 cases a[b]? <;>rfl
end Go.ar
namespace Go.Proofs.YtjgjkeponbeekaaGreatDoor
open Go.ar
def PM:Tryz.prog.globalNamed "quayside/crc.lower"=some 2:=kR
def PN:Tryz.prog.globalNamed "quayside/crc.upper"=some 3:=kR
def Nk:jv.length=16:=by decide+kernel
def Nl:jw.length=16:=by decide+kernel
variable{b:World}
def RZ(g:Lib.TabIs XP b "quayside/crc.lower" .u32 (jv.map λc:Nat=>(c:Int)))(h:Lib.TabIs XP b "quayside/crc.upper" .u32 (jw.map λc:Nat=>(c:Int))):pN b:=
 have e:=λa (d:a<16)=>(g.cell PM a (by rw[Q8,Nk];exact d)).trans (by rw[DE]);have f:=λa (d:a<16)=>(h.cell PN a (by rw[Q8,Nl];exact d)).trans (by rw[DE])
 ⟨e,f,km (e 0 dC),km (f 0 dC)⟩
end Go.Proofs.YtjgjkeponbeekaaGreatDoor

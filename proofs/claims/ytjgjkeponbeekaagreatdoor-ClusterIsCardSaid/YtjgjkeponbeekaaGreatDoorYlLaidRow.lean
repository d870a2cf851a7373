import Derived.Test.YtjgjkeponbeekaaGreatDoorKl11
import Derived.LaidMore
import Derived.MakeChecks
import Derived.Stop.LaidErr
import Derived.Lib.LaidTab
import Derived.ChangeMaps5
set_option linter.all false
set_option maxRecDepth 100000
namespace Go.au
open Go
def Em(n:List Nat)(P:Nat):(n.map λa:Nat=>(a:Int)).getD P 0=((n.getD P 0:Nat):Int):=by
 simp only[QQ,Q9]
 cases n[P]? <;>rfl
end Go.au
namespace Go.Proofs.YtjgjkeponbeekaaGreatDoor
open Go.au
def Qr:Tryz.prog.globalNamed "quayside/crc.lower"=some 2:=kR
def Qs:Tryz.prog.globalNamed "quayside/crc.upper"=some 3:=kR
def NO:jM.length=16:=by decide+kernel
def NP:jN.length=16:=by decide+kernel
variable{b:World}
def Sx(e:Lib.TabIs ZP b "quayside/crc.lower" .u32 (jM.map λP:Nat=>(P:Int)))(f:Lib.TabIs ZP b "quayside/crc.upper" .u32 (jN.map λP:Nat=>(P:Int))):qg b:=
 have c:=λn (a:n<16)=>(e.cell Qr n (by rw[Q8,NO];exact a)).trans (by rw[Em]);have d:=λn (a:n<16)=>(f.cell Qs n (by rw[Q8,NP];exact a)).trans (by rw[Em])
 ⟨c,d,kO (c 0 dC),kO (d 0 dC)⟩

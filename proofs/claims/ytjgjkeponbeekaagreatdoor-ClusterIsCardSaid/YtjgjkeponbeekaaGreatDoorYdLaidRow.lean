import Derived.Test.YtjgjkeponbeekaaGreatDoorKd11
import Derived.LaidMore
import Derived.MakeChecks
import Derived.Stop.LaidErr
import Derived.Lib.LaidTab
import Derived.ChangeMaps5
set_option linter.all false
set_option maxRecDepth 100000
namespace Go.ar
open Go
def EG(n:List Nat)(P:Nat):(n.map λa:Nat=>(a:Int)).getD P 0=((n.getD P 0:Nat):Int):=by
 simp only[QQ,Q9]
 cases n[P]? <;>rfl
end Go.ar
namespace Go.Proofs.YtjgjkeponbeekaaGreatDoor
open Go.ar
def QP:Tryz.prog.globalNamed "quayside/crc.lower"=some 2:=kR
def QR:Tryz.prog.globalNamed "quayside/crc.upper"=some 3:=kR
def Oe:jP.length=16:=by decide+kernel
def Of:jQ.length=16:=by decide+kernel
variable{b:World}
def SP(e:Lib.TabIs ZP b "quayside/crc.lower" .u32 (jP.map λP:Nat=>(P:Int)))(f:Lib.TabIs ZP b "quayside/crc.upper" .u32 (jQ.map λP:Nat=>(P:Int))):qu b:=
 have c:=λn (a:n<16)=>(e.cell QP n (by rw[Q8,Oe];exact a)).trans (by rw[EG]);have d:=λn (a:n<16)=>(f.cell QR n (by rw[Q8,Of];exact a)).trans (by rw[EG])
 ⟨c,d,kU (c 0 dC),kU (d 0 dC)⟩

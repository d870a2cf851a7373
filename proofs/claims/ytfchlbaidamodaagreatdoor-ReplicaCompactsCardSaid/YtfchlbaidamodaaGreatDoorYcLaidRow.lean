import Derived.Test.YtfchlbaidamodaaGreatDoorKc16
import Derived.LaidMore
import Derived.MakeChecks
import Derived.Stop.LaidErr
import Derived.Lib.LaidTab
import Derived.ChangeMaps5
set_option linter.all false
set_option maxRecDepth 100000
namespace Go.ax
open Go
def FX(a:List Nat)(b:Nat):(a.map λc:Nat=>(c:Int)).getD b 0=((a.getD b 0:Nat):Int):=by
 simp only[QQ,Q9]
 cases a[b]? <;>rfl
end Go.ax
namespace Go.Proofs.YtfchlbaidamodaaGreatDoor
open Go.ax
def Sr:Tryz.prog.globalNamed "quayside/crc.lower"=some 2:=kR
def Ss:Tryz.prog.globalNamed "quayside/crc.upper"=some 3:=kR
def PN:kv.length=16:=by decide+kernel
def PO:ky.length=16:=by decide+kernel
variable{b:World}
def Ur(g:Lib.TabIs ZQ b "quayside/crc.lower" .u32 (kv.map λc:Nat=>(c:Int)))(h:Lib.TabIs ZQ b "quayside/crc.upper" .u32 (ky.map λc:Nat=>(c:Int))):qU b:=
 have e:=λa (d:a<16)=>(g.cell Sr a (by rw[Q8,PN];exact d)).trans (by rw[FX]);have f:=λa (d:a<16)=>(h.cell Ss a (by rw[Q8,PO];exact d)).trans (by rw[FX])
 ⟨e,f,lI (e 0 dC),lI (f 0 dC)⟩
end Go.Proofs.YtfchlbaidamodaaGreatDoor

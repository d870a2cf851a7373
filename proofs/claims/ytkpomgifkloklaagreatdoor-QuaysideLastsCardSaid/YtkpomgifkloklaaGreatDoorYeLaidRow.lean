import Derived.Test.YtkpomgifkloklaaGreatDoorKe11
import Derived.LaidMore
import Derived.MakeChecks
import Derived.Stop.LaidErr
import Derived.Lib.LaidTab
import Derived.ChangeMaps5
set_option linter.all false
set_option maxRecDepth 100000
namespace Go.aw
open Go
def Fw(n:List Nat)(P:Nat):(n.map λa:Nat=>(a:Int)).getD P 0=((n.getD P 0:Nat):Int):=by
 simp only[QQ,Q9]
 cases n[P]? <;>rfl
end Go.aw
namespace Go.Proofs.YtkpomgifkloklaaGreatDoor
open Go.aw
def SO:Tryz.prog.globalNamed "quayside/crc.lower"=some 2:=kR
def SP:Tryz.prog.globalNamed "quayside/crc.upper"=some 3:=kR
def PR:kY.length=16:=by decide+kernel
def PT:kZ.length=16:=by decide+kernel
variable{b:World}
def Vd(e:Lib.TabIs LL b "quayside/crc.lower" .u32 (kY.map λP:Nat=>(P:Int)))(f:Lib.TabIs LL b "quayside/crc.upper" .u32 (kZ.map λP:Nat=>(P:Int))):qX b:=
 have c:=λn (a:n<16)=>(e.cell SO n (by rw[Q8,PR];exact a)).trans (by rw[Fw]);have d:=λn (a:n<16)=>(f.cell SP n (by rw[Q8,PT];exact a)).trans (by rw[Fw])
 ⟨c,d,lZ (c 0 dC),lZ (d 0 dC)⟩

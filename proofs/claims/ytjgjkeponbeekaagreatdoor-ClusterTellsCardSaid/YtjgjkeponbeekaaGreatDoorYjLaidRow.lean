import Derived.Test.YtjgjkeponbeekaaGreatDoorKj11
import Derived.LaidMore
import Derived.MakeChecks
import Derived.Stop.LaidErr
import Derived.Lib.LaidTab
import Derived.ChangeMaps5
set_option linter.all false
set_option maxRecDepth 100000
namespace Go.aw
open Go
def ET(n:List Nat)(P:Nat):(n.map λa:Nat=>(a:Int)).getD P 0=((n.getD P 0:Nat):Int):=by
 simp only[QQ,Q9]
 cases n[P]? <;>rfl
end Go.aw
namespace Go.Proofs.YtjgjkeponbeekaaGreatDoor
open Go.aw
def Sn:Tryz.prog.globalNamed "quayside/crc.lower"=some 2:=kR
def Sp:Tryz.prog.globalNamed "quayside/crc.upper"=some 3:=kR
def Ps:kL.length=16:=by decide+kernel
def Pt:kM.length=16:=by decide+kernel
variable{b:World}
def UB(e:Lib.TabIs LL b "quayside/crc.lower" .u32 (kL.map λP:Nat=>(P:Int)))(f:Lib.TabIs LL b "quayside/crc.upper" .u32 (kM.map λP:Nat=>(P:Int))):qT b:=
 have c:=λn (a:n<16)=>(e.cell Sn n (by rw[Q8,Ps];exact a)).trans (by rw[ET]);have d:=λn (a:n<16)=>(f.cell Sp n (by rw[Q8,Pt];exact a)).trans (by rw[ET])
 ⟨c,d,lS (c 0 dC),lS (d 0 dC)⟩

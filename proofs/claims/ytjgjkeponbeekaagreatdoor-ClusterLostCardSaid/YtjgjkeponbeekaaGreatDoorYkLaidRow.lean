import Derived.Test.YtjgjkeponbeekaaGreatDoorKk11
import Derived.LaidMore
import Derived.MakeChecks
import Derived.Stop.LaidErr
import Derived.Lib.LaidTab
import Derived.ChangeMaps5
set_option linter.all false
set_option maxRecDepth 100000
namespace Go.aw
open Go
def ED(n:List Nat)(P:Nat):(n.map λa:Nat=>(a:Int)).getD P 0=((n.getD P 0:Nat):Int):=by
 simp only[QQ,Q9]
 cases n[P]? <;>rfl
end Go.aw
namespace Go.Proofs.YtjgjkeponbeekaaGreatDoor
open Go.aw
def RJ:Tryz.prog.globalNamed "quayside/crc.lower"=some 2:=kR
def RL:Tryz.prog.globalNamed "quayside/crc.upper"=some 3:=kR
def OO:kJ.length=16:=by decide+kernel
def OP:kK.length=16:=by decide+kernel
variable{b:World}
def TV(e:Lib.TabIs ZP b "quayside/crc.lower" .u32 (kJ.map λP:Nat=>(P:Int)))(f:Lib.TabIs ZP b "quayside/crc.upper" .u32 (kK.map λP:Nat=>(P:Int))):qP b:=
 have c:=λn (a:n<16)=>(e.cell RJ n (by rw[Q8,OO];exact a)).trans (by rw[ED]);have d:=λn (a:n<16)=>(f.cell RL n (by rw[Q8,OP];exact a)).trans (by rw[ED])
 ⟨c,d,lM (c 0 dC),lM (d 0 dC)⟩

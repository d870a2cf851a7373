import Derived.Test.YtjgjkeponbeekaaGreatDoorKc11
import Derived.LaidMore
import Derived.MakeChecks
import Derived.Stop.LaidErr
import Derived.Lib.LaidTab
import Derived.ChangeMaps5
set_option linter.all false
set_option maxRecDepth 100000
namespace Go.aq
open Go
def EO(n:List Nat)(P:Nat):(n.map λa:Nat=>(a:Int)).getD P 0=((n.getD P 0:Nat):Int):=by
 simp only[QQ,Q9]
 cases n[P]? <;>rfl
end Go.aq
namespace Go.Proofs.YtjgjkeponbeekaaGreatDoor
open Go.aq
def RS:Tryz.prog.globalNamed "quayside/crc.lower"=some 2:=kR
def RT:Tryz.prog.globalNamed "quayside/crc.upper"=some 3:=kR
def OW:ky.length=16:=by decide+kernel
def OX:kC.length=16:=by decide+kernel
variable{b:World}
def Ud(e:Lib.TabIs WP b "quayside/crc.lower" .u32 (ky.map λP:Nat=>(P:Int)))(f:Lib.TabIs WP b "quayside/crc.upper" .u32 (kC.map λP:Nat=>(P:Int))):qQ b:=
 have c:=λn (a:n<16)=>(e.cell RS n (by rw[Q8,OW];exact a)).trans (by rw[EO]);have d:=λn (a:n<16)=>(f.cell RT n (by rw[Q8,OX];exact a)).trans (by rw[EO])
 ⟨c,d,lH (c 0 dC),lH (d 0 dC)⟩

import Derived.Test.YtjgjkeponbeekaaGreatDoorKi11
import Derived.LaidMore
import Derived.MakeChecks
import Derived.Stop.LaidErr
import Derived.Lib.LaidTab
import Derived.ChangeMaps5
set_option linter.all false
set_option maxRecDepth 100000
namespace Go.au
open Go
def Ds(n:List Nat)(P:Nat):(n.map λa:Nat=>(a:Int)).getD P 0=((n.getD P 0:Nat):Int):=by
 simp only[QQ,Q9]
 cases n[P]? <;>rfl
end Go.au
namespace Go.Proofs.YtjgjkeponbeekaaGreatDoor
open Go.au
def PE:Tryz.prog.globalNamed "quayside/crc.lower"=some 2:=kR
def PF:Tryz.prog.globalNamed "quayside/crc.upper"=some 3:=kR
def Nb:jz.length=16:=by decide+kernel
def Nc:jA.length=16:=by decide+kernel
variable{b:World}
def RQ(e:Lib.TabIs XP b "quayside/crc.lower" .u32 (jz.map λP:Nat=>(P:Int)))(f:Lib.TabIs XP b "quayside/crc.upper" .u32 (jA.map λP:Nat=>(P:Int))):pL b:=
 have c:=λn (a:n<16)=>(e.cell PE n (by rw[Q8,Nb];exact a)).trans (by rw[Ds]);have d:=λn (a:n<16)=>(f.cell PF n (by rw[Q8,Nc];exact a)).trans (by rw[Ds])
 ⟨c,d,ks (c 0 dC),ks (d 0 dC)⟩

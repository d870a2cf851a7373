import Derived.Test.YtkpomgifkloklabGreatDoorKf11
import Derived.LaidMore
import Derived.MakeChecks
import Derived.Stop.LaidErr
import Derived.Lib.LaidTab
import Derived.ChangeMaps5
set_option linter.all false
set_option maxRecDepth 100000
namespace Go.aw
open Go
def EN(n:List Nat)(P:Nat):(n.map λa:Nat=>(a:Int)).getD P 0=((n.getD P 0:Nat):Int):=by
 simp only[QQ,Q9]
 cases n[P]? <;>rfl
end Go.aw
namespace Go.Proofs.YtkpomgifkloklabGreatDoor
open Go.aw
def Sn:Tryz.prog.globalNamed "quayside/crc.lower"=some 2:=kR
def Sp:Tryz.prog.globalNamed "quayside/crc.upper"=some 3:=kR
def Pw:kD.length=16:=by decide+kernel
def Px:kH.length=16:=by decide+kernel
variable{b:World}
def Uz(e:Lib.TabIs LL b "quayside/crc.lower" .u32 (kD.map λP:Nat=>(P:Int)))(f:Lib.TabIs LL b "quayside/crc.upper" .u32 (kH.map λP:Nat=>(P:Int))):qK b:=
 have c:=λn (a:n<16)=>(e.cell Sn n (by rw[Q8,Pw];exact a)).trans (by rw[EN]);have d:=λn (a:n<16)=>(f.cell Sp n (by rw[Q8,Px];exact a)).trans (by rw[EN])
 ⟨c,d,lN (c 0 dC),lN (d 0 dC)⟩

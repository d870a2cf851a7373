import Derived.Test.YtjgjkeponbeekaaGreatDoorKb11
import Derived.LaidMore
import Derived.MakeChecks
import Derived.Stop.LaidErr
import Derived.Lib.LaidTab
import Derived.ChangeMaps5
set_option linter.all false
set_option maxRecDepth 100000
namespace Go.ar
open Go
def Fh(n:List Nat)(P:Nat):(n.map λa:Nat=>(a:Int)).getD P 0=((n.getD P 0:Nat):Int):=by
 simp only[QQ,Q9]
 cases n[P]? <;>rfl
end Go.ar
namespace Go.Proofs.YtjgjkeponbeekaaGreatDoor
open Go.ar
def Sx:Tryz.prog.globalNamed "quayside/crc.lower"=some 2:=kR
def Sy:Tryz.prog.globalNamed "quayside/crc.upper"=some 3:=kR
def PB:kD.length=16:=by decide+kernel
def PD:kH.length=16:=by decide+kernel
variable{b:World}
def UK(e:Lib.TabIs PP b "quayside/crc.lower" .u32 (kD.map λP:Nat=>(P:Int)))(f:Lib.TabIs PP b "quayside/crc.upper" .u32 (kH.map λP:Nat=>(P:Int))):qU b:=
 have c:=λn (a:n<16)=>(e.cell Sx n (by rw[Q8,PB];exact a)).trans (by rw[Fh]);have d:=λn (a:n<16)=>(f.cell Sy n (by rw[Q8,PD];exact a)).trans (by rw[Fh])
 ⟨c,d,lN (c 0 dC),lN (d 0 dC)⟩

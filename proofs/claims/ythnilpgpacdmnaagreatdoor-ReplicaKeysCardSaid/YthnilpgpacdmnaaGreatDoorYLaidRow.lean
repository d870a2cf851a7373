import Derived.Test.YthnilpgpacdmnaaGreatDoorK16
import Derived.LaidMore
import Derived.MakeChecks
import Derived.Stop.LaidErr
import Derived.Lib.LaidTab
import Derived.ChangeMaps5
namespace Go.au
open Go
theorem CT (a:List Nat) (b:Nat):(a.map λc:Nat=>(c:Int)).getD b 0=((a.getD b 0:Nat):Int):=by
 simp only [QQ,Q9]
 cases a[b]? <;>rfl
end Go.au
namespace Go.Proofs.YthnilpgpacdmnaaGreatDoor
open Go.au
set_option maxRecDepth 100000
theorem On:Tryz.prog.globalNamed "quayside/crc.lower"=some 2:=kR
theorem Oo:Tryz.prog.globalNamed "quayside/crc.upper"=some 3:=kR
theorem Mj:iZ.length=16:=by decide+kernel
theorem Mk:i_.length=16:=by decide+kernel
variable{b:World}
theorem Ql (g:Lib.TabIs Tryz.prog b "quayside/crc.lower" .u32 (iZ.map λc:Nat=>(c:Int))) (h:Lib.TabIs Tryz.prog b "quayside/crc.upper" .u32 (i_.map λc:Nat=>(c:Int))):oR b:=
 have e:=λa (d:a<16)=>(g.cell On a (by rw [Q8,Mj];exact d)).trans (by rw [CT]);have f:=λa (d:a<16)=>(h.cell Oo a (by rw [Q8,Mk];exact d)).trans (by rw [CT])
 ⟨e,f,jP (e 0 dC),jP (f 0 dC)⟩
end Go.Proofs.YthnilpgpacdmnaaGreatDoor

import Derived.Test.YtfchlbaidamodaaGreatDoorYdCode
import Derived.Test.YtfchlbaidamodaaGreatDoorKd17
set_option linter.all false
set_option maxRecDepth 100000
namespace Go.Proofs.YtfchlbaidamodaaGreatDoor
open Go.ax
variable {w:World} {R:Ending->World->Prop}
def wm:fS:=⟨[(4,[(12,.agg #[XG 0,XG 0,XG 0,.slice none 0 0,XG 0,XG 0,XG 0,XG 0,XG 0,XG 0])])],[],[5],[5],[]⟩
variable{T q:Array Value}{z:FuncId}{B U e m:Int}{H a c i n:Nat}{d:Option Addr}
theorem wo 
  (a0:PA w (.cells #[.func (.func z) q T] 163) λc=>PA c (.cells #[.slice none 0 0] 50) λC=>(∃E F,d=some ⟨E,F,none⟩/\(∃(H:Option Nat),C.cell? ⟨E,F+1,none⟩=some (.map H)/\
   PC ZX 148 #[.map H] C (λv8 a=>∃(I:Value),v8=I/\(Hz ZX I [.agg #[XG 0,XG 0,XG 0,.slice none 0 0,XG 0,XG 0,XG 0,XG 0,XG 0,XG 0]] a (λe1 J f=>
   ∀(i:Int) (j:Int) (k:Int) (l:Option Addr) (m:Nat) (n:Nat) (o:Int) (p:Int) (r:Int) (s:Int) (t:Int) (u:Int),e1 [.agg #[XG i,XG j,XG k,.slice l m n,XG o,XG p,XG r,XG s,XG t,XG u]]->PA f (.cells #[XG 0,XG 0,XG 0,.slice none 0 0,XG 0,XG 0,XG 0,XG 0,XG 0,XG 0] 59) λe2=>
   xJ ZX 59 (.pointer (some ⟨f.heap.size,0,none⟩)) (.agg #[XG i,XG j,XG k,.slice l m n,XG o,XG p,XG r,XG s,XG t,XG u]) e2 λK=>
   (aj (oF a) f K/\∀e,qV (a.heap.size+1) K e->(∃(L:Value),e.cell? ⟨w.heap.size,0,none⟩=some L/\(ow ZX 59 (.pointer (some ⟨f.heap.size,0,none⟩)) e λe3=>
   (∃x M N,(L:Value)= .func (.func x) M N/\enters ZX x=true/\PC ZX x (M++ #[e3]++N) e (λe4 y=>
   ∃(O:Bool),e4= .bool O/\al O ((∀g,bE y g->∃A:Nat->Prop,(¬A c.heap.size/\(∃(P:Option Addr) (Q:Nat) (S:Nat),g.cell? ⟨c.heap.size,0,none⟩=some (.slice P Q S)/\
   (ow ZX 59 (.pointer (some ⟨f.heap.size,0,none⟩)) g λe5=>PC ZX 142 #[e5] g (λe6 v=>∃(U:Int),∃(V:Int),∃(W:Int),∃(X:Option Addr) (Y:Nat) (Z:Nat),∃(d1:Int),∃(d2:Int),∃(d3:Int),∃(d4:Int),∃(d5:Int),∃(d6:Int),e6= .agg #[XG U,XG V,XG W,.slice X Y Z,XG d1,XG d2,XG d3,XG d4,XG d5,XG d6]/\
   (aj A g v/\PA v (.cells #[XG U,XG V,XG W,.slice X Y Z,XG d1,XG d2,XG d3,XG d4,XG d5,XG d6] 59) λd7=>
   (aj A v d7/\aH ZX (Builtin.append_ #[50,50] 50 #[.slice P Q S,.slice (some ⟨v.heap.size,0,none⟩) 1 1]) d7 (λe7 e8=>
   ∃(a9:Option Addr) (b0:Nat) (b1:Nat),e7= .slice a9 b0 b1/\PS e8 ⟨c.heap.size,0,none⟩ (.slice a9 b0 b1) λd8=>(aj (oF a) e d8/\
   J [.agg #[XG i,XG j,XG k,.slice l m n,XG o,XG p,XG r,XG s,XG t,XG u]] .normal d8)) (λpv b=>
   ∀(_:cy) (_:dq),False)))) (λh b=>∀(_:cy) (_:dq),False)))))) ((aj (oF a) e y/\J [.agg #[XG i,XG j,XG k,.slice l m n,XG o,XG p,XG r,XG s,XG t,XG u]] .normal y))) (λh w=>
   False)))))) (λd9=>(∃(b2:Option Addr) (b3:Nat) (b4:Nat),d9.cell? ⟨c.heap.size,0,none⟩=some (.slice b2 b3 b4)/\PC ZX 149 #[.slice b2 b3 b4,.func (.func 150) #[] #[]] d9 (λe9 B=>
   e9= .tuple #[]/\(∃(b6:Option Addr) (b7:Nat) (b8:Nat),B.cell? ⟨c.heap.size,0,none⟩=some (.slice b6 b7 b8)/\(ri a.heap.size B/\
   ∀e0,qV a.heap.size B e0->R (.returned (.slice b6 b7 b8)) e0))) (λh b=>(ri a.heap.size b/\∀pH,qV a.heap.size b pH->R (.panicked h) pH)))) [])) (λh w=>
   R (.panicked h) w)))):
  Calls ZX 80 #[.pointer d,.func (.func z) q T] w R:=
 nN wm [] mixed Tryz.func80 rfl (Nat.le_of_ble_eq_true kR) kR (Eq.mp kR a0)
def EG:fS:=⟨[(7,[(20,XG 0),(21,.agg #[XG 0,XG 0,XG 0,.slice none 0 0,XG 0,XG 0,XG 0,XG 0,XG 0,XG 0,.bool false,XG 0,XG 0])])],[],[6],[6],[]⟩
theorem EH 
  (a0:PA w (.cells #[XG e] 3) λO=>PA O (.cells #[XG m] 3) λE=>PA E (.cells #[XG B] 3) λP=>PA P (.cells #[XG U] 3) λh=>
   PA h (.cells #[.slice none 0 0] 43) λi=>PA i (.cells #[.bool false] 4) λg=>PA g (.cells #[.slice none 0 0] 43) λQ=>(∃(K:Int),Q.cell? ⟨E.heap.size,0,none⟩=some (XG K)/\
   PS Q ⟨E.heap.size,0,none⟩ (XG (if 0>K then 0 else K)) λh0=>PC ZX 160 #[.slice d a c,.func (.func 161) #[] #[.pointer (some ⟨w.heap.size,0,none⟩),.pointer (some ⟨O.heap.size,0,none⟩)]] h0 (λh2 f=>
   ∃(S:Value),h2=S/\(Hz ZX S [XG 0,.agg #[XG 0,XG 0,XG 0,.slice none 0 0,XG 0,XG 0,XG 0,XG 0,XG 0,XG 0,.bool false,XG 0,XG 0]] f (λh3 L F=>
   ∀(j:Int) (k:Int) (l:Int) (n:Int) (o:Option Addr) (p:Nat) (q:Nat) (r:Int) (s:Int) (t:Int) (u:Int) (v:Int) (x:Int) (y:Bool) (z:Int) (A:Int),h3 [XG j,.agg #[XG k,XG l,XG n,.slice o p q,XG r,XG s,XG t,XG u,XG v,XG x,.bool y,XG z,XG A]]->PA F (.cells #[XG 0,XG 0,XG 0,.slice none 0 0,XG 0,XG 0,XG 0,XG 0,XG 0,XG 0,.bool false,XG 0,XG 0] 160) λh4=>
   xJ ZX 160 (.pointer (some ⟨F.heap.size,0,none⟩)) (.agg #[XG k,XG l,XG n,.slice o p q,XG r,XG s,XG t,XG u,XG v,XG x,.bool y,XG z,XG A]) h4 λT=>
   (aj (oF f) F T/\∀b,qV (f.heap.size+1) T b->(∃(V:Int),b.cell? ⟨E.heap.size,0,none⟩=some (XG V)/\al (decide ((j:Int)<V)) ((aj (oF f) b b/\
   L [XG j,.agg #[XG k,XG l,XG n,.slice o p q,XG r,XG s,XG t,XG u,XG v,XG x,.bool y,XG z,XG A]] .normal b)) ((∃(e2:Option Addr) (W:Nat) (e3:Nat),b.cell? ⟨g.heap.size,0,none⟩=some (.slice e2 W e3)/\
   (∃(X:Int),b.cell? ⟨P.heap.size,0,none⟩=some (XG X)/\al (decide ((((W:Nat):Int):Int)>=X)) ((∃(Y:Option Addr) (Z:Nat) (b3:Nat),b.cell? ⟨g.heap.size,0,none⟩=some (.slice Y Z b3)/\
   PS b ⟨h.heap.size,0,none⟩ (.slice Y Z b3) λh5=>PS h5 ⟨i.heap.size,0,none⟩ (.bool true) λe5=>(aj (oF f) b e5/\L [XG j,.agg #[XG k,XG l,XG n,.slice o p q,XG r,XG s,XG t,XG u,XG v,XG x,.bool y,XG z,XG A]] .ret e5))) ((∀C,bE b C->∃M:Nat->Prop,(¬M g.heap.size/\
   (∃(b4:Option Addr) (b5:Nat) (b6:Nat),C.cell? ⟨g.heap.size,0,none⟩=some (.slice b4 b5 b6)/\(ow ZX 160 (.pointer (some ⟨F.heap.size,0,none⟩)) C λh6=>
   PC ZX 162 #[h6] C (λh7 H=>∃(e6:Int),∃(e7:Int),∃(e8:Int),∃(b7:Option Addr) (b8:Nat) (b9:Nat),∃(e9:Int),∃(f2:Int),∃(f3:Int),∃(f5:Int),∃(f6:Int),∃(f7:Int),∃(g0:Bool),∃(g1:Int),∃(g2:Int),h7= .agg #[XG e6,XG e7,XG e8,.slice b7 b8 b9,XG e9,XG f2,XG f3,XG f5,XG f6,XG f7,.bool g0,XG g1,XG g2]/\
   (aj M C H/\PA H (.cells #[XG e6,XG e7,XG e8,.slice b7 b8 b9,XG e9,XG f2,XG f3,XG f5,XG f6,XG f7,.bool g0,XG g1,XG g2] 160) λg3=>
   (aj M H g3/\aH ZX (Builtin.append_ #[43,43] 43 #[.slice b4 b5 b6,.slice (some ⟨H.heap.size,0,none⟩) 1 1]) g3 (λh8 h9=>
   ∃(c0:Option Addr) (c1:Nat) (c2:Nat),h8= .slice c0 c1 c2/\PS h9 ⟨g.heap.size,0,none⟩ (.slice c0 c1 c2) λg4=>(aj (oF f) b g4/\
   L [XG j,.agg #[XG k,XG l,XG n,.slice o p q,XG r,XG s,XG t,XG u,XG v,XG x,.bool y,XG z,XG A]] .normal g4)) (λpv N=>
   ∀(_:cy) (_:dq),False)))) (λch N=>∀(_:cy) (_:dq),False)))))))))))) (λg5=>(∃(c3:Option Addr) (c4:Nat) (c5:Nat),g5.cell? ⟨g.heap.size,0,none⟩=some (.slice c3 c4 c5)/\
   PS g5 ⟨h.heap.size,0,none⟩ (.slice c3 c4 c5) λi0=>PS i0 ⟨i.heap.size,0,none⟩ (.bool false) λg6=>(ri f.heap.size g6/\
   ∀I,qV f.heap.size g6 I->(∃(c6:Option Addr) (c7:Nat) (c8:Nat),I.cell? ⟨h.heap.size,0,none⟩=some (.slice c6 c7 c8)/\
   (∃(g7:Bool),I.cell? ⟨i.heap.size,0,none⟩=some (.bool g7)/\R (.returned (.tuple #[.slice c6 c7 c8,.bool g7])) I))))) [(.ret,λg8=>
   (ri f.heap.size g8/\∀J,qV f.heap.size g8 J->(∃(c9:Option Addr) (d0:Nat) (d1:Nat),J.cell? ⟨h.heap.size,0,none⟩=some (.slice c9 d0 d1)/\
   (∃(g9:Bool),J.cell? ⟨i.heap.size,0,none⟩=some (.bool g9)/\R (.returned (.tuple #[.slice c9 d0 d1,.bool g9])) J))))])) (λch w=>
   R (.panicked ch) w))):
  Calls ZX 100 #[.slice d a c,XG e,XG m,XG B,XG U] w R:=
 nN EG [] mixed Tryz.func100 rfl (Nat.le_of_ble_eq_true kR) kR (Eq.mp kR a0)
def dS:fS:=⟨[(1,[])],[],[],[],[]⟩
theorem dT 
  (E:(∃(g:Option Nat),w.cell? ⟨c,i,none⟩=some (.map g)/\aH ZX (Instr.range 177 (.map g)) w (λh F=>(∃e:Nat->World->Prop,(∃d,e d F)/\
   ∀(d:Nat) (O:Nat->Value) (j:World),e d j->aH ZX (Instr.next h false 0) j (λk l=>(k= .tuple #[.bool false]/\
   R (.returned (.tuple #[])) l)\/(∃H I,k= .tuple #[.bool true,H,I]/\aH ZX (Instr.entry h) l (λJ f=>∃(K:Value),∃(m:Int),∃(n:Int),∃(o:Int),∃(p:Option Addr) (q:Nat) (r:Nat),∃(s:Int),∃(t:Int),∃(u:Int),∃(v:Int),∃(x:Int),∃(y:Int),J= .tuple #[K,.agg #[XG m,XG n,XG o,.slice p q r,XG s,XG t,XG u,XG v,XG x,XG y]]/\
   PA f (.cells #[XG 0,XG 0,XG 0,.slice none 0 0,XG 0,XG 0,XG 0,XG 0,XG 0,XG 0] 59) λL=>
   xJ ZX 59 (.pointer (some ⟨f.heap.size,0,none⟩)) (.agg #[XG m,XG n,XG o,.slice p q r,XG s,XG t,XG u,XG v,XG x,XG y]) L λz=>
   (ow ZX 59 (.pointer (some ⟨f.heap.size,0,none⟩)) z λM=>(∃A,(.func (.yield a) #[] #[]:Value)= .func (.yield A) #[] #[]/\
   ks ZX A [M] z λN B=>al (!N) (R (.returned (.tuple #[])) B) ((∃C,C<d/\e C B))))) (λb w=>R (.panicked [{v:=b,recovered:=false}]) w))) (λb w=>
   R (.panicked [{v:=b,recovered:=false}]) w))) (λb w=>R (.panicked [{v:=b,recovered:=false}]) w))):
  Calls ZX 205 #[.func (.yield a) #[] #[],.pointer (some ⟨c,i,none⟩)] w R:=
 nN dS [3] mixed Tryz.func205 rfl (Nat.le_of_ble_eq_true kR) kR (Eq.mp kR E)
def wq:fS:=⟨[(2,[(4,XG 0),(9,XG 0)])],[],[],[],[]⟩
theorem wu 
  (y:(∃(o:Option Addr) (j:Nat) (z:Nat),w.cell? ⟨c,i,none⟩=some (.slice o j z)/\(∃g:Nat->Int->Int->World->Prop,(∃e,g e 0 0 w)/\
   ∀(e:Nat) (h:Int) (b:Int) (K:Nat->Value) (d:World),g e h b d->al (decide ((b:Int)<((j:Nat):Int))) ((∃p q,o=some ⟨p,q,none⟩/\
   (0:Int)<=b/\b<((j:Nat):Int)/\(ow ZX 160 (.pointer (some ⟨p,q+Int.toNat b*13,none⟩)) d λA=>PA d (.cells #[XG 0,XG 0,XG 0,.slice none 0 0,XG 0,XG 0,XG 0,XG 0,XG 0,XG 0,.bool false,XG 0,XG 0] 160) λB=>
   xJ ZX 160 (.pointer (some ⟨d.heap.size,0,none⟩)) A B λk=>(∃(r:Value),k.cell? ⟨n,H,none⟩=some r/\(ow ZX 160 (.pointer (some ⟨d.heap.size,0,none⟩)) k λC=>
   (∃l s t,(r:Value)= .func (.func l) s t/\enters ZX l=true/\PC ZX l (s++ #[C]++t) k (λE m=>
   ∃(u:Bool),E= .bool u/\al (!u) ((∃f,f<e/\g f h (IntKind.wrap .i64 (b+1)) m)) ((ow ZX 160 (.pointer (some ⟨d.heap.size,0,none⟩)) m λF=>
   (∃v,(.func (.yield a) #[] #[]:Value)= .func (.yield v) #[] #[]/\ks ZX v [XG h,F] m λI x=>al (!I) (R (.returned (.tuple #[])) x) ((∃f,f<e/\
   g f (IntKind.wrap .i64 (h+1)) (IntKind.wrap .i64 (b+1)) x)))))) (λJ w=>R (.panicked J) w))))))) (R (.returned (.tuple #[])) d)))):
  Calls ZX 226 #[.func (.yield a) #[] #[],.pointer (some ⟨c,i,none⟩),.pointer (some ⟨n,H,none⟩)] w R:=
 nN wq [5] mixed Tryz.func226 rfl (Nat.le_of_ble_eq_true kR) kR (Eq.mp kR y)
end Go.Proofs.YtfchlbaidamodaaGreatDoor

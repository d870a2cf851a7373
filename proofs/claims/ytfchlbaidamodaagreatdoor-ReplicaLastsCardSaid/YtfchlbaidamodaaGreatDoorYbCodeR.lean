import Derived.Test.YtfchlbaidamodaaGreatDoorYbCode
import Derived.Test.YtfchlbaidamodaaGreatDoorKb19
set_option linter.all false
set_option maxRecDepth 100000
namespace Go.Proofs.YtfchlbaidamodaaGreatDoor
open Go.ax
variable {w:World} {R:Ending->World->Prop}
def wm:fS:=⟨[(4,[(12,.agg #[QH 0,QH 0,QH 0,.slice none 0 0,QH 0,QH 0,QH 0,QH 0,QH 0,QH 0])])],[],[5],[5],[]⟩
variable{a1 r:Array Value}{z:FuncId}{E a c i n:Nat}{d:Option Addr}
theorem wo (a0:PA w (.cells #[.func (.func z) r a1] 163) λc=>PA c (.cells #[.slice none 0 0] 50) λA=>(dr d λe9 f0=>(rM A (ad e9 (f0+1)) λa2=>PC_ 148 #[.map a2] A (λf1 a=>∃(B:Value),f1=B/\(Hz ZQ B [.agg #[.ii 0,.ii 0,.ii 0,.slice none 0 0,.ii 0,.ii 0,.ii 0,.ii 0,.ii 0,.ii 0]] a (λf2 C f=>∀(h:Int) (i:Int) (j:Int) (k:Option Addr) (l:Nat) (m:Nat) (n:Int) (o:Int) (p:Int) (q:Int) (s:Int) (t:Int),f2 [.agg #[.ii h,.ii i,.ii j,.slice k l m,.ii n,.ii o,.ii p,.ii q,.ii s,.ii t]]->PA f (.cells #[.ii 0,.ii 0,.ii 0,.slice none 0 0,.ii 0,.ii 0,.ii 0,.ii 0,.ii 0,.ii 0] 59) λf3=>St 59 (ab_ f 0) (.agg #[.ii h,.ii i,.ii j,.slice k l m,.ii n,.ii o,.ii p,.ii q,.ii s,.ii t]) f3 λE=>(aj (oF a) f E/\∀e,qV (a.heap.size+1) E e->(∃(F:Value),e.cell? (ab_ w 0)=some F/\(Ld 59 (ab_ f 0) e λf4=>(∃D H I,(F:Value)= .func (.func D) H I/\enters ZQ D=true/\PC_ D (H++ #[f4]++I) e (kB λf5 v=>al f5 ((∀g,bE v g->∃x:Nat->Prop,(¬x c.heap.size/\(rS g (ab_ c 0) λf6 f7 f8=>(Ld 59 (ab_ f 0) g λf9=>PC_ 142 #[f9] g (λg0 u=>∃J K L M N O P Q S T U V,g0= .agg #[.ii J,.ii K,.ii L,.slice M N O,.ii P,.ii Q,.ii S,.ii T,.ii U,.ii V]/\(aj x g u/\PA u (.cells #[.ii J,.ii K,.ii L,.slice M N O,.ii P,.ii Q,.ii S,.ii T,.ii U,.ii V] 59) λW=>(aj x u W/\PR_ (ap_ 50 (.slice f6 f7 f8) (.slice (some (ab_ u 0)) 1 1)) W (kS_ λg1 g2 g3 g4=>PS g4 (ab_ c 0) (.slice g1 g2 g3) λX=>(aj (oF a) e X/\C [.agg #[.ii h,.ii i,.ii j,.slice k l m,.ii n,.ii o,.ii p,.ii q,.ii s,.ii t]] .normal X)) (λpv b=>∀(_:cy) (_:dq),False)))) (λy b=>∀(_:cy) (_:dq),False)))))) ((aj (oF a) e v/\C [.agg #[.ii h,.ii i,.ii j,.slice k l m,.ii n,.ii o,.ii p,.ii q,.ii s,.ii t]] .normal v))) (λy w=>False)))))) (λY=>(rS Y (ab_ c 0) λg5 g6 g7=>PC_ 149 #[.slice g5 g6 g7,.func (.func 150) #[] #[]] Y (k0_ λG=>(rS G (ab_ c 0) λg8 g9 h0=>(ri a.heap.size G/\∀Z,qV a.heap.size G Z->rt R ((.slice g8 g9 h0)) Z))) (λy b=>(ri a.heap.size b/\∀b4,qV a.heap.size b b4->R (.panicked y) b4)))) [])) (pE R)))):Calls ZQ 80 #[.pointer d,.func (.func z) r a1] w R:=
 nN wm [] mixed Tryz.func80 rfl (Nat.le_of_ble_eq_true kR) kR (Eq.mp kR a0)
def dS:fS:=⟨[(1,[])],[],[],[],[]⟩
theorem dT 
  (E:(∃(g:Option Nat),w.cell? ⟨c,i,none⟩=some (.map g)/\aH ZQ (Instr.range 177 (.map g)) w (λh F=>(∃e:Nat->World->Prop,(∃d,e d F)/\
   ∀(d:Nat) (O:Nat->Value) (j:World),e d j->aH ZQ (Instr.next h false 0) j (λk l=>(k= .tuple #[.bool false]/\
   R (.returned (.tuple #[])) l)\/(∃H I,k= .tuple #[.bool true,H,I]/\aH ZQ (Instr.entry h) l (λJ f=>∃(K:Value),∃(m:Int),∃(n:Int),∃(o:Int),∃(p:Option Addr) (q:Nat) (r:Nat),∃(s:Int),∃(t:Int),∃(u:Int),∃(v:Int),∃(x:Int),∃(y:Int),J= .tuple #[K,.agg #[.ii m,.ii n,.ii o,.slice p q r,.ii s,.ii t,.ii u,.ii v,.ii x,.ii y]]/\
   PA f (.cells #[.ii 0,.ii 0,.ii 0,.slice none 0 0,.ii 0,.ii 0,.ii 0,.ii 0,.ii 0,.ii 0] 59) λL=>
   xJ ZQ 59 (.pointer (some ⟨f.heap.size,0,none⟩)) (.agg #[.ii m,.ii n,.ii o,.slice p q r,.ii s,.ii t,.ii u,.ii v,.ii x,.ii y]) L λz=>
   (ow ZQ 59 (.pointer (some ⟨f.heap.size,0,none⟩)) z λM=>(∃A,(.func (.yield a) #[] #[]:Value)= .func (.yield A) #[] #[]/\
   ks ZQ A [M] z λN B=>al (!N) (R (.returned (.tuple #[])) B) ((∃C,C<d/\e C B))))) (λb w=>R (.panicked [{v:=b,recovered:=false}]) w))) (λb w=>
   R (.panicked [{v:=b,recovered:=false}]) w))) (λb w=>R (.panicked [{v:=b,recovered:=false}]) w))):
  Calls ZQ 205 #[.func (.yield a) #[] #[],.pointer (some ⟨c,i,none⟩)] w R:=
 nN dS [3] mixed Tryz.func205 rfl (Nat.le_of_ble_eq_true kR) kR (Eq.mp kR E)
def AI:fS:=⟨[(3,[(5,.string (⟨#[]⟩:ByteArray))])],[],[],[],[]⟩
theorem Ag 
  (n:PA w (.cells #[.pointer d] 87) λf=>(∃(g:Option Addr),f.cell? ⟨w.heap.size,0,none⟩=some (.pointer g)/\PC ZQ 124 #[.pointer g] f (λo a=>
   ∃(h:Value),o=h/\(Hz ZQ h [.string (⟨#[]⟩:ByteArray)] a (λp q c=>∀(e:ByteArray),p [.string e]->(aj (oF a) c c/\
   ∀b,qV (a.heap.size+1) c b->(∃(i:Option Addr),b.cell? ⟨w.heap.size,0,none⟩=some (.pointer i)/\PC ZQ 119 #[.pointer i,.string e] b (λr j=>
   ∃(s:Int),r= .ii s/\(aj (oF a) b j/\q [.string e] .normal j)) (λk w=>False)))) (λl=>(ri a.heap.size l/\
   ∀m,qV a.heap.size l m->R (.returned (.tuple #[])) m)) [])) (λk w=>R (.panicked k) w))):
  Calls ZQ 64 #[.pointer d] w R:=
 nN AI [] mixed Tryz.func64 rfl (Nat.le_of_ble_eq_true kR) kR (Eq.mp kR n)
def AJ:fS:=⟨[],[],[],[],[]⟩
theorem Af 
  (h:PA w (.cells #[.pointer d] 87) λb=>(∃(c:Option Addr),b.cell? ⟨w.heap.size,0,none⟩=some (.pointer c)/\PC ZQ 136 #[.pointer c] b (λi a=>
   ∃(e:Option Addr) (f:Nat) (g:Nat),∃(j:Bool),i= .tuple #[.agg #[.slice e f g],.bool j]/\PA a (.cells #[.slice none 0 0] 230) λk=>
   PS k ⟨a.heap.size,0,none⟩ (.slice e f g) λl=>R (.returned (.func (.func 175) #[] #[.pointer (some ⟨w.heap.size,0,none⟩),.pointer (some ⟨a.heap.size,0,none⟩)])) l) (λm w=>
   R (.panicked m) w))):
  Calls ZQ 124 #[.pointer d] w R:=DC AJ Tryz.func124 rfl h
def u_:fS:=⟨[(1,[(11,QH 0)])],[],[],[],[]⟩
theorem ux 
  (F:(∃(m:Option Addr),w.cell? ⟨c,i,none⟩=some (.pointer m)/\PC ZQ 176 #[.pointer m] w (λH I=>∃(o:Option Addr) (l:Nat) (J:Nat),H= .slice o l J/\
   (∃f:Nat->Int->World->Prop,(∃e,f e 0 I)/\∀(e:Nat) (d:Int) (O:Nat->Value) (j:World),f e d j->al (decide ((d:Int)<((l:Nat):Int))) ((∃p q,o=some ⟨p,q,none⟩/\
   (0:Int)<=d/\d<((l:Nat):Int)/\(∃(g:ByteArray),j.cell? ⟨p,q+Int.toNat d,none⟩=some (.string g)/\PC ZQ 177 #[.string g] j (λK k=>
   ∃(r:Int),∃(s:Bool),K= .tuple #[QH r,.bool s]/\al ((ByteArray.toList g)==(ByteArray.toList (⟨#[109,97,110,105,102,101,115,116,46,116,109,112]⟩:ByteArray))) ((∃t,(.func (.yield a) #[] #[]:Value)= .func (.yield t) #[] #[]/\
   ks ZQ t [.string g] k λL u=>al (!L) (R (.returned (.tuple #[])) u) ((∃b,b<e/\f b (IntKind.wrap .i64 (d+1)) u)))) (al s ((∃(v:Option Addr) (x:Nat) (y:Nat),k.cell? ⟨n,E,none⟩=some (.slice v x y)/\
   PC ZQ 178 #[.slice v x y,QH r] k (λM z=>∃(A:Bool),M= .bool A/\al (!A) ((∃B,(.func (.yield a) #[] #[]:Value)= .func (.yield B) #[] #[]/\
   ks ZQ B [.string g] z λN C=>al (!N) (R (.returned (.tuple #[])) C) ((∃b,b<e/\f b (IntKind.wrap .i64 (d+1)) C)))) ((∃b,b<e/\
   f b (IntKind.wrap .i64 (d+1)) z))) (λh w=>R (.panicked h) w))) ((∃b,b<e/\f b (IntKind.wrap .i64 (d+1)) k)))) (λh w=>
   R (.panicked h) w)))) (R (.returned (.tuple #[])) j))) (λh w=>R (.panicked h) w))):
  Calls ZQ 175 #[.func (.yield a) #[] #[],.pointer (some ⟨c,i,none⟩),.pointer (some ⟨n,E,none⟩)] w R:=
 nN u_ [4,5] mixed Tryz.func175 rfl (Nat.le_of_ble_eq_true kR) kR (Eq.mp kR F)
end Go.Proofs.YtfchlbaidamodaaGreatDoor

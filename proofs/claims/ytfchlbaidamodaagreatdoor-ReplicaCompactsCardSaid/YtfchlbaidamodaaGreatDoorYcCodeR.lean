import Derived.Test.YtfchlbaidamodaaGreatDoorYcCode
import Derived.Test.YtfchlbaidamodaaGreatDoorKc19
set_option linter.all false
set_option maxRecDepth 100000
namespace Go.Proofs.YtfchlbaidamodaaGreatDoor
open Go.ax
variable {w:World} {R:Ending->World->Prop}
def wm:fS:=⟨[(4,[(12,.agg #[QH 0,QH 0,QH 0,.slice none 0 0,QH 0,QH 0,QH 0,QH 0,QH 0,QH 0])])],[],[5],[5],[]⟩
variable{X r:Array Value}{z:FuncId}{C V e m:Int}{E a c i n:Nat}{d:Option Addr}
def wo(a0:PA w (.cells #[.func (.func z) r X] 163) λc=>PA c (.cells #[.slice none 0 0] 50) λC=>(dr d λo2 o4=>(rM C (ad o2 (o4+1)) λc4=>PC_ 148 #[.map c4] C (λo7 a=>∃(E:Value),o7=E/\(Hz ZQ E [.agg #[.ii 0,.ii 0,.ii 0,.slice none 0 0,.ii 0,.ii 0,.ii 0,.ii 0,.ii 0,.ii 0]] a (λo8 F f=>∀(h:Int) (i:Int) (j:Int) (k:Option Addr) (l:Nat) (m:Nat) (n:Int) (o:Int) (p:Int) (q:Int) (s:Int) (t:Int),o8 [.agg #[.ii h,.ii i,.ii j,.slice k l m,.ii n,.ii o,.ii p,.ii q,.ii s,.ii t]]->PA f (.cells #[.ii 0,.ii 0,.ii 0,.slice none 0 0,.ii 0,.ii 0,.ii 0,.ii 0,.ii 0,.ii 0] 59) λo9=>St 59 (ab_ f 0) (.agg #[.ii h,.ii i,.ii j,.slice k l m,.ii n,.ii o,.ii p,.ii q,.ii s,.ii t]) o9 λH=>(aj (oF a) f H/\∀e,qV (a.heap.size+1) H e->(∃(I:Value),e.cell? (ab_ w 0)=some I/\(Ld 59 (ab_ f 0) e λp0=>(∃v J K,(I:Value)= .func (.func v) J K/\enters ZQ v=true/\PC_ v (J++ #[p0]++K) e (kB λp1 x=>al p1 ((∀g,bE x g->∃y:Nat->Prop,(¬y c.heap.size/\(rS g (ab_ c 0) λp2 p3 p4=>(Ld 59 (ab_ f 0) g λp5=>PC_ 142 #[p5] g (λp6 u=>∃L M N O P Q S T U V W D,p6= .agg #[.ii L,.ii M,.ii N,.slice O P Q,.ii S,.ii T,.ii U,.ii V,.ii W,.ii D]/\(aj y g u/\PA u (.cells #[.ii L,.ii M,.ii N,.slice O P Q,.ii S,.ii T,.ii U,.ii V,.ii W,.ii D] 59) λY=>(aj y u Y/\PR_ (ap_ 50 (.slice p2 p3 p4) (.slice (some (ab_ u 0)) 1 1)) Y (kS_ λp7 p8 p9 q0=>PS q0 (ab_ c 0) (.slice p7 p8 p9) λZ=>(aj (oF a) e Z/\F [.agg #[.ii h,.ii i,.ii j,.slice k l m,.ii n,.ii o,.ii p,.ii q,.ii s,.ii t]] .normal Z)) (λpv b=>∀(_:cy) (_:dq),False)))) (λA b=>∀(_:cy) (_:dq),False)))))) ((aj (oF a) e x/\F [.agg #[.ii h,.ii i,.ii j,.slice k l m,.ii n,.ii o,.ii p,.ii q,.ii s,.ii t]] .normal x))) (λA w=>False)))))) (λf8=>(rS f8 (ab_ c 0) λq1 q2 q3=>PC_ 149 #[.slice q1 q2 q3,.func (.func 150) #[] #[]] f8 (k0_ λB=>(rS B (ab_ c 0) λq4 q5 q6=>(ri a.heap.size B/\∀f9,qV a.heap.size B f9->rt R ((.slice q4 q5 q6)) f9))) (λA b=>(ri a.heap.size b/\∀g0,qV a.heap.size b g0->R (.panicked A) g0)))) [])) (pE R)))):Calls ZQ 80 #[.pointer d,.func (.func z) r X] w R:=
 nN wm [] mixed Tryz.func80 rfl (Nat.le_of_ble_eq_true kR) kR (Eq.mp kR a0)
def EG:fS:=⟨[(7,[(20,.ii 0),(21,.agg #[.ii 0,.ii 0,.ii 0,.slice none 0 0,.ii 0,.ii 0,.ii 0,.ii 0,.ii 0,.ii 0,.bool false,.ii 0,.ii 0])])],[],[6],[6],[]⟩
def EH(a0:PA w (.cells #[.ii e] 3) λN=>PA N (.cells #[.ii m] 3) λB=>PA B (.cells #[.ii C] 3) λO=>PA O (.cells #[.ii V] 3) λh=>
   PA h (.cells #[.slice none 0 0] 43) λi=>PA i (.cells #[.bool false] 4) λg=>PA g (.cells #[.slice none 0 0] 43) λP=>(∃(J:Int),P.cell? ⟨B.heap.size,0,none⟩=some (.ii J)/\
   PS P ⟨B.heap.size,0,none⟩ (.ii (if 0>J then 0 else J)) λq7=>PC ZQ 160 #[.slice d a c,.func (.func 161) #[] #[ZX w.heap.size,ZX N.heap.size]] q7 (λq8 f=>
   ∃(Q:Value),q8=Q/\(Hz ZQ Q [.ii 0,.agg #[.ii 0,.ii 0,.ii 0,.slice none 0 0,.ii 0,.ii 0,.ii 0,.ii 0,.ii 0,.ii 0,.bool false,.ii 0,.ii 0]] f (λq9 K E=>
   ∀(j:Int) (k:Int) (l:Int) (n:Int) (G:Option Addr) (o:Nat) (p:Nat) (q:Int) (r:Int) (s:Int) (t:Int) (u:Int) (v:Int) (x:Bool) (y:Int) (z:Int),q9 [.ii j,.agg #[.ii k,.ii l,.ii n,.slice G o p,.ii q,.ii r,.ii s,.ii t,.ii u,.ii v,.bool x,.ii y,.ii z]]->PA E (.cells #[.ii 0,.ii 0,.ii 0,.slice none 0 0,.ii 0,.ii 0,.ii 0,.ii 0,.ii 0,.ii 0,.bool false,.ii 0,.ii 0] 160) λa1=>
   xJ ZQ 160 (ZX E.heap.size) (.agg #[.ii k,.ii l,.ii n,.slice G o p,.ii q,.ii r,.ii s,.ii t,.ii u,.ii v,.bool x,.ii y,.ii z]) a1 λS=>
   (aj (oF f) E S/\∀b,qV (f.heap.size+1) S b->(∃(T:Int),b.cell? ⟨B.heap.size,0,none⟩=some (.ii T)/\al (decide ((j:Int)<T)) ((aj (oF f) b b/\
   K [.ii j,.agg #[.ii k,.ii l,.ii n,.slice G o p,.ii q,.ii r,.ii s,.ii t,.ii u,.ii v,.bool x,.ii y,.ii z]] .normal b)) ((∃(r0:Option Addr) (U:Nat) (r1:Nat),b.cell? ⟨g.heap.size,0,none⟩=some (.slice r0 U r1)/\
   (∃(W:Int),b.cell? ⟨O.heap.size,0,none⟩=some (.ii W)/\al (decide ((((U:Nat):Int):Int)>=W)) ((∃(X:Option Addr) (Y:Nat) (Z:Nat),b.cell? ⟨g.heap.size,0,none⟩=some (.slice X Y Z)/\
   PS b ⟨h.heap.size,0,none⟩ (.slice X Y Z) λr2=>PS r2 ⟨i.heap.size,0,none⟩ (.bool true) λh6=>(aj (oF f) b h6/\K [.ii j,.agg #[.ii k,.ii l,.ii n,.slice G o p,.ii q,.ii r,.ii s,.ii t,.ii u,.ii v,.bool x,.ii y,.ii z]] .ret h6))) ((∀A,bE b A->∃L:Nat->Prop,(¬L g.heap.size/\
   (∃(h7:Option Addr) (h8:Nat) (h9:Nat),A.cell? ⟨g.heap.size,0,none⟩=some (.slice h7 h8 h9)/\(ow ZQ 160 (ZX E.heap.size) A λr3=>
   PC ZQ 162 #[r3] A (λr4 F=>∃(D:Int),∃(i0:Int),∃(i1:Int),∃(i2:Option Addr) (i3:Nat) (i4:Nat),∃(i5:Int),∃(i6:Int),∃(i7:Int),∃(i8:Int),∃(i9:Int),∃(j0:Int),∃(j1:Bool),∃(j2:Int),∃(j3:Int),r4= .agg #[.ii D,.ii i0,.ii i1,.slice i2 i3 i4,.ii i5,.ii i6,.ii i7,.ii i8,.ii i9,.ii j0,.bool j1,.ii j2,.ii j3]/\
   (aj L A F/\PA F (.cells #[.ii D,.ii i0,.ii i1,.slice i2 i3 i4,.ii i5,.ii i6,.ii i7,.ii i8,.ii i9,.ii j0,.bool j1,.ii j2,.ii j3] 160) λj4=>
   (aj L F j4/\aH ZQ (Builtin.append_ #[43,43] 43 #[.slice h7 h8 h9,.slice (ZZ F.heap.size) 1 1]) j4 (λr5 r6=>
   ∃(j5:Option Addr) (j6:Nat) (j7:Nat),r5= .slice j5 j6 j7/\PS r6 ⟨g.heap.size,0,none⟩ (.slice j5 j6 j7) λj8=>(aj (oF f) b j8/\
   K [.ii j,.agg #[.ii k,.ii l,.ii n,.slice G o p,.ii q,.ii r,.ii s,.ii t,.ii u,.ii v,.bool x,.ii y,.ii z]] .normal j8)) (λpv M=>
   ∀(_:cy) (_:dq),False)))) (λch M=>∀(_:cy) (_:dq),False)))))))))))) (λj9=>(∃(k1:Option Addr) (k2:Nat) (k3:Nat),j9.cell? ⟨g.heap.size,0,none⟩=some (.slice k1 k2 k3)/\
   PS j9 ⟨h.heap.size,0,none⟩ (.slice k1 k2 k3) λr7=>PS r7 ⟨i.heap.size,0,none⟩ (.bool false) λk4=>(ri f.heap.size k4/\
   ∀H,qV f.heap.size k4 H->(∃(k5:Option Addr) (k6:Nat) (k7:Nat),H.cell? ⟨h.heap.size,0,none⟩=some (.slice k5 k6 k7)/\
   (∃(k8:Bool),H.cell? ⟨i.heap.size,0,none⟩=some (.bool k8)/\R (.returned (.tuple #[.slice k5 k6 k7,.bool k8])) H))))) [(.ret,λk9=>
   (ri f.heap.size k9/\∀I,qV f.heap.size k9 I->(∃(l0:Option Addr) (l1:Nat) (l2:Nat),I.cell? ⟨h.heap.size,0,none⟩=some (.slice l0 l1 l2)/\
   (∃(l3:Bool),I.cell? ⟨i.heap.size,0,none⟩=some (.bool l3)/\R (.returned (.tuple #[.slice l0 l1 l2,.bool l3])) I))))])) (λch w=>
   R (.panicked ch) w))):
  Calls ZQ 100 #[.slice d a c,.ii e,.ii m,.ii C,.ii V] w R:=
 nN EG [] mixed Tryz.func100 rfl (Nat.le_of_ble_eq_true kR) kR (Eq.mp kR a0)
def dS:fS:=⟨[(1,[])],[],[],[],[]⟩
def dT(E:(∃(g:Option Nat),w.cell? ⟨c,i,none⟩=some (.map g)/\aH ZQ (Instr.range 177 (.map g)) w (λh F=>(∃e:Nat->World->Prop,(∃d,e d F)/\
   ∀(d:Nat) (O:Nat->Value) (j:World),e d j->aH ZQ (Instr.next h false 0) j (λk l=>(k= .tuple #[.bool false]/\
   R (.returned (.tuple #[])) l)\/(∃H I,k= .tuple #[.bool true,H,I]/\aH ZQ (Instr.entry h) l (λJ f=>∃(K:Value),∃(m:Int),∃(n:Int),∃(o:Int),∃(p:Option Addr) (q:Nat) (r:Nat),∃(s:Int),∃(t:Int),∃(u:Int),∃(v:Int),∃(x:Int),∃(y:Int),J= .tuple #[K,.agg #[.ii m,.ii n,.ii o,.slice p q r,.ii s,.ii t,.ii u,.ii v,.ii x,.ii y]]/\
   PA f (.cells #[.ii 0,.ii 0,.ii 0,.slice none 0 0,.ii 0,.ii 0,.ii 0,.ii 0,.ii 0,.ii 0] 59) λL=>
   xJ ZQ 59 (ZX f.heap.size) (.agg #[.ii m,.ii n,.ii o,.slice p q r,.ii s,.ii t,.ii u,.ii v,.ii x,.ii y]) L λz=>
   (ow ZQ 59 (ZX f.heap.size) z λM=>(∃A,(.func (.yield a) #[] #[]:Value)= .func (.yield A) #[] #[]/\
   ks ZQ A [M] z λN B=>al (!N) (R (.returned (.tuple #[])) B) ((∃C,C<d/\e C B))))) (λb w=>R (.panicked [{v:=b,recovered:=false}]) w))) (λb w=>
   R (.panicked [{v:=b,recovered:=false}]) w))) (λb w=>R (.panicked [{v:=b,recovered:=false}]) w))):
  Calls ZQ 205 #[.func (.yield a) #[] #[],.pointer (some ⟨c,i,none⟩)] w R:=
 nN dS [3] mixed Tryz.func205 rfl (Nat.le_of_ble_eq_true kR) kR (Eq.mp kR E)
def wq:fS:=⟨[(2,[(4,.ii 0),(9,.ii 0)])],[],[],[],[]⟩
def wu(y:(∃(o:Option Addr) (j:Nat) (z:Nat),w.cell? ⟨c,i,none⟩=some (.slice o j z)/\(∃g:Nat->Int->Int->World->Prop,(∃e,g e 0 0 w)/\
   ∀(e:Nat) (h:Int) (b:Int) (K:Nat->Value) (d:World),g e h b d->al (decide ((b:Int)<((j:Nat):Int))) ((∃p q,o=some ⟨p,q,none⟩/\
   (0:Int)<=b/\b<((j:Nat):Int)/\(ow ZQ 160 (.pointer (some ⟨p,q+Int.toNat b*13,none⟩)) d λA=>PA d (.cells #[.ii 0,.ii 0,.ii 0,.slice none 0 0,.ii 0,.ii 0,.ii 0,.ii 0,.ii 0,.ii 0,.bool false,.ii 0,.ii 0] 160) λB=>
   xJ ZQ 160 (ZX d.heap.size) A B λk=>(∃(r:Value),k.cell? ⟨n,E,none⟩=some r/\(ow ZQ 160 (ZX d.heap.size) k λC=>
   (∃l s t,(r:Value)= .func (.func l) s t/\enters ZQ l=true/\PC ZQ l (s++ #[C]++t) k (λF m=>
   ∃(u:Bool),F= .bool u/\al (!u) ((∃f,f<e/\g f h (IntKind.wrap .i64 (b+1)) m)) ((ow ZQ 160 (ZX d.heap.size) m λH=>
   (∃v,(.func (.yield a) #[] #[]:Value)= .func (.yield v) #[] #[]/\ks ZQ v [.ii h,H] m λI x=>al (!I) (R (.returned (.tuple #[])) x) ((∃f,f<e/\
   g f (IntKind.wrap .i64 (h+1)) (IntKind.wrap .i64 (b+1)) x)))))) (λJ w=>R (.panicked J) w))))))) (R (.returned (.tuple #[])) d)))):
  Calls ZQ 226 #[.func (.yield a) #[] #[],.pointer (some ⟨c,i,none⟩),.pointer (some ⟨n,E,none⟩)] w R:=
 nN wq [5] mixed Tryz.func226 rfl (Nat.le_of_ble_eq_true kR) kR (Eq.mp kR y)
def AI:fS:=⟨[(3,[(5,.string (⟨#[]⟩:ByteArray))])],[],[],[],[]⟩
def Ag(n:PA w (.cells #[.pointer d] 87) λf=>(∃(g:Option Addr),f.cell? ⟨w.heap.size,0,none⟩=some (.pointer g)/\PC ZQ 124 #[.pointer g] f (λo a=>
   ∃(h:Value),o=h/\(Hz ZQ h [.string (⟨#[]⟩:ByteArray)] a (λp q c=>∀(e:ByteArray),p [.string e]->(aj (oF a) c c/\
   ∀b,qV (a.heap.size+1) c b->(∃(i:Option Addr),b.cell? ⟨w.heap.size,0,none⟩=some (.pointer i)/\PC ZQ 119 #[.pointer i,.string e] b (λr j=>
   ∃(s:Int),r= .ii s/\(aj (oF a) b j/\q [.string e] .normal j)) (λk w=>False)))) (λl=>(ri a.heap.size l/\
   ∀m,qV a.heap.size l m->R (.returned (.tuple #[])) m)) [])) (λk w=>R (.panicked k) w))):
  Calls ZQ 64 #[.pointer d] w R:=
 nN AI [] mixed Tryz.func64 rfl (Nat.le_of_ble_eq_true kR) kR (Eq.mp kR n)
def AJ:fS:=⟨[],[],[],[],[]⟩
def Af(h:PA w (.cells #[.pointer d] 87) λb=>(∃(c:Option Addr),b.cell? ⟨w.heap.size,0,none⟩=some (.pointer c)/\PC ZQ 136 #[.pointer c] b (λi a=>
   ∃(e:Option Addr) (f:Nat) (g:Nat),∃(j:Bool),i= .tuple #[.agg #[.slice e f g],.bool j]/\PA a (.cells #[.slice none 0 0] 230) λk=>
   PS k ⟨a.heap.size,0,none⟩ (.slice e f g) λl=>R (.returned (.func (.func 175) #[] #[ZX w.heap.size,ZX a.heap.size])) l) (λm w=>
   R (.panicked m) w))):
  Calls ZQ 124 #[.pointer d] w R:=DC AJ Tryz.func124 rfl h
def u_:fS:=⟨[(1,[(11,QH 0)])],[],[],[],[]⟩
def ux(F:(∃(m:Option Addr),w.cell? ⟨c,i,none⟩=some (.pointer m)/\PC ZQ 176 #[.pointer m] w (λH I=>∃(o:Option Addr) (l:Nat) (J:Nat),H= .slice o l J/\
   (∃f:Nat->Int->World->Prop,(∃e,f e 0 I)/\∀(e:Nat) (d:Int) (O:Nat->Value) (j:World),f e d j->al (decide ((d:Int)<((l:Nat):Int))) ((∃p q,o=some ⟨p,q,none⟩/\
   (0:Int)<=d/\d<((l:Nat):Int)/\(∃(g:ByteArray),j.cell? ⟨p,q+Int.toNat d,none⟩=some (.string g)/\PC ZQ 177 #[.string g] j (λK k=>
   ∃(r:Int),∃(s:Bool),K= .tuple #[QH r,.bool s]/\al ((ByteArray.toList g)==(ByteArray.toList (⟨#[109,97,110,105,102,101,115,116,46,116,109,112]⟩:ByteArray))) ((∃t,(.func (.yield a) #[] #[]:Value)= .func (.yield t) #[] #[]/\
   ks ZQ t [.string g] k λL u=>al (!L) (R (.returned (.tuple #[])) u) ((∃b,b<e/\f b (IntKind.wrap .i64 (d+1)) u)))) (al s ((∃(v:Option Addr) (x:Nat) (y:Nat),k.cell? ⟨n,E,none⟩=some (.slice v x y)/\
   PC ZQ 178 #[.slice v x y,QH r] k (λM z=>∃(A:Bool),M= .bool A/\al (!A) ((∃B,(.func (.yield a) #[] #[]:Value)= .func (.yield B) #[] #[]/\
   ks ZQ B [.string g] z λN C=>al (!N) (R (.returned (.tuple #[])) C) ((∃b,b<e/\f b (IntKind.wrap .i64 (d+1)) C)))) ((∃b,b<e/\
   f b (IntKind.wrap .i64 (d+1)) z))) (λh w=>R (.panicked h) w))) ((∃b,b<e/\f b (IntKind.wrap .i64 (d+1)) k)))) (λh w=>
   R (.panicked h) w)))) (R (.returned (.tuple #[])) j))) (λh w=>R (.panicked h) w))):
  Calls ZQ 175 #[.func (.yield a) #[] #[],.pointer (some ⟨c,i,none⟩),.pointer (some ⟨n,E,none⟩)] w R:=
 nN u_ [4,5] mixed Tryz.func175 rfl (Nat.le_of_ble_eq_true kR) kR (Eq.mp kR F)
end Go.Proofs.YtfchlbaidamodaaGreatDoor

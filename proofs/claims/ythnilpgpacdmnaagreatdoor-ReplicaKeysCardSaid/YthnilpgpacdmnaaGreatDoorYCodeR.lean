import Derived.Test.YthnilpgpacdmnaaGreatDoorYCode
import Derived.Test.YthnilpgpacdmnaaGreatDoorK18
namespace Go.Proofs.YthnilpgpacdmnaaGreatDoor
open Go.au
variable {w:World} {R:Ending->World->Prop}
set_option maxRecDepth 100000
set_option linter.unusedVariables false
def tP:fq:=⟨[(4,[(12,.agg #[.int .i64 0,.int .i64 0,.int .i64 0,.slice none 0 0,.int .i64 0,.int .i64 0,.int .i64 0,.int .i64 0,.int .i64 0,.int .i64 0])])],[],[5],[5],[]⟩
variable{U r:Array Value}{z:FuncId}{E V e n:Int}{C a c i l:Nat}{d:Option Addr}
theorem tQ (a0:PA w (.cells #[.func (.func z) r U] 154) λc=>PA c (.cells #[.slice none 0 0] 40) λC=>(dr d λo2 o4=>(rM C (ad o2 (o4+1)) λc4=>PC_ 141 #[.map c4] C (λo7 a=>∃(E:Value),o7=E/\(Es Tryz.prog E [.agg #[.ii 0,.ii 0,.ii 0,.slice none 0 0,.ii 0,.ii 0,.ii 0,.ii 0,.ii 0,.ii 0]] a (λo8 F f=>∀(h:Int) (i:Int) (j:Int) (k:Option Addr) (l:Nat) (m:Nat) (n:Int) (o:Int) (p:Int) (q:Int) (s:Int) (t:Int),o8 [.agg #[.ii h,.ii i,.ii j,.slice k l m,.ii n,.ii o,.ii p,.ii q,.ii s,.ii t]]->PA f (.cells #[.ii 0,.ii 0,.ii 0,.slice none 0 0,.ii 0,.ii 0,.ii 0,.ii 0,.ii 0,.ii 0] 60) λo9=>St 60 (ab_ f 0) (.agg #[.ii h,.ii i,.ii j,.slice k l m,.ii n,.ii o,.ii p,.ii q,.ii s,.ii t]) o9 λH=>(ak (mL a) f H/\∀e,oS (a.heap.size+1) H e->(∃(I:Value),e.cell? (ab_ w 0)=some I/\(Ld 60 (ab_ f 0) e λp0=>(∃v J K,(I:Value)= .func (.func v) J K/\enters Tryz.prog v=true/\PC_ v (J++ #[p0]++K) e (kB λp1 x=>al p1 ((∀g,bd x g->∃y:Nat->Prop,(¬y c.heap.size/\(rS g (ab_ c 0) λp2 p3 p4=>(Ld 60 (ab_ f 0) g λp5=>PC_ 116 #[p5] g (λp6 u=>∃L M N O P Q S T V W X D,p6= .agg #[.ii L,.ii M,.ii N,.slice O P Q,.ii S,.ii T,.ii V,.ii W,.ii X,.ii D]/\(ak y g u/\PA u (.cells #[.ii L,.ii M,.ii N,.slice O P Q,.ii S,.ii T,.ii V,.ii W,.ii X,.ii D] 60) λY=>(ak y u Y/\PR_ (ap_ 40 (.slice p2 p3 p4) (.slice (some (ab_ u 0)) 1 1)) Y (kS_ λp7 p8 p9 q0=>PS q0 (ab_ c 0) (.slice p7 p8 p9) λZ=>(ak (mL a) e Z/\F [.agg #[.ii h,.ii i,.ii j,.slice k l m,.ii n,.ii o,.ii p,.ii q,.ii s,.ii t]] .normal Z)) (λpv b=>∀(_:bK) (_:cG),False)))) (λA b=>∀(_:bK) (_:cG),False)))))) ((ak (mL a) e x/\F [.agg #[.ii h,.ii i,.ii j,.slice k l m,.ii n,.ii o,.ii p,.ii q,.ii s,.ii t]] .normal x))) (λA w=>False)))))) (λf8=>(rS f8 (ab_ c 0) λq1 q2 q3=>PC_ 142 #[.slice q1 q2 q3,.func (.func 143) #[] #[]] f8 (k0_ λB=>(rS B (ab_ c 0) λq4 q5 q6=>(oZ a.heap.size B/\∀f9,oS a.heap.size B f9->rt R ((.slice q4 q5 q6)) f9))) (λA b=>(oZ a.heap.size b/\∀g0,oS a.heap.size b g0->R (.panicked A) g0)))) [])) (pE R)))):Calls Tryz.prog 77 #[.pointer d,.func (.func z) r U] w R:=
 lW tP [] mixed Tryz.func77 rfl (Nat.le_of_ble_eq_true kR) kR (Eq.mp kR a0)
def BS:fq:=⟨[(7,[(20,.ii 0),(21,.agg #[.ii 0,.ii 0,.ii 0,.slice none 0 0,.ii 0,.ii 0,.ii 0,.ii 0,.ii 0,.ii 0,.bool false,.ii 0,.ii 0])])],[],[6],[6],[]⟩
theorem BT 
  (a0:PA w (.cells #[.ii e] 3) λN=>PA N (.cells #[.ii n] 3) λB=>PA B (.cells #[.ii E] 3) λO=>PA O (.cells #[.ii V] 3) λh=>
   PA h (.cells #[.slice none 0 0] 52) λi=>PA i (.cells #[.bool false] 4) λg=>PA g (.cells #[.slice none 0 0] 52) λP=>(∃(J:Int),P.cell? ⟨B.heap.size,0,none⟩=some (.ii J)/\
   PS P ⟨B.heap.size,0,none⟩ (.ii (if 0>J then 0 else J)) λq7=>PC Tryz.prog 156 #[.slice d a c,.func (.func 157) #[] #[.pointer (some ⟨w.heap.size,0,none⟩),.pointer (some ⟨N.heap.size,0,none⟩)]] q7 (λq8 f=>
   ∃(Q:Value),q8=Q/\(Es Tryz.prog Q [.ii 0,.agg #[.ii 0,.ii 0,.ii 0,.slice none 0 0,.ii 0,.ii 0,.ii 0,.ii 0,.ii 0,.ii 0,.bool false,.ii 0,.ii 0]] f (λq9 K C=>
   ∀(j:Int) (k:Int) (l:Int) (m:Int) (G:Option Addr) (o:Nat) (p:Nat) (q:Int) (r:Int) (s:Int) (t:Int) (u:Int) (v:Int) (x:Bool) (y:Int) (z:Int),q9 [.ii j,.agg #[.ii k,.ii l,.ii m,.slice G o p,.ii q,.ii r,.ii s,.ii t,.ii u,.ii v,.bool x,.ii y,.ii z]]->PA C (.cells #[.ii 0,.ii 0,.ii 0,.slice none 0 0,.ii 0,.ii 0,.ii 0,.ii 0,.ii 0,.ii 0,.bool false,.ii 0,.ii 0] 160) λa1=>
   xu Tryz.prog 160 (.pointer (some ⟨C.heap.size,0,none⟩)) (.agg #[.ii k,.ii l,.ii m,.slice G o p,.ii q,.ii r,.ii s,.ii t,.ii u,.ii v,.bool x,.ii y,.ii z]) a1 λS=>
   (ak (mL f) C S/\∀b,oS (f.heap.size+1) S b->(∃(T:Int),b.cell? ⟨B.heap.size,0,none⟩=some (.ii T)/\al (decide ((j:Int)<T)) ((ak (mL f) b b/\
   K [.ii j,.agg #[.ii k,.ii l,.ii m,.slice G o p,.ii q,.ii r,.ii s,.ii t,.ii u,.ii v,.bool x,.ii y,.ii z]] .normal b)) ((∃(r0:Option Addr) (U:Nat) (r1:Nat),b.cell? ⟨g.heap.size,0,none⟩=some (.slice r0 U r1)/\
   (∃(W:Int),b.cell? ⟨O.heap.size,0,none⟩=some (.ii W)/\al (decide ((((U:Nat):Int):Int)>=W)) ((∃(X:Option Addr) (Y:Nat) (Z:Nat),b.cell? ⟨g.heap.size,0,none⟩=some (.slice X Y Z)/\
   PS b ⟨h.heap.size,0,none⟩ (.slice X Y Z) λr2=>PS r2 ⟨i.heap.size,0,none⟩ (.bool true) λh6=>(ak (mL f) b h6/\K [.ii j,.agg #[.ii k,.ii l,.ii m,.slice G o p,.ii q,.ii r,.ii s,.ii t,.ii u,.ii v,.bool x,.ii y,.ii z]] .ret h6))) ((∀A,bd b A->∃L:Nat->Prop,(¬L g.heap.size/\
   (∃(h7:Option Addr) (h8:Nat) (h9:Nat),A.cell? ⟨g.heap.size,0,none⟩=some (.slice h7 h8 h9)/\(nR Tryz.prog 160 (.pointer (some ⟨C.heap.size,0,none⟩)) A λr3=>
   PC Tryz.prog 158 #[r3] A (λr4 F=>∃(D:Int),∃(i0:Int),∃(i1:Int),∃(i2:Option Addr) (i3:Nat) (i4:Nat),∃(i5:Int),∃(i6:Int),∃(i7:Int),∃(i8:Int),∃(i9:Int),∃(j0:Int),∃(j1:Bool),∃(j2:Int),∃(j3:Int),r4= .agg #[.ii D,.ii i0,.ii i1,.slice i2 i3 i4,.ii i5,.ii i6,.ii i7,.ii i8,.ii i9,.ii j0,.bool j1,.ii j2,.ii j3]/\
   (ak L A F/\PA F (.cells #[.ii D,.ii i0,.ii i1,.slice i2 i3 i4,.ii i5,.ii i6,.ii i7,.ii i8,.ii i9,.ii j0,.bool j1,.ii j2,.ii j3] 160) λj4=>
   (ak L F j4/\aE Tryz.prog (Builtin.append_ #[52,52] 52 #[.slice h7 h8 h9,.slice (some ⟨F.heap.size,0,none⟩) 1 1]) j4 (λr5 r6=>
   ∃(j5:Option Addr) (j6:Nat) (j7:Nat),r5= .slice j5 j6 j7/\PS r6 ⟨g.heap.size,0,none⟩ (.slice j5 j6 j7) λj8=>(ak (mL f) b j8/\
   K [.ii j,.agg #[.ii k,.ii l,.ii m,.slice G o p,.ii q,.ii r,.ii s,.ii t,.ii u,.ii v,.bool x,.ii y,.ii z]] .normal j8)) (λpv M=>
   ∀(_:bK) (_:cG),False)))) (λch M=>∀(_:bK) (_:cG),False)))))))))))) (λj9=>(∃(k1:Option Addr) (k2:Nat) (k3:Nat),j9.cell? ⟨g.heap.size,0,none⟩=some (.slice k1 k2 k3)/\
   PS j9 ⟨h.heap.size,0,none⟩ (.slice k1 k2 k3) λr7=>PS r7 ⟨i.heap.size,0,none⟩ (.bool false) λk4=>(oZ f.heap.size k4/\
   ∀H,oS f.heap.size k4 H->(∃(k5:Option Addr) (k6:Nat) (k7:Nat),H.cell? ⟨h.heap.size,0,none⟩=some (.slice k5 k6 k7)/\
   (∃(k8:Bool),H.cell? ⟨i.heap.size,0,none⟩=some (.bool k8)/\R (.returned (.tuple #[.slice k5 k6 k7,.bool k8])) H))))) [(.ret,λk9=>
   (oZ f.heap.size k9/\∀I,oS f.heap.size k9 I->(∃(l0:Option Addr) (l1:Nat) (l2:Nat),I.cell? ⟨h.heap.size,0,none⟩=some (.slice l0 l1 l2)/\
   (∃(l3:Bool),I.cell? ⟨i.heap.size,0,none⟩=some (.bool l3)/\R (.returned (.tuple #[.slice l0 l1 l2,.bool l3])) I))))])) (λch w=>
   R (.panicked ch) w))):
  Calls Tryz.prog 97 #[.slice d a c,.ii e,.ii n,.ii E,.ii V] w R:=
 lW BS [] mixed Tryz.func97 rfl (Nat.le_of_ble_eq_true kR) kR (Eq.mp kR a0)
def cX:fq:=⟨[(1,[])],[],[],[],[]⟩
theorem cY 
  (E:(∃(g:Option Nat),w.cell? ⟨c,i,none⟩=some (.map g)/\aE Tryz.prog (Instr.range 155 (.map g)) w (λh F=>(∃e:Nat->World->Prop,(∃d,e d F)/\
   ∀(d:Nat) (O:Nat->Value) (j:World),e d j->aE Tryz.prog (Instr.next h false 0) j (λk l=>(k= .tuple #[.bool false]/\
   R (.returned (.tuple #[])) l)\/(∃H I,k= .tuple #[.bool true,H,I]/\aE Tryz.prog (Instr.entry h) l (λJ f=>∃(K:Value),∃(m:Int),∃(n:Int),∃(o:Int),∃(p:Option Addr) (q:Nat) (r:Nat),∃(s:Int),∃(t:Int),∃(u:Int),∃(v:Int),∃(x:Int),∃(y:Int),J= .tuple #[K,.agg #[.ii m,.ii n,.ii o,.slice p q r,.ii s,.ii t,.ii u,.ii v,.ii x,.ii y]]/\
   PA f (.cells #[.ii 0,.ii 0,.ii 0,.slice none 0 0,.ii 0,.ii 0,.ii 0,.ii 0,.ii 0,.ii 0] 60) λL=>
   xu Tryz.prog 60 (.pointer (some ⟨f.heap.size,0,none⟩)) (.agg #[.ii m,.ii n,.ii o,.slice p q r,.ii s,.ii t,.ii u,.ii v,.ii x,.ii y]) L λz=>
   (nR Tryz.prog 60 (.pointer (some ⟨f.heap.size,0,none⟩)) z λM=>(∃A,(.func (.yield a) #[] #[]:Value)= .func (.yield A) #[] #[]/\
   iX Tryz.prog A [M] z λN B=>al (!N) (R (.returned (.tuple #[])) B) ((∃C,C<d/\e C B))))) (λb w=>R (.panicked [{v:=b,recovered:=false}]) w))) (λb w=>
   R (.panicked [{v:=b,recovered:=false}]) w))) (λb w=>R (.panicked [{v:=b,recovered:=false}]) w))):
  Calls Tryz.prog 200 #[.func (.yield a) #[] #[],.pointer (some ⟨c,i,none⟩)] w R:=
 lW cX [3] mixed Tryz.func200 rfl (Nat.le_of_ble_eq_true kR) kR (Eq.mp kR E)
def tR:fq:=⟨[(2,[(4,.ii 0),(9,.ii 0)])],[],[],[],[]⟩
theorem tS 
  (y:(∃(o:Option Addr) (j:Nat) (z:Nat),w.cell? ⟨c,i,none⟩=some (.slice o j z)/\(∃g:Nat->Int->Int->World->Prop,(∃e,g e 0 0 w)/\
   ∀(e:Nat) (h:Int) (b:Int) (K:Nat->Value) (d:World),g e h b d->al (decide ((b:Int)<((j:Nat):Int))) ((∃p q,o=some ⟨p,q,none⟩/\
   (0:Int)<=b/\b<((j:Nat):Int)/\(nR Tryz.prog 160 (.pointer (some ⟨p,q+Int.toNat b*13,none⟩)) d λA=>PA d (.cells #[.ii 0,.ii 0,.ii 0,.slice none 0 0,.ii 0,.ii 0,.ii 0,.ii 0,.ii 0,.ii 0,.bool false,.ii 0,.ii 0] 160) λB=>
   xu Tryz.prog 160 (.pointer (some ⟨d.heap.size,0,none⟩)) A B λk=>(∃(r:Value),k.cell? ⟨l,C,none⟩=some r/\(nR Tryz.prog 160 (.pointer (some ⟨d.heap.size,0,none⟩)) k λE=>
   (∃m s t,(r:Value)= .func (.func m) s t/\enters Tryz.prog m=true/\PC Tryz.prog m (s++ #[E]++t) k (λF n=>
   ∃(u:Bool),F= .bool u/\al (!u) ((∃f,f<e/\g f h (IntKind.wrap .i64 (b+1)) n)) ((nR Tryz.prog 160 (.pointer (some ⟨d.heap.size,0,none⟩)) n λH=>
   (∃v,(.func (.yield a) #[] #[]:Value)= .func (.yield v) #[] #[]/\iX Tryz.prog v [.ii h,H] n λI x=>al (!I) (R (.returned (.tuple #[])) x) ((∃f,f<e/\
   g f (IntKind.wrap .i64 (h+1)) (IntKind.wrap .i64 (b+1)) x)))))) (λJ w=>R (.panicked J) w))))))) (R (.returned (.tuple #[])) d)))):
  Calls Tryz.prog 223 #[.func (.yield a) #[] #[],.pointer (some ⟨c,i,none⟩),.pointer (some ⟨l,C,none⟩)] w R:=
 lW tR [5] mixed Tryz.func223 rfl (Nat.le_of_ble_eq_true kR) kR (Eq.mp kR y)
def x_:fq:=⟨[(3,[(5,.string (⟨#[]⟩:ByteArray))])],[],[],[],[]⟩
theorem xz 
  (n:PA w (.cells #[.pointer d] 73) λf=>(∃(g:Option Addr),f.cell? ⟨w.heap.size,0,none⟩=some (.pointer g)/\PC Tryz.prog 134 #[.pointer g] f (λo a=>
   ∃(h:Value),o=h/\(Es Tryz.prog h [.string (⟨#[]⟩:ByteArray)] a (λp q c=>∀(e:ByteArray),p [.string e]->(ak (mL a) c c/\
   ∀b,oS (a.heap.size+1) c b->(∃(i:Option Addr),b.cell? ⟨w.heap.size,0,none⟩=some (.pointer i)/\PC Tryz.prog 135 #[.pointer i,.string e] b (λr j=>
   ∃(s:Int),r= .ii s/\(ak (mL a) b j/\q [.string e] .normal j)) (λk w=>False)))) (λl=>(oZ a.heap.size l/\
   ∀m,oS a.heap.size l m->R (.returned (.tuple #[])) m)) [])) (λk w=>R (.panicked k) w))):
  Calls Tryz.prog 74 #[.pointer d] w R:=
 lW x_ [] mixed Tryz.func74 rfl (Nat.le_of_ble_eq_true kR) kR (Eq.mp kR n)
def yb:fq:=⟨[],[],[],[],[]⟩
theorem xy 
  (h:PA w (.cells #[.pointer d] 73) λb=>(∃(c:Option Addr),b.cell? ⟨w.heap.size,0,none⟩=some (.pointer c)/\PC Tryz.prog 110 #[.pointer c] b (λi a=>
   ∃(e:Option Addr) (f:Nat) (g:Nat),∃(j:Bool),i= .tuple #[.agg #[.slice e f g],.bool j]/\PA a (.cells #[.slice none 0 0] 202) λk=>
   PS k ⟨a.heap.size,0,none⟩ (.slice e f g) λl=>R (.returned (.func (.func 194) #[] #[.pointer (some ⟨w.heap.size,0,none⟩),.pointer (some ⟨a.heap.size,0,none⟩)])) l) (λm w=>
   R (.panicked m) w))):
  Calls Tryz.prog 134 #[.pointer d] w R:=DC yb Tryz.func134 rfl h
def sN:fq:=⟨[(1,[(11,.int .i64 0)])],[],[],[],[]⟩
theorem se 
  (F:(∃(n:Option Addr),w.cell? ⟨c,i,none⟩=some (.pointer n)/\PC Tryz.prog 164 #[.pointer n] w (λH I=>∃(o:Option Addr) (m:Nat) (J:Nat),H= .slice o m J/\
   (∃f:Nat->Int->World->Prop,(∃e,f e 0 I)/\∀(e:Nat) (d:Int) (O:Nat->Value) (j:World),f e d j->al (decide ((d:Int)<((m:Nat):Int))) ((∃p q,o=some ⟨p,q,none⟩/\
   (0:Int)<=d/\d<((m:Nat):Int)/\(∃(g:ByteArray),j.cell? ⟨p,q+Int.toNat d,none⟩=some (.string g)/\PC Tryz.prog 165 #[.string g] j (λK k=>
   ∃(r:Int),∃(s:Bool),K= .tuple #[.int .i64 r,.bool s]/\al ((ByteArray.toList g)==(ByteArray.toList (⟨#[109,97,110,105,102,101,115,116,46,116,109,112]⟩:ByteArray))) ((∃t,(.func (.yield a) #[] #[]:Value)= .func (.yield t) #[] #[]/\
   iX Tryz.prog t [.string g] k λL u=>al (!L) (R (.returned (.tuple #[])) u) ((∃b,b<e/\f b (IntKind.wrap .i64 (d+1)) u)))) (al s ((∃(v:Option Addr) (x:Nat) (y:Nat),k.cell? ⟨l,C,none⟩=some (.slice v x y)/\
   PC Tryz.prog 195 #[.slice v x y,.int .i64 r] k (λM z=>∃(A:Bool),M= .bool A/\al (!A) ((∃B,(.func (.yield a) #[] #[]:Value)= .func (.yield B) #[] #[]/\
   iX Tryz.prog B [.string g] z λN E=>al (!N) (R (.returned (.tuple #[])) E) ((∃b,b<e/\f b (IntKind.wrap .i64 (d+1)) E)))) ((∃b,b<e/\
   f b (IntKind.wrap .i64 (d+1)) z))) (λh w=>R (.panicked h) w))) ((∃b,b<e/\f b (IntKind.wrap .i64 (d+1)) k)))) (λh w=>
   R (.panicked h) w)))) (R (.returned (.tuple #[])) j))) (λh w=>R (.panicked h) w))):
  Calls Tryz.prog 194 #[.func (.yield a) #[] #[],.pointer (some ⟨c,i,none⟩),.pointer (some ⟨l,C,none⟩)] w R:=
 lW sN [4,5] mixed Tryz.func194 rfl (Nat.le_of_ble_eq_true kR) kR (Eq.mp kR F)
end Go.Proofs.YthnilpgpacdmnaaGreatDoor

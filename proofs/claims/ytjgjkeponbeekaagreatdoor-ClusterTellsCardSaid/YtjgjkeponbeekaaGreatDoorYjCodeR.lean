import Derived.Test.YtjgjkeponbeekaaGreatDoorKj12
set_option linter.all false
set_option maxRecDepth 100000
namespace Go.Proofs.YtjgjkeponbeekaaGreatDoor
open Go.aw
variable {w:World} {R:am}
def vP:lA:=⟨[(4,[(12,.agg #[WP 0,WP 0,WP 0,.slice none 0 0,WP 0,WP 0,WP 0,WP 0,WP 0,WP 0])])],[],[5],[5],[]⟩
variable{Y m:Array Value}{z:FuncId}{M b4 e r:Int}{E a c i q:Nat}{d:bc}
def vQ(a0:PA w (.cells #[.func (.func z) m Y] 186) λa=>PA a (.cells #[.slice none 0 0] 59) λB=>(dr d λo2 o4=>(rM B (ad o2 (o4+1)) λc4=>PC_ 153 #[.map c4] B (λo7 n=>∃(C:Value),o7=C/\(GU LL C [.agg #[.ii 0,.ii 0,.ii 0,.slice none 0 0,.ii 0,.ii 0,.ii 0,.ii 0,.ii 0,.ii 0]] n (λo8 E c=>∀(f:Int) (g:Int) (h:Int) (i:bc) (j:Nat) (k:Nat) (l:Int) (o:Int) (p:Int) (q:Int) (r:Int) (s:Int),o8 [.agg #[.ii f,.ii g,.ii h,.slice i j k,.ii l,.ii o,.ii p,.ii q,.ii r,.ii s]]->PA c (.cells #[.ii 0,.ii 0,.ii 0,.slice none 0 0,.ii 0,.ii 0,.ii 0,.ii 0,.ii 0,.ii 0] 63) λo9=>St 63 (ab_ c 0) (.agg #[.ii f,.ii g,.ii h,.slice i j k,.ii l,.ii o,.ii p,.ii q,.ii r,.ii s]) o9 λF=>(aj (oV n) c F/\∀b,qU (n.heap.size+1) F b->(∃(H:Value),b.cell? (ab_ w 0)=some H/\(Ld 63 (ab_ c 0) b λp0=>(∃u I J,(H:Value)= .func (.func u) I J/\enters LL u=true/\PC_ u (I++ #[p0]++J) b (kB λp1 v=>al p1 ((∀e,cf v e->∃x:UK,(¬x a.heap.size/\(rS e (ab_ a 0) λp2 p3 p4=>(Ld 63 (ab_ c 0) e λp5=>PC_ 115 #[p5] e (λp6 t=>∃K L M N O Q S T U V W D,p6= .agg #[.ii K,.ii L,.ii M,.slice N O Q,.ii S,.ii T,.ii U,.ii V,.ii W,.ii D]/\(aj x e t/\PA t (.cells #[.ii K,.ii L,.ii M,.slice N O Q,.ii S,.ii T,.ii U,.ii V,.ii W,.ii D] 63) λX=>(aj x t X/\PR_ (ap_ 59 (.slice p2 p3 p4) (.slice (some (ab_ t 0)) 1 1)) X (kS_ λp7 p8 p9 q0=>PS q0 (ab_ a 0) (.slice p7 p8 p9) λZ=>(aj (oV n) b Z/\E [.agg #[.ii f,.ii g,.ii h,.slice i j k,.ii l,.ii o,.ii p,.ii q,.ii r,.ii s]] .normal Z)) (λpv P=>∀(_:ck) (_:cP),False)))) (λy P=>∀(_:ck) (_:cP),False)))))) ((aj (oV n) b v/\E [.agg #[.ii f,.ii g,.ii h,.slice i j k,.ii l,.ii o,.ii p,.ii q,.ii r,.ii s]] .normal v))) (λy w=>False)))))) (λf8=>(rS f8 (ab_ a 0) λq1 q2 q3=>PC_ 154 #[.slice q1 q2 q3,.func (.func 155) #[] #[]] f8 (k0_ λA=>(rS A (ab_ a 0) λq4 q5 q6=>(rm n.heap.size A/\∀f9,qU n.heap.size A f9->rt R ((.slice q4 q5 q6)) f9))) (λy P=>(rm n.heap.size P/\∀g0,qU n.heap.size P g0->R (.panicked y) g0)))) [])) (pE R)))):be 93 #[.pointer d,.func (.func z) m Y] w R:=
 oh vP [] mixed Tryz.func93 rfl (Zv kR) kR (Eq.mp kR a0)
def DT:lA:=⟨[(7,[(20,.ii 0),(21,.agg #[.ii 0,.ii 0,.ii 0,.slice none 0 0,.ii 0,.ii 0,.ii 0,.ii 0,.ii 0,.ii 0,.bool false,.ii 0,.ii 0])])],[],[6],[6],[]⟩
def DU(a0:PA w (.cells #[.ii e] 3) λL=>PA L (.cells #[.ii r] 3) λA=>PA A (.cells #[.ii M] 3) λN=>PA N (.cells #[.ii b4] 3) λf=>
   PA f (.cells #[.slice none 0 0] 50) λg=>PA g (.cells #[.bool false] 4) λb=>PA b (.cells #[.slice none 0 0] 50) λO=>(∃(H:Int),O.cell? ⟨A.heap.size,0,none⟩=some (.ii H)/\
   PS O ⟨A.heap.size,0,none⟩ (.ii (if 0>H then 0 else H)) λq7=>PC LL 147 #[.slice d a c,.func (.func 148) #[] #[RK w.heap.size,RK L.heap.size]] q7 (λq8 P=>
   ∃(Q:Value),q8=Q/\(GU LL Q [.ii 0,.agg #[.ii 0,.ii 0,.ii 0,.slice none 0 0,.ii 0,.ii 0,.ii 0,.ii 0,.ii 0,.ii 0,.bool false,.ii 0,.ii 0]] P (λq9 I B=>
   ∀(h:Int) (i:Int) (j:Int) (k:Int) (G:bc) (l:Nat) (m:Nat) (o:Int) (p:Int) (q:Int) (s:Int) (t:Int) (u:Int) (v:Bool) (x:Int) (y:Int),q9 [.ii h,.agg #[.ii i,.ii j,.ii k,.slice G l m,.ii o,.ii p,.ii q,.ii s,.ii t,.ii u,.bool v,.ii x,.ii y]]->PA B (.cells #[.ii 0,.ii 0,.ii 0,.slice none 0 0,.ii 0,.ii 0,.ii 0,.ii 0,.ii 0,.ii 0,.bool false,.ii 0,.ii 0] 133) λa1=>
   oJ LL 133 (RK B.heap.size) (.agg #[.ii i,.ii j,.ii k,.slice G l m,.ii o,.ii p,.ii q,.ii s,.ii t,.ii u,.bool v,.ii x,.ii y]) a1 λS=>
   (aj (oV P) B S/\∀n,qU (P.heap.size+1) S n->(∃(T:Int),n.cell? ⟨A.heap.size,0,none⟩=some (.ii T)/\al (decide ((h:Int)<T)) ((aj (oV P) n n/\
   I [.ii h,.agg #[.ii i,.ii j,.ii k,.slice G l m,.ii o,.ii p,.ii q,.ii s,.ii t,.ii u,.bool v,.ii x,.ii y]] .normal n)) ((∃(r0:bc) (U:Nat) (r1:Nat),n.cell? ⟨b.heap.size,0,none⟩=some (.slice r0 U r1)/\
   (∃(V:Int),n.cell? ⟨N.heap.size,0,none⟩=some (.ii V)/\al (decide ((((U:Nat):Int):Int)>=V)) ((∃(W:bc) (X:Nat) (Y:Nat),n.cell? ⟨b.heap.size,0,none⟩=some (.slice W X Y)/\
   PS n ⟨f.heap.size,0,none⟩ (.slice W X Y) λr2=>PS r2 ⟨g.heap.size,0,none⟩ (.bool true) λZ=>(aj (oV P) n Z/\I [.ii h,.agg #[.ii i,.ii j,.ii k,.slice G l m,.ii o,.ii p,.ii q,.ii s,.ii t,.ii u,.bool v,.ii x,.ii y]] .ret Z))) ((∀z,cf n z->∃J:UK,(¬J b.heap.size/\
   (∃(h7:bc) (h8:Nat) (h9:Nat),z.cell? ⟨b.heap.size,0,none⟩=some (.slice h7 h8 h9)/\(jW LL 133 (RK B.heap.size) z λr3=>
   PC LL 149 #[r3] z (λr4 C=>∃(D:Int),∃(i0:Int),∃(i1:Int),∃(i2:bc) (i3:Nat) (i4:Nat),∃(i5:Int),∃(i6:Int),∃(i7:Int),∃(i8:Int),∃(i9:Int),∃(j0:Int),∃(j1:Bool),∃(j2:Int),∃(j3:Int),r4= .agg #[.ii D,.ii i0,.ii i1,.slice i2 i3 i4,.ii i5,.ii i6,.ii i7,.ii i8,.ii i9,.ii j0,.bool j1,.ii j2,.ii j3]/\
   (aj J z C/\PA C (.cells #[.ii D,.ii i0,.ii i1,.slice i2 i3 i4,.ii i5,.ii i6,.ii i7,.ii i8,.ii i9,.ii j0,.bool j1,.ii j2,.ii j3] 133) λj4=>
   (aj J C j4/\aK LL (Builtin.append_ #[50,50] 50 #[.slice h7 h8 h9,.slice (UV C.heap.size) 1 1]) j4 (λr5 r6=>
   ∃(j5:bc) (j6:Nat) (j7:Nat),r5= .slice j5 j6 j7/\PS r6 ⟨b.heap.size,0,none⟩ (.slice j5 j6 j7) λj8=>(aj (oV P) n j8/\
   I [.ii h,.agg #[.ii i,.ii j,.ii k,.slice G l m,.ii o,.ii p,.ii q,.ii s,.ii t,.ii u,.bool v,.ii x,.ii y]] .normal j8)) (λpv K=>
   ∀(_:ck) (_:cP),False)))) (λch K=>∀(_:ck) (_:cP),False)))))))))))) (λj9=>(∃(k1:bc) (k2:Nat) (k3:Nat),j9.cell? ⟨b.heap.size,0,none⟩=some (.slice k1 k2 k3)/\
   PS j9 ⟨f.heap.size,0,none⟩ (.slice k1 k2 k3) λr7=>PS r7 ⟨g.heap.size,0,none⟩ (.bool false) λk4=>(rm P.heap.size k4/\
   ∀E,qU P.heap.size k4 E->(∃(k5:bc) (k6:Nat) (k7:Nat),E.cell? ⟨f.heap.size,0,none⟩=some (.slice k5 k6 k7)/\
   (∃(k8:Bool),E.cell? ⟨g.heap.size,0,none⟩=some (.bool k8)/\R (.returned (.tuple #[.slice k5 k6 k7,.bool k8])) E))))) [(.ret,λk9=>
   (rm P.heap.size k9/\∀F,qU P.heap.size k9 F->(∃(l0:bc) (l1:Nat) (l2:Nat),F.cell? ⟨f.heap.size,0,none⟩=some (.slice l0 l1 l2)/\
   (∃(l3:Bool),F.cell? ⟨g.heap.size,0,none⟩=some (.bool l3)/\R (.returned (.tuple #[.slice l0 l1 l2,.bool l3])) F))))])) (λch w=>
   R (.panicked ch) w))):
  be 88 #[.slice d a c,.ii e,.ii r,.ii M,.ii b4] w R:=
 oh DT [] mixed Tryz.func88 rfl (Zv kR) kR (Eq.mp kR a0)
def dG:lA:=⟨[(1,[])],[],[],[],[]⟩
def dH(C:(∃(e:Option Nat),w.cell? ⟨c,i,none⟩=some (.map e)/\aK LL (Instr.range 182 (.map e)) w (λf E=>(∃b:Nat->ba,(∃P,b P E)/\
   ∀(P:Nat) (N:Nat->Value) (g:World),b P g->aK LL (Instr.next f false 0) g (λh j=>(h= .tuple #[.bool false]/\
   R (.returned (.tuple #[])) j)\/(∃F H,h= .tuple #[.bool true,F,H]/\aK LL (Instr.entry f) j (λI d=>∃(J:Value),∃(k:Int),∃(l:Int),∃(m:Int),∃(o:bc) (p:Nat) (q:Nat),∃(r:Int),∃(s:Int),∃(t:Int),∃(u:Int),∃(v:Int),∃(x:Int),I= .tuple #[J,.agg #[.ii k,.ii l,.ii m,.slice o p q,.ii r,.ii s,.ii t,.ii u,.ii v,.ii x]]/\
   PA d (.cells #[.ii 0,.ii 0,.ii 0,.slice none 0 0,.ii 0,.ii 0,.ii 0,.ii 0,.ii 0,.ii 0] 63) λK=>
   oJ LL 63 (RK d.heap.size) (.agg #[.ii k,.ii l,.ii m,.slice o p q,.ii r,.ii s,.ii t,.ii u,.ii v,.ii x]) K λy=>
   (jW LL 63 (RK d.heap.size) y λL=>(∃z,(.func (.yield a) #[] #[]:Value)= .func (.yield z) #[] #[]/\
   kJ LL z [L] y λM A=>al (!M) (R (.returned (.tuple #[])) A) ((∃B,B<P/\b B A))))) (λn w=>R (.panicked [{v:=n,recovered:=false}]) w))) (λn w=>
   R (.panicked [{v:=n,recovered:=false}]) w))) (λn w=>R (.panicked [{v:=n,recovered:=false}]) w))):
  be 216 #[.func (.yield a) #[] #[],.pointer (some ⟨c,i,none⟩)] w R:=
 oh dG [3] mixed Tryz.func216 rfl (Zv kR) kR (Eq.mp kR C)
def vR:lA:=⟨[(2,[(4,.ii 0),(9,.ii 0)])],[],[],[],[]⟩
def vS(x:(∃(l:bc) (g:Nat) (y:Nat),w.cell? ⟨c,i,none⟩=some (.slice l g y)/\(∃e:Nat->Int->Int->ba,(∃b,e b 0 0 w)/\
   ∀(b:Nat) (f:Int) (n:Int) (J:Nat->Value) (P:World),e b f n P->al (decide ((n:Int)<((g:Nat):Int))) ((∃m o,l=some ⟨m,o,none⟩/\
   (0:Int)<=n/\n<((g:Nat):Int)/\(jW LL 133 (.pointer (some ⟨m,o+Int.toNat n*13,none⟩)) P λz=>PA P (.cells #[.ii 0,.ii 0,.ii 0,.slice none 0 0,.ii 0,.ii 0,.ii 0,.ii 0,.ii 0,.ii 0,.bool false,.ii 0,.ii 0] 133) λA=>
   oJ LL 133 (RK P.heap.size) z A λh=>(∃(p:Value),h.cell? ⟨q,E,none⟩=some p/\(jW LL 133 (RK P.heap.size) h λB=>
   (∃j r s,(p:Value)= .func (.func j) r s/\enters LL j=true/\PC LL j (r++ #[B]++s) h (λC k=>
   ∃(t:Bool),C= .bool t/\al (!t) ((∃d,d<b/\e d f (IntKind.wrap .i64 (n+1)) k)) ((jW LL 133 (RK P.heap.size) k λF=>
   (∃u,(.func (.yield a) #[] #[]:Value)= .func (.yield u) #[] #[]/\kJ LL u [.ii f,F] k λH v=>al (!H) (R (.returned (.tuple #[])) v) ((∃d,d<b/\
   e d (IntKind.wrap .i64 (f+1)) (IntKind.wrap .i64 (n+1)) v)))))) (λI w=>R (.panicked I) w))))))) (R (.returned (.tuple #[])) P)))):
  be 214 #[.func (.yield a) #[] #[],.pointer (some ⟨c,i,none⟩),.pointer (some ⟨q,E,none⟩)] w R:=
 oh vR [5] mixed Tryz.func214 rfl (Zv kR) kR (Eq.mp kR x)
def Af:lA:=⟨[(3,[(5,.string (⟨#[]⟩:ByteArray))])],[],[],[],[]⟩
def zI(l:PA w (.cells #[.pointer d] 93) λc=>(∃(e:bc),c.cell? ⟨w.heap.size,0,none⟩=some (.pointer e)/\PC LL 140 #[.pointer e] c (λm n=>
   ∃(f:Value),m=f/\(GU LL f [.string (⟨#[]⟩:ByteArray)] n (λo p a=>∀(b:ByteArray),o [.string b]->(aj (oV n) a a/\
   ∀P,qU (n.heap.size+1) a P->(∃(g:bc),P.cell? ⟨w.heap.size,0,none⟩=some (.pointer g)/\PC LL 141 #[.pointer g,.string b] P (λq h=>
   ∃(r:Int),q= .ii r/\(aj (oV n) P h/\p [.string b] .normal h)) (λi w=>False)))) (λj=>(rm n.heap.size j/\
   ∀k,qU n.heap.size j k->R (.returned (.tuple #[])) k)) [])) (λi w=>R (.panicked i) w))):
  be 86 #[.pointer d] w R:=
 oh Af [] mixed Tryz.func86 rfl (Zv kR) kR (Eq.mp kR l)
def Ag:lA:=⟨[],[],[],[],[]⟩
def zH(f:PA w (.cells #[.pointer d] 93) λP=>(∃(a:bc),P.cell? ⟨w.heap.size,0,none⟩=some (.pointer a)/\PC LL 109 #[.pointer a] P (λg n=>
   ∃(b:bc) (c:Nat) (e:Nat),∃(h:Bool),g= .tuple #[.agg #[.slice b c e],.bool h]/\PA n (.cells #[.slice none 0 0] 211) λi=>
   PS i ⟨n.heap.size,0,none⟩ (.slice b c e) λj=>R (.returned (.func (.func 208) #[] #[RK w.heap.size,RK n.heap.size])) j) (λk w=>
   R (.panicked k) w))):
  be 140 #[.pointer d] w R:=DC Ag Tryz.func140 rfl f
def uL:lA:=⟨[(1,[(11,WP 0)])],[],[],[],[]⟩
def ud(C:(∃(k:bc),w.cell? ⟨c,i,none⟩=some (.pointer k)/\PC LL 160 #[.pointer k] w (λF H=>∃(l:bc) (j:Nat) (I:Nat),F= .slice l j I/\
   (∃d:Nat->Int->ba,(∃b,d b 0 H)/\∀(b:Nat) (P:Int) (N:Nat->Value) (g:World),d b P g->al (decide ((P:Int)<((j:Nat):Int))) ((∃m o,l=some ⟨m,o,none⟩/\
   (0:Int)<=P/\P<((j:Nat):Int)/\(∃(e:ByteArray),g.cell? ⟨m,o+Int.toNat P,none⟩=some (.string e)/\PC LL 161 #[.string e] g (λJ h=>
   ∃(p:Int),∃(r:Bool),J= .tuple #[WP p,.bool r]/\al ((ByteArray.toList e)==(ByteArray.toList (⟨#[109,97,110,105,102,101,115,116,46,116,109,112]⟩:ByteArray))) ((∃s,(.func (.yield a) #[] #[]:Value)= .func (.yield s) #[] #[]/\
   kJ LL s [.string e] h λK t=>al (!K) (R (.returned (.tuple #[])) t) ((∃n,n<b/\d n (IntKind.wrap .i64 (P+1)) t)))) (al r ((∃(u:bc) (v:Nat) (x:Nat),h.cell? ⟨q,E,none⟩=some (.slice u v x)/\
   PC LL 209 #[.slice u v x,WP p] h (λL y=>∃(z:Bool),L= .bool z/\al (!z) ((∃A,(.func (.yield a) #[] #[]:Value)= .func (.yield A) #[] #[]/\
   kJ LL A [.string e] y λM B=>al (!M) (R (.returned (.tuple #[])) B) ((∃n,n<b/\d n (IntKind.wrap .i64 (P+1)) B)))) ((∃n,n<b/\
   d n (IntKind.wrap .i64 (P+1)) y))) (λf w=>R (.panicked f) w))) ((∃n,n<b/\d n (IntKind.wrap .i64 (P+1)) h)))) (λf w=>
   R (.panicked f) w)))) (R (.returned (.tuple #[])) g))) (λf w=>R (.panicked f) w))):
  be 208 #[.func (.yield a) #[] #[],.pointer (some ⟨c,i,none⟩),.pointer (some ⟨q,E,none⟩)] w R:=
 oh uL [4,5] mixed Tryz.func208 rfl (Zv kR) kR (Eq.mp kR C)

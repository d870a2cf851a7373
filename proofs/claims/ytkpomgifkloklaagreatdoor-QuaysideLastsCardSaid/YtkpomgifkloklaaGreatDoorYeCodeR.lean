import Derived.Test.YtkpomgifkloklaaGreatDoorKe12
set_option linter.all false
set_option maxRecDepth 100000
namespace Go.Proofs.YtkpomgifkloklaaGreatDoor
open Go.aw
variable {w:World} {R:ba}
def vW:lq:=⟨[(4,[(12,.agg #[WP 0,WP 0,WP 0,.slice none 0 0,WP 0,WP 0,WP 0,WP 0,WP 0,WP 0])])],[],[5],[5],[]⟩
variable{Y o:Array Value}{A:FuncId}{O b7 e r:Int}{I a c i p:Nat}{d:be}
def vX(a0:PA w (.cells #[.func (.func A) o Y] 170) λa=>PA a (.cells #[.slice none 0 0] 36) λB=>(dr d λo2 o4=>(rM B (ad o2 (o4+1)) λc4=>PC_ 136 #[.map c4] B (λo7 n=>∃(C:Value),o7=C/\(Hb LL C [.agg #[.ii 0,.ii 0,.ii 0,.slice none 0 0,.ii 0,.ii 0,.ii 0,.ii 0,.ii 0,.ii 0]] n (λo8 E c=>∀(f:Int) (g:Int) (h:Int) (i:be) (j:Nat) (k:Nat) (l:Int) (m:Int) (p:Int) (q:Int) (r:Int) (s:Int),o8 [.agg #[.ii f,.ii g,.ii h,.slice i j k,.ii l,.ii m,.ii p,.ii q,.ii r,.ii s]]->PA c (.cells #[.ii 0,.ii 0,.ii 0,.slice none 0 0,.ii 0,.ii 0,.ii 0,.ii 0,.ii 0,.ii 0] 82) λo9=>St 82 (ab_ c 0) (.agg #[.ii f,.ii g,.ii h,.slice i j k,.ii l,.ii m,.ii p,.ii q,.ii r,.ii s]) o9 λF=>(aj (oZ n) c F/\∀b,qY (n.heap.size+1) F b->(∃(H:Value),b.cell? (ab_ w 0)=some H/\(Ld 82 (ab_ c 0) b λp0=>(∃u I J,(H:Value)= .func (.func u) I J/\enters LL u=true/\PC_ u (I++ #[p0]++J) b (kB λp1 v=>al p1 ((∀e,bW v e->∃x:ac,(¬x a.heap.size/\(rS e (ab_ a 0) λp2 p3 p4=>(Ld 82 (ab_ c 0) e λp5=>PC_ 137 #[p5] e (λp6 t=>∃K L M N O Q S T U V W D,p6= .agg #[.ii K,.ii L,.ii M,.slice N O Q,.ii S,.ii T,.ii U,.ii V,.ii W,.ii D]/\(aj x e t/\PA t (.cells #[.ii K,.ii L,.ii M,.slice N O Q,.ii S,.ii T,.ii U,.ii V,.ii W,.ii D] 82) λX=>(aj x t X/\PR_ (ap_ 36 (.slice p2 p3 p4) (.slice (some (ab_ t 0)) 1 1)) X (kS_ λp7 p8 p9 q0=>PS q0 (ab_ a 0) (.slice p7 p8 p9) λZ=>(aj (oZ n) b Z/\E [.agg #[.ii f,.ii g,.ii h,.slice i j k,.ii l,.ii m,.ii p,.ii q,.ii r,.ii s]] .normal Z)) (λpv P=>∀(_:cz) (_:c_),False)))) (λy P=>∀(_:cz) (_:c_),False)))))) ((aj (oZ n) b v/\E [.agg #[.ii f,.ii g,.ii h,.slice i j k,.ii l,.ii m,.ii p,.ii q,.ii r,.ii s]] .normal v))) (λy w=>False)))))) (λf8=>(rS f8 (ab_ a 0) λq1 q2 q3=>PC_ 138 #[.slice q1 q2 q3,.func (.func 139) #[] #[]] f8 (k0_ λz=>(rS z (ab_ a 0) λq4 q5 q6=>(ru n.heap.size z/\∀f9,qY n.heap.size z f9->rt R ((.slice q4 q5 q6)) f9))) (λy P=>(ru n.heap.size P/\∀g0,qY n.heap.size P g0->R (.panicked y) g0)))) [])) (pE R)))):bn 86 #[.pointer d,.func (.func A) o Y] w R:=
 oz vW [] mixed Tryz.func86 rfl (Zv kR) kR (Eq.mp kR a0)
def Ec:lq:=⟨[(7,[(20,.ii 0),(21,.agg #[.ii 0,.ii 0,.ii 0,.slice none 0 0,.ii 0,.ii 0,.ii 0,.ii 0,.ii 0,.ii 0,.bool false,.ii 0,.ii 0])])],[],[6],[6],[]⟩
def Ed(a0:PA w (.cells #[.ii e] 3) λL=>PA L (.cells #[.ii r] 3) λA=>PA A (.cells #[.ii O] 3) λM=>PA M (.cells #[.ii b7] 3) λf=>
   PA f (.cells #[.slice none 0 0] 43) λg=>PA g (.cells #[.bool false] 4) λb=>PA b (.cells #[.slice none 0 0] 43) λN=>(∃(H:Int),N.cell? ⟨A.heap.size,0,none⟩=some (.ii H)/\
   PS N ⟨A.heap.size,0,none⟩ (.ii (if 0>H then 0 else H)) λq7=>PC LL 130 #[.slice d a c,.func (.func 131) #[] #[RK w.heap.size,RK L.heap.size]] q7 (λq8 P=>
   ∃(Q:Value),q8=Q/\(Hb LL Q [.ii 0,.agg #[.ii 0,.ii 0,.ii 0,.slice none 0 0,.ii 0,.ii 0,.ii 0,.ii 0,.ii 0,.ii 0,.bool false,.ii 0,.ii 0]] P (λq9 I B=>
   ∀(h:Int) (i:Int) (j:Int) (k:Int) (G:be) (l:Nat) (m:Nat) (o:Int) (p:Int) (q:Int) (s:Int) (t:Int) (u:Int) (v:Bool) (x:Int) (y:Int),q9 [.ii h,.agg #[.ii i,.ii j,.ii k,.slice G l m,.ii o,.ii p,.ii q,.ii s,.ii t,.ii u,.bool v,.ii x,.ii y]]->PA B (.cells #[.ii 0,.ii 0,.ii 0,.slice none 0 0,.ii 0,.ii 0,.ii 0,.ii 0,.ii 0,.ii 0,.bool false,.ii 0,.ii 0] 193) λa1=>
   oQ LL 193 (RK B.heap.size) (.agg #[.ii i,.ii j,.ii k,.slice G l m,.ii o,.ii p,.ii q,.ii s,.ii t,.ii u,.bool v,.ii x,.ii y]) a1 λS=>
   (aj (oZ P) B S/\∀n,qY (P.heap.size+1) S n->(∃(T:Int),n.cell? ⟨A.heap.size,0,none⟩=some (.ii T)/\al (decide ((h:Int)<T)) ((aj (oZ P) n n/\
   I [.ii h,.agg #[.ii i,.ii j,.ii k,.slice G l m,.ii o,.ii p,.ii q,.ii s,.ii t,.ii u,.bool v,.ii x,.ii y]] .normal n)) ((∃(r0:be) (U:Nat) (r1:Nat),n.cell? ⟨b.heap.size,0,none⟩=some (.slice r0 U r1)/\
   (∃(V:Int),n.cell? ⟨M.heap.size,0,none⟩=some (.ii V)/\al (decide ((((U:Nat):Int):Int)>=V)) ((∃(W:be) (X:Nat) (Y:Nat),n.cell? ⟨b.heap.size,0,none⟩=some (.slice W X Y)/\
   PS n ⟨f.heap.size,0,none⟩ (.slice W X Y) λr2=>PS r2 ⟨g.heap.size,0,none⟩ (.bool true) λZ=>(aj (oZ P) n Z/\I [.ii h,.agg #[.ii i,.ii j,.ii k,.slice G l m,.ii o,.ii p,.ii q,.ii s,.ii t,.ii u,.bool v,.ii x,.ii y]] .ret Z))) ((∀z,bW n z->∃J:ac,(¬J b.heap.size/\
   (∃(h7:be) (h8:Nat) (h9:Nat),z.cell? ⟨b.heap.size,0,none⟩=some (.slice h7 h8 h9)/\(jB LL 193 (RK B.heap.size) z λr3=>
   PC LL 132 #[r3] z (λr4 C=>∃(D:Int),∃(i0:Int),∃(i1:Int),∃(i2:be) (i3:Nat) (i4:Nat),∃(i5:Int),∃(i6:Int),∃(i7:Int),∃(i8:Int),∃(i9:Int),∃(j0:Int),∃(j1:Bool),∃(j2:Int),∃(j3:Int),r4= .agg #[.ii D,.ii i0,.ii i1,.slice i2 i3 i4,.ii i5,.ii i6,.ii i7,.ii i8,.ii i9,.ii j0,.bool j1,.ii j2,.ii j3]/\
   (aj J z C/\PA C (.cells #[.ii D,.ii i0,.ii i1,.slice i2 i3 i4,.ii i5,.ii i6,.ii i7,.ii i8,.ii i9,.ii j0,.bool j1,.ii j2,.ii j3] 193) λj4=>
   (aj J C j4/\aK LL (Builtin.append_ #[43,43] 43 #[.slice h7 h8 h9,.slice (UV C.heap.size) 1 1]) j4 (λr5 r6=>
   ∃(j5:be) (j6:Nat) (j7:Nat),r5= .slice j5 j6 j7/\PS r6 ⟨b.heap.size,0,none⟩ (.slice j5 j6 j7) λj8=>(aj (oZ P) n j8/\
   I [.ii h,.agg #[.ii i,.ii j,.ii k,.slice G l m,.ii o,.ii p,.ii q,.ii s,.ii t,.ii u,.bool v,.ii x,.ii y]] .normal j8)) (λpv K=>
   ∀(_:cz) (_:c_),False)))) (λch K=>∀(_:cz) (_:c_),False)))))))))))) (λj9=>(∃(k1:be) (k2:Nat) (k3:Nat),j9.cell? ⟨b.heap.size,0,none⟩=some (.slice k1 k2 k3)/\
   PS j9 ⟨f.heap.size,0,none⟩ (.slice k1 k2 k3) λr7=>PS r7 ⟨g.heap.size,0,none⟩ (.bool false) λk4=>(ru P.heap.size k4/\
   ∀E,qY P.heap.size k4 E->(∃(k5:be) (k6:Nat) (k7:Nat),E.cell? ⟨f.heap.size,0,none⟩=some (.slice k5 k6 k7)/\
   (∃(k8:Bool),E.cell? ⟨g.heap.size,0,none⟩=some (.bool k8)/\R (.returned (.tuple #[.slice k5 k6 k7,.bool k8])) E))))) [(.ret,λk9=>
   (ru P.heap.size k9/\∀F,qY P.heap.size k9 F->(∃(l0:be) (l1:Nat) (l2:Nat),F.cell? ⟨f.heap.size,0,none⟩=some (.slice l0 l1 l2)/\
   (∃(l3:Bool),F.cell? ⟨g.heap.size,0,none⟩=some (.bool l3)/\R (.returned (.tuple #[.slice l0 l1 l2,.bool l3])) F))))])) (λch w=>
   R (.panicked ch) w))):
  bn 81 #[.slice d a c,.ii e,.ii r,.ii O,.ii b7] w R:=
 oz Ec [] mixed Tryz.func81 rfl (Zv kR) kR (Eq.mp kR a0)
def dJ:lq:=⟨[(1,[])],[],[],[],[]⟩
def dK(C:(∃(e:Option Nat),w.cell? ⟨c,i,none⟩=some (.map e)/\aK LL (Instr.range 166 (.map e)) w (λf E=>(∃b:Nat->bc,(∃P,b P E)/\
   ∀(P:Nat) (N:Nat->Value) (g:World),b P g->aK LL (Instr.next f false 0) g (λh j=>(h= .tuple #[.bool false]/\
   R (.returned (.tuple #[])) j)\/(∃F H,h= .tuple #[.bool true,F,H]/\aK LL (Instr.entry f) j (λI d=>∃(J:Value),∃(k:Int),∃(l:Int),∃(m:Int),∃(o:be) (p:Nat) (q:Nat),∃(r:Int),∃(s:Int),∃(t:Int),∃(u:Int),∃(v:Int),∃(x:Int),I= .tuple #[J,.agg #[.ii k,.ii l,.ii m,.slice o p q,.ii r,.ii s,.ii t,.ii u,.ii v,.ii x]]/\
   PA d (.cells #[.ii 0,.ii 0,.ii 0,.slice none 0 0,.ii 0,.ii 0,.ii 0,.ii 0,.ii 0,.ii 0] 82) λK=>
   oQ LL 82 (RK d.heap.size) (.agg #[.ii k,.ii l,.ii m,.slice o p q,.ii r,.ii s,.ii t,.ii u,.ii v,.ii x]) K λy=>
   (jB LL 82 (RK d.heap.size) y λL=>(∃z,(.func (.yield a) #[] #[]:Value)= .func (.yield z) #[] #[]/\
   kV LL z [L] y λM A=>al (!M) (R (.returned (.tuple #[])) A) ((∃B,B<P/\b B A))))) (λn w=>R (.panicked [{v:=n,recovered:=false}]) w))) (λn w=>
   R (.panicked [{v:=n,recovered:=false}]) w))) (λn w=>R (.panicked [{v:=n,recovered:=false}]) w))):
  bn 191 #[.func (.yield a) #[] #[],.pointer (some ⟨c,i,none⟩)] w R:=
 oz dJ [3] mixed Tryz.func191 rfl (Zv kR) kR (Eq.mp kR C)
def vY:lq:=⟨[(2,[(4,.ii 0),(9,.ii 0)])],[],[],[],[]⟩
def vZ(x:(∃(l:be) (g:Nat) (y:Nat),w.cell? ⟨c,i,none⟩=some (.slice l g y)/\(∃e:Nat->Int->Int->bc,(∃b,e b 0 0 w)/\
   ∀(b:Nat) (f:Int) (n:Int) (J:Nat->Value) (P:World),e b f n P->al (decide ((n:Int)<((g:Nat):Int))) ((∃m o,l=some ⟨m,o,none⟩/\
   (0:Int)<=n/\n<((g:Nat):Int)/\(jB LL 193 (.pointer (some ⟨m,o+Int.toNat n*13,none⟩)) P λz=>PA P (.cells #[.ii 0,.ii 0,.ii 0,.slice none 0 0,.ii 0,.ii 0,.ii 0,.ii 0,.ii 0,.ii 0,.bool false,.ii 0,.ii 0] 193) λA=>
   oQ LL 193 (RK P.heap.size) z A λh=>(∃(q:Value),h.cell? ⟨p,I,none⟩=some q/\(jB LL 193 (RK P.heap.size) h λB=>
   (∃j r s,(q:Value)= .func (.func j) r s/\enters LL j=true/\PC LL j (r++ #[B]++s) h (λC k=>
   ∃(t:Bool),C= .bool t/\al (!t) ((∃d,d<b/\e d f (IntKind.wrap .i64 (n+1)) k)) ((jB LL 193 (RK P.heap.size) k λE=>
   (∃u,(.func (.yield a) #[] #[]:Value)= .func (.yield u) #[] #[]/\kV LL u [.ii f,E] k λF v=>al (!F) (R (.returned (.tuple #[])) v) ((∃d,d<b/\
   e d (IntKind.wrap .i64 (f+1)) (IntKind.wrap .i64 (n+1)) v)))))) (λH w=>R (.panicked H) w))))))) (R (.returned (.tuple #[])) P)))):
  bn 189 #[.func (.yield a) #[] #[],.pointer (some ⟨c,i,none⟩),.pointer (some ⟨p,I,none⟩)] w R:=
 oz vY [5] mixed Tryz.func189 rfl (Zv kR) kR (Eq.mp kR x)
def Al:lq:=⟨[(3,[(5,.string (⟨#[]⟩:ByteArray))])],[],[],[],[]⟩
def zM(l:PA w (.cells #[.pointer d] 110) λc=>(∃(e:be),c.cell? ⟨w.heap.size,0,none⟩=some (.pointer e)/\PC LL 123 #[.pointer e] c (λm n=>
   ∃(f:Value),m=f/\(Hb LL f [.string (⟨#[]⟩:ByteArray)] n (λo p a=>∀(b:ByteArray),o [.string b]->(aj (oZ n) a a/\
   ∀P,qY (n.heap.size+1) a P->(∃(g:be),P.cell? ⟨w.heap.size,0,none⟩=some (.pointer g)/\PC LL 124 #[.pointer g,.string b] P (λq h=>
   ∃(r:Int),q= .ii r/\(aj (oZ n) P h/\p [.string b] .normal h)) (λi w=>False)))) (λj=>(ru n.heap.size j/\
   ∀k,qY n.heap.size j k->R (.returned (.tuple #[])) k)) [])) (λi w=>R (.panicked i) w))):
  bn 79 #[.pointer d] w R:=
 oz Al [] mixed Tryz.func79 rfl (Zv kR) kR (Eq.mp kR l)
def Am:lq:=⟨[],[],[],[],[]⟩
def zK(f:PA w (.cells #[.pointer d] 110) λP=>(∃(a:be),P.cell? ⟨w.heap.size,0,none⟩=some (.pointer a)/\PC LL 151 #[.pointer a] P (λg n=>
   ∃(b:be) (c:Nat) (e:Nat),∃(h:Bool),g= .tuple #[.agg #[.slice b c e],.bool h]/\PA n (.cells #[.slice none 0 0] 258) λi=>
   PS i ⟨n.heap.size,0,none⟩ (.slice b c e) λj=>R (.returned (.func (.func 180) #[] #[RK w.heap.size,RK n.heap.size])) j) (λk w=>
   R (.panicked k) w))):
  bn 123 #[.pointer d] w R:=DC Am Tryz.func123 rfl f
def uR:lq:=⟨[(1,[(11,WP 0)])],[],[],[],[]⟩
def uk(C:(∃(k:be),w.cell? ⟨c,i,none⟩=some (.pointer k)/\PC LL 181 #[.pointer k] w (λE F=>∃(l:be) (j:Nat) (H:Nat),E= .slice l j H/\
   (∃d:Nat->Int->bc,(∃b,d b 0 F)/\∀(b:Nat) (P:Int) (N:Nat->Value) (g:World),d b P g->al (decide ((P:Int)<((j:Nat):Int))) ((∃m o,l=some ⟨m,o,none⟩/\
   (0:Int)<=P/\P<((j:Nat):Int)/\(∃(e:ByteArray),g.cell? ⟨m,o+Int.toNat P,none⟩=some (.string e)/\PC LL 182 #[.string e] g (λJ h=>
   ∃(q:Int),∃(r:Bool),J= .tuple #[WP q,.bool r]/\al ((ByteArray.toList e)==(ByteArray.toList (⟨#[109,97,110,105,102,101,115,116,46,116,109,112]⟩:ByteArray))) ((∃s,(.func (.yield a) #[] #[]:Value)= .func (.yield s) #[] #[]/\
   kV LL s [.string e] h λK t=>al (!K) (R (.returned (.tuple #[])) t) ((∃n,n<b/\d n (IntKind.wrap .i64 (P+1)) t)))) (al r ((∃(u:be) (v:Nat) (x:Nat),h.cell? ⟨p,I,none⟩=some (.slice u v x)/\
   PC LL 183 #[.slice u v x,WP q] h (λL y=>∃(z:Bool),L= .bool z/\al (!z) ((∃A,(.func (.yield a) #[] #[]:Value)= .func (.yield A) #[] #[]/\
   kV LL A [.string e] y λM B=>al (!M) (R (.returned (.tuple #[])) B) ((∃n,n<b/\d n (IntKind.wrap .i64 (P+1)) B)))) ((∃n,n<b/\
   d n (IntKind.wrap .i64 (P+1)) y))) (λf w=>R (.panicked f) w))) ((∃n,n<b/\d n (IntKind.wrap .i64 (P+1)) h)))) (λf w=>
   R (.panicked f) w)))) (R (.returned (.tuple #[])) g))) (λf w=>R (.panicked f) w))):
  bn 180 #[.func (.yield a) #[] #[],.pointer (some ⟨c,i,none⟩),.pointer (some ⟨p,I,none⟩)] w R:=
 oz uR [4,5] mixed Tryz.func180 rfl (Zv kR) kR (Eq.mp kR C)

import Derived.Test.YtjgjkeponbeekaaGreatDoorKc12
set_option linter.all false
set_option maxRecDepth 100000
namespace Go.Proofs.YtjgjkeponbeekaaGreatDoor
open Go.aq
variable {w:World} {R:RK}
def vG:gA:=⟨[(4,[(12,.agg #[ZT 0,ZT 0,ZT 0,.slice none 0 0,ZT 0,ZT 0,ZT 0,ZT 0,ZT 0,ZT 0])])],[],[5],[5],[]⟩
variable{Z o:Array Value}{A:FuncId}{E X e l:Int}{F a c i p:Nat}{d:ac}
def vH(a0:PA w (.cells #[.func (.func A) o Z] 186) λa=>PA a (.cells #[.slice none 0 0] 59) λB=>(dr d λo2 o4=>(rM B (ad o2 (o4+1)) λc4=>PC_ 153 #[.map c4] B (λo7 n=>∃(C:Value),o7=C/\(GJ WP C [.agg #[.ii 0,.ii 0,.ii 0,.slice none 0 0,.ii 0,.ii 0,.ii 0,.ii 0,.ii 0,.ii 0]] n (λo8 E c=>∀(f:Int) (g:Int) (h:Int) (i:ac) (j:Nat) (k:Nat) (l:Int) (m:Int) (p:Int) (q:Int) (r:Int) (s:Int),o8 [.agg #[.ii f,.ii g,.ii h,.slice i j k,.ii l,.ii m,.ii p,.ii q,.ii r,.ii s]]->PA c (.cells #[.ii 0,.ii 0,.ii 0,.slice none 0 0,.ii 0,.ii 0,.ii 0,.ii 0,.ii 0,.ii 0] 63) λo9=>St 63 (ab_ c 0) (.agg #[.ii f,.ii g,.ii h,.slice i j k,.ii l,.ii m,.ii p,.ii q,.ii r,.ii s]) o9 λF=>(aj (oI n) c F/\∀b,qR (n.heap.size+1) F b->(∃(H:Value),b.cell? (ab_ w 0)=some H/\(Ld 63 (ab_ c 0) b λp0=>(∃u I J,(H:Value)= .func (.func u) I J/\enters WP u=true/\PC_ u (I++ #[p0]++J) b (kB λp1 v=>al p1 ((∀e,bC v e->∃x:LL,(¬x a.heap.size/\(rS e (ab_ a 0) λp2 p3 p4=>(Ld 63 (ab_ c 0) e λp5=>PC_ 115 #[p5] e (λp6 t=>∃K L M N O Q S T U V W D,p6= .agg #[.ii K,.ii L,.ii M,.slice N O Q,.ii S,.ii T,.ii U,.ii V,.ii W,.ii D]/\(aj x e t/\PA t (.cells #[.ii K,.ii L,.ii M,.slice N O Q,.ii S,.ii T,.ii U,.ii V,.ii W,.ii D] 63) λX=>(aj x t X/\PR_ (ap_ 59 (.slice p2 p3 p4) (.slice (some (ab_ t 0)) 1 1)) X (kS_ λp7 p8 p9 q0=>PS q0 (ab_ a 0) (.slice p7 p8 p9) λY=>(aj (oI n) b Y/\E [.agg #[.ii f,.ii g,.ii h,.slice i j k,.ii l,.ii m,.ii p,.ii q,.ii r,.ii s]] .normal Y)) (λpv P=>∀(_:cf) (_:cU),False)))) (λy P=>∀(_:cf) (_:cU),False)))))) ((aj (oI n) b v/\E [.agg #[.ii f,.ii g,.ii h,.slice i j k,.ii l,.ii m,.ii p,.ii q,.ii r,.ii s]] .normal v))) (λy w=>False)))))) (λf8=>(rS f8 (ab_ a 0) λq1 q2 q3=>PC_ 154 #[.slice q1 q2 q3,.func (.func 155) #[] #[]] f8 (k0_ λz=>(rS z (ab_ a 0) λq4 q5 q6=>(rf n.heap.size z/\∀f9,qR n.heap.size z f9->rt R ((.slice q4 q5 q6)) f9))) (λy P=>(rf n.heap.size P/\∀g0,qR n.heap.size P g0->R (.panicked y) g0)))) [])) (pE R)))):am 93 #[.pointer d,.func (.func A) o Z] w R:=
 nW vG [] mixed Tryz.func93 rfl (Zv kR) kR (Eq.mp kR a0)
def DN:gA:=⟨[(7,[(20,.ii 0),(21,.agg #[.ii 0,.ii 0,.ii 0,.slice none 0 0,.ii 0,.ii 0,.ii 0,.ii 0,.ii 0,.ii 0,.bool false,.ii 0,.ii 0])])],[],[6],[6],[]⟩
def DO(a0:PA w (.cells #[.ii e] 3) λM=>PA M (.cells #[.ii l] 3) λA=>PA A (.cells #[.ii E] 3) λN=>PA N (.cells #[.ii X] 3) λf=>
   PA f (.cells #[.slice none 0 0] 50) λg=>PA g (.cells #[.bool false] 4) λb=>PA b (.cells #[.slice none 0 0] 50) λO=>(∃(I:Int),O.cell? ⟨A.heap.size,0,none⟩=some (.ii I)/\
   PS O ⟨A.heap.size,0,none⟩ (.ii (if 0>I then 0 else I)) λq7=>PC WP 147 #[.slice d a c,.func (.func 148) #[] #[L2 w.heap.size,L2 M.heap.size]] q7 (λq8 P=>
   ∃(Q:Value),q8=Q/\(GJ WP Q [.ii 0,.agg #[.ii 0,.ii 0,.ii 0,.slice none 0 0,.ii 0,.ii 0,.ii 0,.ii 0,.ii 0,.ii 0,.bool false,.ii 0,.ii 0]] P (λq9 J B=>
   ∀(h:Int) (i:Int) (j:Int) (k:Int) (G:ac) (m:Nat) (o:Nat) (p:Int) (q:Int) (r:Int) (s:Int) (t:Int) (u:Int) (v:Bool) (x:Int) (y:Int),q9 [.ii h,.agg #[.ii i,.ii j,.ii k,.slice G m o,.ii p,.ii q,.ii r,.ii s,.ii t,.ii u,.bool v,.ii x,.ii y]]->PA B (.cells #[.ii 0,.ii 0,.ii 0,.slice none 0 0,.ii 0,.ii 0,.ii 0,.ii 0,.ii 0,.ii 0,.bool false,.ii 0,.ii 0] 133) λa1=>
   ni WP 133 (L2 B.heap.size) (.agg #[.ii i,.ii j,.ii k,.slice G m o,.ii p,.ii q,.ii r,.ii s,.ii t,.ii u,.bool v,.ii x,.ii y]) a1 λS=>
   (aj (oI P) B S/\∀n,qR (P.heap.size+1) S n->(∃(T:Int),n.cell? ⟨A.heap.size,0,none⟩=some (.ii T)/\al (decide ((h:Int)<T)) ((aj (oI P) n n/\
   J [.ii h,.agg #[.ii i,.ii j,.ii k,.slice G m o,.ii p,.ii q,.ii r,.ii s,.ii t,.ii u,.bool v,.ii x,.ii y]] .normal n)) ((∃(r0:ac) (U:Nat) (r1:Nat),n.cell? ⟨b.heap.size,0,none⟩=some (.slice r0 U r1)/\
   (∃(V:Int),n.cell? ⟨N.heap.size,0,none⟩=some (.ii V)/\al (decide ((((U:Nat):Int):Int)>=V)) ((∃(W:ac) (Y:Nat) (Z:Nat),n.cell? ⟨b.heap.size,0,none⟩=some (.slice W Y Z)/\
   PS n ⟨f.heap.size,0,none⟩ (.slice W Y Z) λr2=>PS r2 ⟨g.heap.size,0,none⟩ (.bool true) λh6=>(aj (oI P) n h6/\J [.ii h,.agg #[.ii i,.ii j,.ii k,.slice G m o,.ii p,.ii q,.ii r,.ii s,.ii t,.ii u,.bool v,.ii x,.ii y]] .ret h6))) ((∀z,bC n z->∃K:LL,(¬K b.heap.size/\
   (∃(h7:ac) (h8:Nat) (h9:Nat),z.cell? ⟨b.heap.size,0,none⟩=some (.slice h7 h8 h9)/\(js WP 133 (L2 B.heap.size) z λr3=>
   PC WP 149 #[r3] z (λr4 C=>∃(D:Int),∃(i0:Int),∃(i1:Int),∃(i2:ac) (i3:Nat) (i4:Nat),∃(i5:Int),∃(i6:Int),∃(i7:Int),∃(i8:Int),∃(i9:Int),∃(j0:Int),∃(j1:Bool),∃(j2:Int),∃(j3:Int),r4= .agg #[.ii D,.ii i0,.ii i1,.slice i2 i3 i4,.ii i5,.ii i6,.ii i7,.ii i8,.ii i9,.ii j0,.bool j1,.ii j2,.ii j3]/\
   (aj K z C/\PA C (.cells #[.ii D,.ii i0,.ii i1,.slice i2 i3 i4,.ii i5,.ii i6,.ii i7,.ii i8,.ii i9,.ii j0,.bool j1,.ii j2,.ii j3] 133) λj4=>
   (aj K C j4/\aJ WP (Builtin.append_ #[50,50] 50 #[.slice h7 h8 h9,.slice (PP C.heap.size) 1 1]) j4 (λr5 r6=>
   ∃(j5:ac) (j6:Nat) (j7:Nat),r5= .slice j5 j6 j7/\PS r6 ⟨b.heap.size,0,none⟩ (.slice j5 j6 j7) λj8=>(aj (oI P) n j8/\
   J [.ii h,.agg #[.ii i,.ii j,.ii k,.slice G m o,.ii p,.ii q,.ii r,.ii s,.ii t,.ii u,.bool v,.ii x,.ii y]] .normal j8)) (λpv L=>
   ∀(_:cf) (_:cU),False)))) (λch L=>∀(_:cf) (_:cU),False)))))))))))) (λj9=>(∃(k1:ac) (k2:Nat) (k3:Nat),j9.cell? ⟨b.heap.size,0,none⟩=some (.slice k1 k2 k3)/\
   PS j9 ⟨f.heap.size,0,none⟩ (.slice k1 k2 k3) λr7=>PS r7 ⟨g.heap.size,0,none⟩ (.bool false) λk4=>(rf P.heap.size k4/\
   ∀F,qR P.heap.size k4 F->(∃(k5:ac) (k6:Nat) (k7:Nat),F.cell? ⟨f.heap.size,0,none⟩=some (.slice k5 k6 k7)/\
   (∃(k8:Bool),F.cell? ⟨g.heap.size,0,none⟩=some (.bool k8)/\R (.returned (.tuple #[.slice k5 k6 k7,.bool k8])) F))))) [(.ret,λk9=>
   (rf P.heap.size k9/\∀H,qR P.heap.size k9 H->(∃(l0:ac) (l1:Nat) (l2:Nat),H.cell? ⟨f.heap.size,0,none⟩=some (.slice l0 l1 l2)/\
   (∃(l3:Bool),H.cell? ⟨g.heap.size,0,none⟩=some (.bool l3)/\R (.returned (.tuple #[.slice l0 l1 l2,.bool l3])) H))))])) (λch w=>
   R (.panicked ch) w))):
  am 88 #[.slice d a c,.ii e,.ii l,.ii E,.ii X] w R:=
 nW DN [] mixed Tryz.func88 rfl (Zv kR) kR (Eq.mp kR a0)
def dB:gA:=⟨[(1,[])],[],[],[],[]⟩
def dE(C:(∃(e:Option Nat),w.cell? ⟨c,i,none⟩=some (.map e)/\aJ WP (Instr.range 182 (.map e)) w (λf E=>(∃b:Nat->UV,(∃P,b P E)/\
   ∀(P:Nat) (N:Nat->Value) (g:World),b P g->aJ WP (Instr.next f false 0) g (λh j=>(h= .tuple #[.bool false]/\
   R (.returned (.tuple #[])) j)\/(∃F H,h= .tuple #[.bool true,F,H]/\aJ WP (Instr.entry f) j (λI d=>∃(J:Value),∃(k:Int),∃(l:Int),∃(m:Int),∃(o:ac) (p:Nat) (q:Nat),∃(r:Int),∃(s:Int),∃(t:Int),∃(u:Int),∃(v:Int),∃(x:Int),I= .tuple #[J,.agg #[.ii k,.ii l,.ii m,.slice o p q,.ii r,.ii s,.ii t,.ii u,.ii v,.ii x]]/\
   PA d (.cells #[.ii 0,.ii 0,.ii 0,.slice none 0 0,.ii 0,.ii 0,.ii 0,.ii 0,.ii 0,.ii 0] 63) λK=>
   ni WP 63 (L2 d.heap.size) (.agg #[.ii k,.ii l,.ii m,.slice o p q,.ii r,.ii s,.ii t,.ii u,.ii v,.ii x]) K λy=>
   (js WP 63 (L2 d.heap.size) y λL=>(∃z,(.func (.yield a) #[] #[]:Value)= .func (.yield z) #[] #[]/\
   ku WP z [L] y λM A=>al (!M) (R (.returned (.tuple #[])) A) ((∃B,B<P/\b B A))))) (λn w=>R (.panicked [{v:=n,recovered:=false}]) w))) (λn w=>
   R (.panicked [{v:=n,recovered:=false}]) w))) (λn w=>R (.panicked [{v:=n,recovered:=false}]) w))):
  am 216 #[.func (.yield a) #[] #[],.pointer (some ⟨c,i,none⟩)] w R:=
 nW dB [3] mixed Tryz.func216 rfl (Zv kR) kR (Eq.mp kR C)
def vI:gA:=⟨[(2,[(4,.ii 0),(9,.ii 0)])],[],[],[],[]⟩
def vJ(x:(∃(l:ac) (g:Nat) (y:Nat),w.cell? ⟨c,i,none⟩=some (.slice l g y)/\(∃e:Nat->Int->Int->UV,(∃b,e b 0 0 w)/\
   ∀(b:Nat) (f:Int) (n:Int) (J:Nat->Value) (P:World),e b f n P->al (decide ((n:Int)<((g:Nat):Int))) ((∃m o,l=some ⟨m,o,none⟩/\
   (0:Int)<=n/\n<((g:Nat):Int)/\(js WP 133 (.pointer (some ⟨m,o+Int.toNat n*13,none⟩)) P λz=>PA P (.cells #[.ii 0,.ii 0,.ii 0,.slice none 0 0,.ii 0,.ii 0,.ii 0,.ii 0,.ii 0,.ii 0,.bool false,.ii 0,.ii 0] 133) λA=>
   ni WP 133 (L2 P.heap.size) z A λh=>(∃(q:Value),h.cell? ⟨p,F,none⟩=some q/\(js WP 133 (L2 P.heap.size) h λB=>
   (∃j r s,(q:Value)= .func (.func j) r s/\enters WP j=true/\PC WP j (r++ #[B]++s) h (λC k=>
   ∃(t:Bool),C= .bool t/\al (!t) ((∃d,d<b/\e d f (IntKind.wrap .i64 (n+1)) k)) ((js WP 133 (L2 P.heap.size) k λE=>
   (∃u,(.func (.yield a) #[] #[]:Value)= .func (.yield u) #[] #[]/\ku WP u [.ii f,E] k λH v=>al (!H) (R (.returned (.tuple #[])) v) ((∃d,d<b/\
   e d (IntKind.wrap .i64 (f+1)) (IntKind.wrap .i64 (n+1)) v)))))) (λI w=>R (.panicked I) w))))))) (R (.returned (.tuple #[])) P)))):
  am 214 #[.func (.yield a) #[] #[],.pointer (some ⟨c,i,none⟩),.pointer (some ⟨p,F,none⟩)] w R:=
 nW vI [5] mixed Tryz.func214 rfl (Zv kR) kR (Eq.mp kR x)
def zZ:gA:=⟨[(3,[(5,.string (⟨#[]⟩:ByteArray))])],[],[],[],[]⟩
def zy(l:PA w (.cells #[.pointer d] 93) λc=>(∃(e:ac),c.cell? ⟨w.heap.size,0,none⟩=some (.pointer e)/\PC WP 140 #[.pointer e] c (λm n=>
   ∃(f:Value),m=f/\(GJ WP f [.string (⟨#[]⟩:ByteArray)] n (λo p a=>∀(b:ByteArray),o [.string b]->(aj (oI n) a a/\
   ∀P,qR (n.heap.size+1) a P->(∃(g:ac),P.cell? ⟨w.heap.size,0,none⟩=some (.pointer g)/\PC WP 141 #[.pointer g,.string b] P (λq h=>
   ∃(r:Int),q= .ii r/\(aj (oI n) P h/\p [.string b] .normal h)) (λi w=>False)))) (λj=>(rf n.heap.size j/\
   ∀k,qR n.heap.size j k->R (.returned (.tuple #[])) k)) [])) (λi w=>R (.panicked i) w))):
  am 86 #[.pointer d] w R:=
 nW zZ [] mixed Tryz.func86 rfl (Zv kR) kR (Eq.mp kR l)
def z_:gA:=⟨[],[],[],[],[]⟩
def zv(f:PA w (.cells #[.pointer d] 93) λP=>(∃(a:ac),P.cell? ⟨w.heap.size,0,none⟩=some (.pointer a)/\PC WP 109 #[.pointer a] P (λg n=>
   ∃(b:ac) (c:Nat) (e:Nat),∃(h:Bool),g= .tuple #[.agg #[.slice b c e],.bool h]/\PA n (.cells #[.slice none 0 0] 211) λi=>
   PS i ⟨n.heap.size,0,none⟩ (.slice b c e) λj=>R (.returned (.func (.func 208) #[] #[L2 w.heap.size,L2 n.heap.size])) j) (λk w=>
   R (.panicked k) w))):
  am 140 #[.pointer d] w R:=DC z_ Tryz.func140 rfl f
def uG:gA:=⟨[(1,[(11,ZT 0)])],[],[],[],[]⟩
def tX(C:(∃(k:ac),w.cell? ⟨c,i,none⟩=some (.pointer k)/\PC WP 160 #[.pointer k] w (λE H=>∃(l:ac) (j:Nat) (I:Nat),E= .slice l j I/\
   (∃d:Nat->Int->UV,(∃b,d b 0 H)/\∀(b:Nat) (P:Int) (N:Nat->Value) (g:World),d b P g->al (decide ((P:Int)<((j:Nat):Int))) ((∃m o,l=some ⟨m,o,none⟩/\
   (0:Int)<=P/\P<((j:Nat):Int)/\(∃(e:ByteArray),g.cell? ⟨m,o+Int.toNat P,none⟩=some (.string e)/\PC WP 161 #[.string e] g (λJ h=>
   ∃(q:Int),∃(r:Bool),J= .tuple #[ZT q,.bool r]/\al ((ByteArray.toList e)==(ByteArray.toList (⟨#[109,97,110,105,102,101,115,116,46,116,109,112]⟩:ByteArray))) ((∃s,(.func (.yield a) #[] #[]:Value)= .func (.yield s) #[] #[]/\
   ku WP s [.string e] h λK t=>al (!K) (R (.returned (.tuple #[])) t) ((∃n,n<b/\d n (IntKind.wrap .i64 (P+1)) t)))) (al r ((∃(u:ac) (v:Nat) (x:Nat),h.cell? ⟨p,F,none⟩=some (.slice u v x)/\
   PC WP 209 #[.slice u v x,ZT q] h (λL y=>∃(z:Bool),L= .bool z/\al (!z) ((∃A,(.func (.yield a) #[] #[]:Value)= .func (.yield A) #[] #[]/\
   ku WP A [.string e] y λM B=>al (!M) (R (.returned (.tuple #[])) B) ((∃n,n<b/\d n (IntKind.wrap .i64 (P+1)) B)))) ((∃n,n<b/\
   d n (IntKind.wrap .i64 (P+1)) y))) (λf w=>R (.panicked f) w))) ((∃n,n<b/\d n (IntKind.wrap .i64 (P+1)) h)))) (λf w=>
   R (.panicked f) w)))) (R (.returned (.tuple #[])) g))) (λf w=>R (.panicked f) w))):
  am 208 #[.func (.yield a) #[] #[],.pointer (some ⟨c,i,none⟩),.pointer (some ⟨p,F,none⟩)] w R:=
 nW uG [4,5] mixed Tryz.func208 rfl (Zv kR) kR (Eq.mp kR C)

import Derived.Test.YtjgjkeponbeekaaGreatDoorKb12
set_option linter.all false
set_option maxRecDepth 100000
namespace Go.Proofs.YtjgjkeponbeekaaGreatDoor
open Go.ar
variable {w:World} {R:UV}
def vR:gE:=⟨[(4,[(12,.agg #[WP 0,WP 0,WP 0,.slice none 0 0,WP 0,WP 0,WP 0,WP 0,WP 0,WP 0])])],[],[5],[5],[]⟩
variable{Z p:Array Value}{A:FuncId}{B T e l:Int}{E a c i o:Nat}{d:am}
def vS(a0:PA w (.cells #[.func (.func A) p Z] 186) λa=>PA a (.cells #[.slice none 0 0] 59) λB=>(dr d λo2 o4=>(rM B (ad o2 (o4+1)) λc4=>PC_ 153 #[.map c4] B (λo7 n=>∃(C:Value),o7=C/\(He PP C [.agg #[.ii 0,.ii 0,.ii 0,.slice none 0 0,.ii 0,.ii 0,.ii 0,.ii 0,.ii 0,.ii 0]] n (λo8 E c=>∀(f:Int) (g:Int) (h:Int) (i:am) (j:Nat) (k:Nat) (l:Int) (m:Int) (o:Int) (q:Int) (r:Int) (s:Int),o8 [.agg #[.ii f,.ii g,.ii h,.slice i j k,.ii l,.ii m,.ii o,.ii q,.ii r,.ii s]]->PA c (.cells #[.ii 0,.ii 0,.ii 0,.slice none 0 0,.ii 0,.ii 0,.ii 0,.ii 0,.ii 0,.ii 0] 63) λo9=>St 63 (ab_ c 0) (.agg #[.ii f,.ii g,.ii h,.slice i j k,.ii l,.ii m,.ii o,.ii q,.ii r,.ii s]) o9 λF=>(aj (oN n) c F/\∀b,qV (n.heap.size+1) F b->(∃(H:Value),b.cell? (ab_ w 0)=some H/\(Ld 63 (ab_ c 0) b λp0=>(∃u I J,(H:Value)= .func (.func u) I J/\enters PP u=true/\PC_ u (I++ #[p0]++J) b (kB λp1 v=>al p1 ((∀e,bw v e->∃x:RK,(¬x a.heap.size/\(rS e (ab_ a 0) λp2 p3 p4=>(Ld 63 (ab_ c 0) e λp5=>PC_ 115 #[p5] e (λp6 t=>∃K L M N O Q S T U V W D,p6= .agg #[.ii K,.ii L,.ii M,.slice N O Q,.ii S,.ii T,.ii U,.ii V,.ii W,.ii D]/\(aj x e t/\PA t (.cells #[.ii K,.ii L,.ii M,.slice N O Q,.ii S,.ii T,.ii U,.ii V,.ii W,.ii D] 63) λX=>(aj x t X/\PR_ (ap_ 59 (.slice p2 p3 p4) (.slice (some (ab_ t 0)) 1 1)) X (kS_ λp7 p8 p9 q0=>PS q0 (ab_ a 0) (.slice p7 p8 p9) λY=>(aj (oN n) b Y/\E [.agg #[.ii f,.ii g,.ii h,.slice i j k,.ii l,.ii m,.ii o,.ii q,.ii r,.ii s]] .normal Y)) (λpv P=>∀(_:cm) (_:cW),False)))) (λy P=>∀(_:cm) (_:cW),False)))))) ((aj (oN n) b v/\E [.agg #[.ii f,.ii g,.ii h,.slice i j k,.ii l,.ii m,.ii o,.ii q,.ii r,.ii s]] .normal v))) (λy w=>False)))))) (λf8=>(rS f8 (ab_ a 0) λq1 q2 q3=>PC_ 154 #[.slice q1 q2 q3,.func (.func 155) #[] #[]] f8 (k0_ λz=>(rS z (ab_ a 0) λq4 q5 q6=>(rl n.heap.size z/\∀f9,qV n.heap.size z f9->rt R ((.slice q4 q5 q6)) f9))) (λy P=>(rl n.heap.size P/\∀g0,qV n.heap.size P g0->R (.panicked y) g0)))) [])) (pE R)))):ba 93 #[.pointer d,.func (.func A) p Z] w R:=
 n_ vR [] mixed Tryz.func93 rfl (Zv kR) kR (Eq.mp kR a0)
def Eb:gE:=⟨[(7,[(20,.ii 0),(21,.agg #[.ii 0,.ii 0,.ii 0,.slice none 0 0,.ii 0,.ii 0,.ii 0,.ii 0,.ii 0,.ii 0,.bool false,.ii 0,.ii 0])])],[],[6],[6],[]⟩
def Ec(a0:PA w (.cells #[.ii e] 3) λM=>PA M (.cells #[.ii l] 3) λA=>PA A (.cells #[.ii B] 3) λN=>PA N (.cells #[.ii T] 3) λf=>
   PA f (.cells #[.slice none 0 0] 50) λg=>PA g (.cells #[.bool false] 4) λb=>PA b (.cells #[.slice none 0 0] 50) λO=>(∃(I:Int),O.cell? ⟨A.heap.size,0,none⟩=some (.ii I)/\
   PS O ⟨A.heap.size,0,none⟩ (.ii (if 0>I then 0 else I)) λq7=>PC PP 147 #[.slice d a c,.func (.func 148) #[] #[LL w.heap.size,LL M.heap.size]] q7 (λq8 P=>
   ∃(Q:Value),q8=Q/\(He PP Q [.ii 0,.agg #[.ii 0,.ii 0,.ii 0,.slice none 0 0,.ii 0,.ii 0,.ii 0,.ii 0,.ii 0,.ii 0,.bool false,.ii 0,.ii 0]] P (λq9 J C=>
   ∀(h:Int) (i:Int) (j:Int) (k:Int) (G:am) (m:Nat) (o:Nat) (p:Int) (q:Int) (r:Int) (s:Int) (t:Int) (u:Int) (v:Bool) (x:Int) (y:Int),q9 [.ii h,.agg #[.ii i,.ii j,.ii k,.slice G m o,.ii p,.ii q,.ii r,.ii s,.ii t,.ii u,.bool v,.ii x,.ii y]]->PA C (.cells #[.ii 0,.ii 0,.ii 0,.slice none 0 0,.ii 0,.ii 0,.ii 0,.ii 0,.ii 0,.ii 0,.bool false,.ii 0,.ii 0] 133) λa1=>
   nw PP 133 (LL C.heap.size) (.agg #[.ii i,.ii j,.ii k,.slice G m o,.ii p,.ii q,.ii r,.ii s,.ii t,.ii u,.bool v,.ii x,.ii y]) a1 λS=>
   (aj (oN P) C S/\∀n,qV (P.heap.size+1) S n->(∃(U:Int),n.cell? ⟨A.heap.size,0,none⟩=some (.ii U)/\al (decide ((h:Int)<U)) ((aj (oN P) n n/\
   J [.ii h,.agg #[.ii i,.ii j,.ii k,.slice G m o,.ii p,.ii q,.ii r,.ii s,.ii t,.ii u,.bool v,.ii x,.ii y]] .normal n)) ((∃(r0:am) (V:Nat) (r1:Nat),n.cell? ⟨b.heap.size,0,none⟩=some (.slice r0 V r1)/\
   (∃(W:Int),n.cell? ⟨N.heap.size,0,none⟩=some (.ii W)/\al (decide ((((V:Nat):Int):Int)>=W)) ((∃(X:am) (Y:Nat) (Z:Nat),n.cell? ⟨b.heap.size,0,none⟩=some (.slice X Y Z)/\
   PS n ⟨f.heap.size,0,none⟩ (.slice X Y Z) λr2=>PS r2 ⟨g.heap.size,0,none⟩ (.bool true) λh6=>(aj (oN P) n h6/\J [.ii h,.agg #[.ii i,.ii j,.ii k,.slice G m o,.ii p,.ii q,.ii r,.ii s,.ii t,.ii u,.bool v,.ii x,.ii y]] .ret h6))) ((∀z,bw n z->∃K:RK,(¬K b.heap.size/\
   (∃(h7:am) (h8:Nat) (h9:Nat),z.cell? ⟨b.heap.size,0,none⟩=some (.slice h7 h8 h9)/\(jq PP 133 (LL C.heap.size) z λr3=>
   PC PP 149 #[r3] z (λr4 E=>∃(D:Int),∃(i0:Int),∃(i1:Int),∃(i2:am) (i3:Nat) (i4:Nat),∃(i5:Int),∃(i6:Int),∃(i7:Int),∃(i8:Int),∃(i9:Int),∃(j0:Int),∃(j1:Bool),∃(j2:Int),∃(j3:Int),r4= .agg #[.ii D,.ii i0,.ii i1,.slice i2 i3 i4,.ii i5,.ii i6,.ii i7,.ii i8,.ii i9,.ii j0,.bool j1,.ii j2,.ii j3]/\
   (aj K z E/\PA E (.cells #[.ii D,.ii i0,.ii i1,.slice i2 i3 i4,.ii i5,.ii i6,.ii i7,.ii i8,.ii i9,.ii j0,.bool j1,.ii j2,.ii j3] 133) λj4=>
   (aj K E j4/\aK PP (Builtin.append_ #[50,50] 50 #[.slice h7 h8 h9,.slice (L1 E.heap.size) 1 1]) j4 (λr5 r6=>
   ∃(j5:am) (j6:Nat) (j7:Nat),r5= .slice j5 j6 j7/\PS r6 ⟨b.heap.size,0,none⟩ (.slice j5 j6 j7) λj8=>(aj (oN P) n j8/\
   J [.ii h,.agg #[.ii i,.ii j,.ii k,.slice G m o,.ii p,.ii q,.ii r,.ii s,.ii t,.ii u,.bool v,.ii x,.ii y]] .normal j8)) (λpv L=>
   ∀(_:cm) (_:cW),False)))) (λch L=>∀(_:cm) (_:cW),False)))))))))))) (λj9=>(∃(k1:am) (k2:Nat) (k3:Nat),j9.cell? ⟨b.heap.size,0,none⟩=some (.slice k1 k2 k3)/\
   PS j9 ⟨f.heap.size,0,none⟩ (.slice k1 k2 k3) λr7=>PS r7 ⟨g.heap.size,0,none⟩ (.bool false) λk4=>(rl P.heap.size k4/\
   ∀F,qV P.heap.size k4 F->(∃(k5:am) (k6:Nat) (k7:Nat),F.cell? ⟨f.heap.size,0,none⟩=some (.slice k5 k6 k7)/\
   (∃(k8:Bool),F.cell? ⟨g.heap.size,0,none⟩=some (.bool k8)/\R (.returned (.tuple #[.slice k5 k6 k7,.bool k8])) F))))) [(.ret,λk9=>
   (rl P.heap.size k9/\∀H,qV P.heap.size k9 H->(∃(l0:am) (l1:Nat) (l2:Nat),H.cell? ⟨f.heap.size,0,none⟩=some (.slice l0 l1 l2)/\
   (∃(l3:Bool),H.cell? ⟨g.heap.size,0,none⟩=some (.bool l3)/\R (.returned (.tuple #[.slice l0 l1 l2,.bool l3])) H))))])) (λch w=>
   R (.panicked ch) w))):
  ba 88 #[.slice d a c,.ii e,.ii l,.ii B,.ii T] w R:=
 n_ Eb [] mixed Tryz.func88 rfl (Zv kR) kR (Eq.mp kR a0)
def dG:gE:=⟨[(1,[])],[],[],[],[]⟩
def dH(C:(∃(e:Option Nat),w.cell? ⟨c,i,none⟩=some (.map e)/\aK PP (Instr.range 182 (.map e)) w (λf E=>(∃b:Nat->ac,(∃P,b P E)/\
   ∀(P:Nat) (N:Nat->Value) (g:World),b P g->aK PP (Instr.next f false 0) g (λh j=>(h= .tuple #[.bool false]/\
   R (.returned (.tuple #[])) j)\/(∃F H,h= .tuple #[.bool true,F,H]/\aK PP (Instr.entry f) j (λI d=>∃(J:Value),∃(k:Int),∃(l:Int),∃(m:Int),∃(o:am) (p:Nat) (q:Nat),∃(r:Int),∃(s:Int),∃(t:Int),∃(u:Int),∃(v:Int),∃(x:Int),I= .tuple #[J,.agg #[.ii k,.ii l,.ii m,.slice o p q,.ii r,.ii s,.ii t,.ii u,.ii v,.ii x]]/\
   PA d (.cells #[.ii 0,.ii 0,.ii 0,.slice none 0 0,.ii 0,.ii 0,.ii 0,.ii 0,.ii 0,.ii 0] 63) λK=>
   nw PP 63 (LL d.heap.size) (.agg #[.ii k,.ii l,.ii m,.slice o p q,.ii r,.ii s,.ii t,.ii u,.ii v,.ii x]) K λy=>
   (jq PP 63 (LL d.heap.size) y λL=>(∃z,(.func (.yield a) #[] #[]:Value)= .func (.yield z) #[] #[]/\
   ky PP z [L] y λM A=>al (!M) (R (.returned (.tuple #[])) A) ((∃B,B<P/\b B A))))) (λn w=>R (.panicked [{v:=n,recovered:=false}]) w))) (λn w=>
   R (.panicked [{v:=n,recovered:=false}]) w))) (λn w=>R (.panicked [{v:=n,recovered:=false}]) w))):
  ba 216 #[.func (.yield a) #[] #[],.pointer (some ⟨c,i,none⟩)] w R:=
 n_ dG [3] mixed Tryz.func216 rfl (Zv kR) kR (Eq.mp kR C)
def vT:gE:=⟨[(2,[(4,.ii 0),(9,.ii 0)])],[],[],[],[]⟩
def vU(x:(∃(l:am) (g:Nat) (y:Nat),w.cell? ⟨c,i,none⟩=some (.slice l g y)/\(∃e:Nat->Int->Int->ac,(∃b,e b 0 0 w)/\
   ∀(b:Nat) (f:Int) (n:Int) (J:Nat->Value) (P:World),e b f n P->al (decide ((n:Int)<((g:Nat):Int))) ((∃m p,l=some ⟨m,p,none⟩/\
   (0:Int)<=n/\n<((g:Nat):Int)/\(jq PP 133 (.pointer (some ⟨m,p+Int.toNat n*13,none⟩)) P λz=>PA P (.cells #[.ii 0,.ii 0,.ii 0,.slice none 0 0,.ii 0,.ii 0,.ii 0,.ii 0,.ii 0,.ii 0,.bool false,.ii 0,.ii 0] 133) λA=>
   nw PP 133 (LL P.heap.size) z A λh=>(∃(q:Value),h.cell? ⟨o,E,none⟩=some q/\(jq PP 133 (LL P.heap.size) h λB=>
   (∃j r s,(q:Value)= .func (.func j) r s/\enters PP j=true/\PC PP j (r++ #[B]++s) h (λC k=>
   ∃(t:Bool),C= .bool t/\al (!t) ((∃d,d<b/\e d f (IntKind.wrap .i64 (n+1)) k)) ((jq PP 133 (LL P.heap.size) k λF=>
   (∃u,(.func (.yield a) #[] #[]:Value)= .func (.yield u) #[] #[]/\ky PP u [.ii f,F] k λH v=>al (!H) (R (.returned (.tuple #[])) v) ((∃d,d<b/\
   e d (IntKind.wrap .i64 (f+1)) (IntKind.wrap .i64 (n+1)) v)))))) (λI w=>R (.panicked I) w))))))) (R (.returned (.tuple #[])) P)))):
  ba 214 #[.func (.yield a) #[] #[],.pointer (some ⟨c,i,none⟩),.pointer (some ⟨o,E,none⟩)] w R:=
 n_ vT [5] mixed Tryz.func214 rfl (Zv kR) kR (Eq.mp kR x)
def Al:gE:=⟨[(3,[(5,.string (⟨#[]⟩:ByteArray))])],[],[],[],[]⟩
def zP(l:PA w (.cells #[.pointer d] 93) λc=>(∃(e:am),c.cell? ⟨w.heap.size,0,none⟩=some (.pointer e)/\PC PP 140 #[.pointer e] c (λm n=>
   ∃(f:Value),m=f/\(He PP f [.string (⟨#[]⟩:ByteArray)] n (λo p a=>∀(b:ByteArray),o [.string b]->(aj (oN n) a a/\
   ∀P,qV (n.heap.size+1) a P->(∃(g:am),P.cell? ⟨w.heap.size,0,none⟩=some (.pointer g)/\PC PP 141 #[.pointer g,.string b] P (λq h=>
   ∃(r:Int),q= .ii r/\(aj (oN n) P h/\p [.string b] .normal h)) (λi w=>False)))) (λj=>(rl n.heap.size j/\
   ∀k,qV n.heap.size j k->R (.returned (.tuple #[])) k)) [])) (λi w=>R (.panicked i) w))):
  ba 86 #[.pointer d] w R:=
 n_ Al [] mixed Tryz.func86 rfl (Zv kR) kR (Eq.mp kR l)
def Am:gE:=⟨[],[],[],[],[]⟩
def zO(f:PA w (.cells #[.pointer d] 93) λP=>(∃(a:am),P.cell? ⟨w.heap.size,0,none⟩=some (.pointer a)/\PC PP 109 #[.pointer a] P (λg n=>
   ∃(b:am) (c:Nat) (e:Nat),∃(h:Bool),g= .tuple #[.agg #[.slice b c e],.bool h]/\PA n (.cells #[.slice none 0 0] 211) λi=>
   PS i ⟨n.heap.size,0,none⟩ (.slice b c e) λj=>R (.returned (.func (.func 208) #[] #[LL w.heap.size,LL n.heap.size])) j) (λk w=>
   R (.panicked k) w))):
  ba 140 #[.pointer d] w R:=DC Am Tryz.func140 rfl f
def uO:gE:=⟨[(1,[(11,WP 0)])],[],[],[],[]⟩
def ue(C:(∃(k:am),w.cell? ⟨c,i,none⟩=some (.pointer k)/\PC PP 160 #[.pointer k] w (λF H=>∃(l:am) (j:Nat) (I:Nat),F= .slice l j I/\
   (∃d:Nat->Int->ac,(∃b,d b 0 H)/\∀(b:Nat) (P:Int) (N:Nat->Value) (g:World),d b P g->al (decide ((P:Int)<((j:Nat):Int))) ((∃m p,l=some ⟨m,p,none⟩/\
   (0:Int)<=P/\P<((j:Nat):Int)/\(∃(e:ByteArray),g.cell? ⟨m,p+Int.toNat P,none⟩=some (.string e)/\PC PP 161 #[.string e] g (λJ h=>
   ∃(q:Int),∃(r:Bool),J= .tuple #[WP q,.bool r]/\al ((ByteArray.toList e)==(ByteArray.toList (⟨#[109,97,110,105,102,101,115,116,46,116,109,112]⟩:ByteArray))) ((∃s,(.func (.yield a) #[] #[]:Value)= .func (.yield s) #[] #[]/\
   ky PP s [.string e] h λK t=>al (!K) (R (.returned (.tuple #[])) t) ((∃n,n<b/\d n (IntKind.wrap .i64 (P+1)) t)))) (al r ((∃(u:am) (v:Nat) (x:Nat),h.cell? ⟨o,E,none⟩=some (.slice u v x)/\
   PC PP 209 #[.slice u v x,WP q] h (λL y=>∃(z:Bool),L= .bool z/\al (!z) ((∃A,(.func (.yield a) #[] #[]:Value)= .func (.yield A) #[] #[]/\
   ky PP A [.string e] y λM B=>al (!M) (R (.returned (.tuple #[])) B) ((∃n,n<b/\d n (IntKind.wrap .i64 (P+1)) B)))) ((∃n,n<b/\
   d n (IntKind.wrap .i64 (P+1)) y))) (λf w=>R (.panicked f) w))) ((∃n,n<b/\d n (IntKind.wrap .i64 (P+1)) h)))) (λf w=>
   R (.panicked f) w)))) (R (.returned (.tuple #[])) g))) (λf w=>R (.panicked f) w))):
  ba 208 #[.func (.yield a) #[] #[],.pointer (some ⟨c,i,none⟩),.pointer (some ⟨o,E,none⟩)] w R:=
 n_ uO [4,5] mixed Tryz.func208 rfl (Zv kR) kR (Eq.mp kR C)

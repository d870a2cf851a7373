import Derived.Test.YtjgjkeponbeekaaGreatDoorKi12
set_option linter.all false
set_option maxRecDepth 100000
namespace Go.Proofs.YtjgjkeponbeekaaGreatDoor
open Go.au
variable {w:World} {R:XT}
def uq:jN:=⟨[(4,[(12,.agg #[XH 0,XH 0,XH 0,.slice none 0 0,XH 0,XH 0,XH 0,XH 0,XH 0,XH 0])])],[],[5],[5],[]⟩
variable{W l:Array Value}{z:FuncId}{N b9 e r:Int}{E a c i p:Nat}{d:ZH}
def ur(a0:PA w (.cells #[.func (.func z) l W] 186) λa=>PA a (.cells #[.slice none 0 0] 59) λB=>(dr d λo2 o4=>(rM B (ad o2 (o4+1)) λc4=>PC_ 153 #[.map c4] B (λo7 n=>∃(C:Value),o7=C/\(EO XP C [.agg #[.ii 0,.ii 0,.ii 0,.slice none 0 0,.ii 0,.ii 0,.ii 0,.ii 0,.ii 0,.ii 0]] n (λo8 E c=>∀(f:Int) (g:Int) (h:Int) (i:ZH) (j:Nat) (k:Nat) (m:Int) (o:Int) (p:Int) (q:Int) (r:Int) (s:Int),o8 [.agg #[.ii f,.ii g,.ii h,.slice i j k,.ii m,.ii o,.ii p,.ii q,.ii r,.ii s]]->PA c (.cells #[.ii 0,.ii 0,.ii 0,.slice none 0 0,.ii 0,.ii 0,.ii 0,.ii 0,.ii 0,.ii 0] 63) λo9=>St 63 (ab_ c 0) (.agg #[.ii f,.ii g,.ii h,.slice i j k,.ii m,.ii o,.ii p,.ii q,.ii r,.ii s]) o9 λF=>(ak (nI n) c F/\∀b,pM (n.heap.size+1) F b->(∃(H:Value),b.cell? (ab_ w 0)=some H/\(Ld 63 (ab_ c 0) b λp0=>(∃u I J,(H:Value)= .func (.func u) I J/\enters XP u=true/\PC_ u (I++ #[p0]++J) b (kB λp1 v=>an p1 ((∀e,bF v e->∃x:XN,(¬x a.heap.size/\(rS e (ab_ a 0) λp2 p3 p4=>(Ld 63 (ab_ c 0) e λp5=>PC_ 115 #[p5] e (λp6 t=>∃K L M N O Q S T U V X D,p6= .agg #[.ii K,.ii L,.ii M,.slice N O Q,.ii S,.ii T,.ii U,.ii V,.ii X,.ii D]/\(ak x e t/\PA t (.cells #[.ii K,.ii L,.ii M,.slice N O Q,.ii S,.ii T,.ii U,.ii V,.ii X,.ii D] 63) λY=>(ak x t Y/\PR_ (ap_ 59 (.slice p2 p3 p4) (.slice (some (ab_ t 0)) 1 1)) Y (kS_ λp7 p8 p9 q0=>PS q0 (ab_ a 0) (.slice p7 p8 p9) λZ=>(ak (nI n) b Z/\E [.agg #[.ii f,.ii g,.ii h,.slice i j k,.ii m,.ii o,.ii p,.ii q,.ii r,.ii s]] .normal Z)) (λpv P=>∀(_:bG) (_:cu),False)))) (λy P=>∀(_:bG) (_:cu),False)))))) ((ak (nI n) b v/\E [.agg #[.ii f,.ii g,.ii h,.slice i j k,.ii m,.ii o,.ii p,.ii q,.ii r,.ii s]] .normal v))) (λy w=>False)))))) (λf8=>(rS f8 (ab_ a 0) λq1 q2 q3=>PC_ 154 #[.slice q1 q2 q3,.func (.func 155) #[] #[]] f8 (k0_ λA=>(rS A (ab_ a 0) λq4 q5 q6=>(p_ n.heap.size A/\∀f9,pM n.heap.size A f9->rt R ((.slice q4 q5 q6)) f9))) (λy P=>(p_ n.heap.size P/\∀g0,pM n.heap.size P g0->R (.panicked y) g0)))) [])) (pE R)))):ZG 93 #[.pointer d,.func (.func z) l W] w R:=
 mW uq [] mixed Tryz.func93 rfl (Zv kR) kR (Eq.mp kR a0)
def Cm:jN:=⟨[(7,[(20,.ii 0),(21,.agg #[.ii 0,.ii 0,.ii 0,.slice none 0 0,.ii 0,.ii 0,.ii 0,.ii 0,.ii 0,.ii 0,.bool false,.ii 0,.ii 0])])],[],[6],[6],[]⟩
def Cn(a0:PA w (.cells #[.ii e] 3) λL=>PA L (.cells #[.ii r] 3) λA=>PA A (.cells #[.ii N] 3) λM=>PA M (.cells #[.ii b9] 3) λf=>
   PA f (.cells #[.slice none 0 0] 50) λg=>PA g (.cells #[.bool false] 4) λb=>PA b (.cells #[.slice none 0 0] 50) λO=>(∃(H:Int),O.cell? ⟨A.heap.size,0,none⟩=some (.ii H)/\
   PS O ⟨A.heap.size,0,none⟩ (.ii (if 0>H then 0 else H)) λq7=>PC XP 147 #[.slice d a c,.func (.func 148) #[] #[XL w.heap.size,XL L.heap.size]] q7 (λq8 P=>
   ∃(Q:Value),q8=Q/\(EO XP Q [.ii 0,.agg #[.ii 0,.ii 0,.ii 0,.slice none 0 0,.ii 0,.ii 0,.ii 0,.ii 0,.ii 0,.ii 0,.bool false,.ii 0,.ii 0]] P (λq9 I B=>
   ∀(h:Int) (i:Int) (j:Int) (k:Int) (G:ZH) (l:Nat) (m:Nat) (o:Int) (p:Int) (q:Int) (s:Int) (t:Int) (u:Int) (v:Bool) (x:Int) (y:Int),q9 [.ii h,.agg #[.ii i,.ii j,.ii k,.slice G l m,.ii o,.ii p,.ii q,.ii s,.ii t,.ii u,.bool v,.ii x,.ii y]]->PA B (.cells #[.ii 0,.ii 0,.ii 0,.slice none 0 0,.ii 0,.ii 0,.ii 0,.ii 0,.ii 0,.ii 0,.bool false,.ii 0,.ii 0] 133) λa1=>
   nq XP 133 (XL B.heap.size) (.agg #[.ii i,.ii j,.ii k,.slice G l m,.ii o,.ii p,.ii q,.ii s,.ii t,.ii u,.bool v,.ii x,.ii y]) a1 λS=>
   (ak (nI P) B S/\∀n,pM (P.heap.size+1) S n->(∃(T:Int),n.cell? ⟨A.heap.size,0,none⟩=some (.ii T)/\an (decide ((h:Int)<T)) ((ak (nI P) n n/\
   I [.ii h,.agg #[.ii i,.ii j,.ii k,.slice G l m,.ii o,.ii p,.ii q,.ii s,.ii t,.ii u,.bool v,.ii x,.ii y]] .normal n)) ((∃(r0:ZH) (U:Nat) (r1:Nat),n.cell? ⟨b.heap.size,0,none⟩=some (.slice r0 U r1)/\
   (∃(V:Int),n.cell? ⟨M.heap.size,0,none⟩=some (.ii V)/\an (decide ((((U:Nat):Int):Int)>=V)) ((∃(W:ZH) (X:Nat) (Y:Nat),n.cell? ⟨b.heap.size,0,none⟩=some (.slice W X Y)/\
   PS n ⟨f.heap.size,0,none⟩ (.slice W X Y) λr2=>PS r2 ⟨g.heap.size,0,none⟩ (.bool true) λZ=>(ak (nI P) n Z/\I [.ii h,.agg #[.ii i,.ii j,.ii k,.slice G l m,.ii o,.ii p,.ii q,.ii s,.ii t,.ii u,.bool v,.ii x,.ii y]] .ret Z))) ((∀z,bF n z->∃J:XN,(¬J b.heap.size/\
   (∃(h7:ZH) (h8:Nat) (h9:Nat),z.cell? ⟨b.heap.size,0,none⟩=some (.slice h7 h8 h9)/\(iK XP 133 (XL B.heap.size) z λr3=>
   PC XP 149 #[r3] z (λr4 C=>∃(D:Int),∃(i0:Int),∃(i1:Int),∃(i2:ZH) (i3:Nat) (i4:Nat),∃(i5:Int),∃(i6:Int),∃(i7:Int),∃(i8:Int),∃(i9:Int),∃(j0:Int),∃(j1:Bool),∃(j2:Int),∃(j3:Int),r4= .agg #[.ii D,.ii i0,.ii i1,.slice i2 i3 i4,.ii i5,.ii i6,.ii i7,.ii i8,.ii i9,.ii j0,.bool j1,.ii j2,.ii j3]/\
   (ak J z C/\PA C (.cells #[.ii D,.ii i0,.ii i1,.slice i2 i3 i4,.ii i5,.ii i6,.ii i7,.ii i8,.ii i9,.ii j0,.bool j1,.ii j2,.ii j3] 133) λj4=>
   (ak J C j4/\aG XP (Builtin.append_ #[50,50] 50 #[.slice h7 h8 h9,.slice (XM C.heap.size) 1 1]) j4 (λr5 r6=>
   ∃(j5:ZH) (j6:Nat) (j7:Nat),r5= .slice j5 j6 j7/\PS r6 ⟨b.heap.size,0,none⟩ (.slice j5 j6 j7) λj8=>(ak (nI P) n j8/\
   I [.ii h,.agg #[.ii i,.ii j,.ii k,.slice G l m,.ii o,.ii p,.ii q,.ii s,.ii t,.ii u,.bool v,.ii x,.ii y]] .normal j8)) (λpv K=>
   ∀(_:bG) (_:cu),False)))) (λch K=>∀(_:bG) (_:cu),False)))))))))))) (λj9=>(∃(k1:ZH) (k2:Nat) (k3:Nat),j9.cell? ⟨b.heap.size,0,none⟩=some (.slice k1 k2 k3)/\
   PS j9 ⟨f.heap.size,0,none⟩ (.slice k1 k2 k3) λr7=>PS r7 ⟨g.heap.size,0,none⟩ (.bool false) λk4=>(p_ P.heap.size k4/\
   ∀E,pM P.heap.size k4 E->(∃(k5:ZH) (k6:Nat) (k7:Nat),E.cell? ⟨f.heap.size,0,none⟩=some (.slice k5 k6 k7)/\
   (∃(k8:Bool),E.cell? ⟨g.heap.size,0,none⟩=some (.bool k8)/\R (.returned (.tuple #[.slice k5 k6 k7,.bool k8])) E))))) [(.ret,λk9=>
   (p_ P.heap.size k9/\∀F,pM P.heap.size k9 F->(∃(l0:ZH) (l1:Nat) (l2:Nat),F.cell? ⟨f.heap.size,0,none⟩=some (.slice l0 l1 l2)/\
   (∃(l3:Bool),F.cell? ⟨g.heap.size,0,none⟩=some (.bool l3)/\R (.returned (.tuple #[.slice l0 l1 l2,.bool l3])) F))))])) (λch w=>
   R (.panicked ch) w))):
  ZG 88 #[.slice d a c,.ii e,.ii r,.ii N,.ii b9] w R:=
 mW Cm [] mixed Tryz.func88 rfl (Zv kR) kR (Eq.mp kR a0)
def cW:jN:=⟨[(1,[])],[],[],[],[]⟩
def cX(C:(∃(e:Option Nat),w.cell? ⟨c,i,none⟩=some (.map e)/\aG XP (Instr.range 182 (.map e)) w (λf E=>(∃b:Nat->XU,(∃P,b P E)/\
   ∀(P:Nat) (N:Nat->Value) (g:World),b P g->aG XP (Instr.next f false 0) g (λh j=>(h= .tuple #[.bool false]/\
   R (.returned (.tuple #[])) j)\/(∃F H,h= .tuple #[.bool true,F,H]/\aG XP (Instr.entry f) j (λI d=>∃(J:Value),∃(k:Int),∃(l:Int),∃(m:Int),∃(o:ZH) (p:Nat) (q:Nat),∃(r:Int),∃(s:Int),∃(t:Int),∃(u:Int),∃(v:Int),∃(x:Int),I= .tuple #[J,.agg #[.ii k,.ii l,.ii m,.slice o p q,.ii r,.ii s,.ii t,.ii u,.ii v,.ii x]]/\
   PA d (.cells #[.ii 0,.ii 0,.ii 0,.slice none 0 0,.ii 0,.ii 0,.ii 0,.ii 0,.ii 0,.ii 0] 63) λK=>
   nq XP 63 (XL d.heap.size) (.agg #[.ii k,.ii l,.ii m,.slice o p q,.ii r,.ii s,.ii t,.ii u,.ii v,.ii x]) K λy=>
   (iK XP 63 (XL d.heap.size) y λL=>(∃z,(.func (.yield a) #[] #[]:Value)= .func (.yield z) #[] #[]/\
   jx XP z [L] y λM A=>an (!M) (R (.returned (.tuple #[])) A) ((∃B,B<P/\b B A))))) (λn w=>R (.panicked [{v:=n,recovered:=false}]) w))) (λn w=>
   R (.panicked [{v:=n,recovered:=false}]) w))) (λn w=>R (.panicked [{v:=n,recovered:=false}]) w))):
  ZG 216 #[.func (.yield a) #[] #[],.pointer (some ⟨c,i,none⟩)] w R:=
 mW cW [3] mixed Tryz.func216 rfl (Zv kR) kR (Eq.mp kR C)
def uu:jN:=⟨[(2,[(4,.ii 0),(9,.ii 0)])],[],[],[],[]⟩
def uv(x:(∃(l:ZH) (g:Nat) (y:Nat),w.cell? ⟨c,i,none⟩=some (.slice l g y)/\(∃e:Nat->Int->Int->XU,(∃b,e b 0 0 w)/\
   ∀(b:Nat) (f:Int) (n:Int) (J:Nat->Value) (P:World),e b f n P->an (decide ((n:Int)<((g:Nat):Int))) ((∃m o,l=some ⟨m,o,none⟩/\
   (0:Int)<=n/\n<((g:Nat):Int)/\(iK XP 133 (.pointer (some ⟨m,o+Int.toNat n*13,none⟩)) P λz=>PA P (.cells #[.ii 0,.ii 0,.ii 0,.slice none 0 0,.ii 0,.ii 0,.ii 0,.ii 0,.ii 0,.ii 0,.bool false,.ii 0,.ii 0] 133) λA=>
   nq XP 133 (XL P.heap.size) z A λh=>(∃(q:Value),h.cell? ⟨p,E,none⟩=some q/\(iK XP 133 (XL P.heap.size) h λB=>
   (∃j r s,(q:Value)= .func (.func j) r s/\enters XP j=true/\PC XP j (r++ #[B]++s) h (λC k=>
   ∃(t:Bool),C= .bool t/\an (!t) ((∃d,d<b/\e d f (IntKind.wrap .i64 (n+1)) k)) ((iK XP 133 (XL P.heap.size) k λF=>
   (∃u,(.func (.yield a) #[] #[]:Value)= .func (.yield u) #[] #[]/\jx XP u [.ii f,F] k λH v=>an (!H) (R (.returned (.tuple #[])) v) ((∃d,d<b/\
   e d (IntKind.wrap .i64 (f+1)) (IntKind.wrap .i64 (n+1)) v)))))) (λI w=>R (.panicked I) w))))))) (R (.returned (.tuple #[])) P)))):
  ZG 214 #[.func (.yield a) #[] #[],.pointer (some ⟨c,i,none⟩),.pointer (some ⟨p,E,none⟩)] w R:=
 mW uu [5] mixed Tryz.func214 rfl (Zv kR) kR (Eq.mp kR x)
def yB:jN:=⟨[(3,[(5,.string (⟨#[]⟩:ByteArray))])],[],[],[],[]⟩
def xW(l:PA w (.cells #[.pointer d] 93) λc=>(∃(e:ZH),c.cell? ⟨w.heap.size,0,none⟩=some (.pointer e)/\PC XP 140 #[.pointer e] c (λm n=>
   ∃(f:Value),m=f/\(EO XP f [.string (⟨#[]⟩:ByteArray)] n (λo p a=>∀(b:ByteArray),o [.string b]->(ak (nI n) a a/\
   ∀P,pM (n.heap.size+1) a P->(∃(g:ZH),P.cell? ⟨w.heap.size,0,none⟩=some (.pointer g)/\PC XP 141 #[.pointer g,.string b] P (λq h=>
   ∃(r:Int),q= .ii r/\(ak (nI n) P h/\p [.string b] .normal h)) (λi w=>False)))) (λj=>(p_ n.heap.size j/\
   ∀k,pM n.heap.size j k->R (.returned (.tuple #[])) k)) [])) (λi w=>R (.panicked i) w))):
  ZG 86 #[.pointer d] w R:=
 mW yB [] mixed Tryz.func86 rfl (Zv kR) kR (Eq.mp kR l)
def yC:jN:=⟨[],[],[],[],[]⟩
def xV(f:PA w (.cells #[.pointer d] 93) λP=>(∃(a:ZH),P.cell? ⟨w.heap.size,0,none⟩=some (.pointer a)/\PC XP 109 #[.pointer a] P (λg n=>
   ∃(b:ZH) (c:Nat) (e:Nat),∃(h:Bool),g= .tuple #[.agg #[.slice b c e],.bool h]/\PA n (.cells #[.slice none 0 0] 211) λi=>
   PS i ⟨n.heap.size,0,none⟩ (.slice b c e) λj=>R (.returned (.func (.func 208) #[] #[XL w.heap.size,XL n.heap.size])) j) (λk w=>
   R (.panicked k) w))):
  ZG 140 #[.pointer d] w R:=DC yC Tryz.func140 rfl f
def tv:jN:=⟨[(1,[(11,XH 0)])],[],[],[],[]⟩
def sR(C:(∃(k:ZH),w.cell? ⟨c,i,none⟩=some (.pointer k)/\PC XP 160 #[.pointer k] w (λF H=>∃(l:ZH) (j:Nat) (I:Nat),F= .slice l j I/\
   (∃d:Nat->Int->XU,(∃b,d b 0 H)/\∀(b:Nat) (P:Int) (N:Nat->Value) (g:World),d b P g->an (decide ((P:Int)<((j:Nat):Int))) ((∃m o,l=some ⟨m,o,none⟩/\
   (0:Int)<=P/\P<((j:Nat):Int)/\(∃(e:ByteArray),g.cell? ⟨m,o+Int.toNat P,none⟩=some (.string e)/\PC XP 161 #[.string e] g (λJ h=>
   ∃(q:Int),∃(r:Bool),J= .tuple #[XH q,.bool r]/\an ((ByteArray.toList e)==(ByteArray.toList (⟨#[109,97,110,105,102,101,115,116,46,116,109,112]⟩:ByteArray))) ((∃s,(.func (.yield a) #[] #[]:Value)= .func (.yield s) #[] #[]/\
   jx XP s [.string e] h λK t=>an (!K) (R (.returned (.tuple #[])) t) ((∃n,n<b/\d n (IntKind.wrap .i64 (P+1)) t)))) (an r ((∃(u:ZH) (v:Nat) (x:Nat),h.cell? ⟨p,E,none⟩=some (.slice u v x)/\
   PC XP 209 #[.slice u v x,XH q] h (λL y=>∃(z:Bool),L= .bool z/\an (!z) ((∃A,(.func (.yield a) #[] #[]:Value)= .func (.yield A) #[] #[]/\
   jx XP A [.string e] y λM B=>an (!M) (R (.returned (.tuple #[])) B) ((∃n,n<b/\d n (IntKind.wrap .i64 (P+1)) B)))) ((∃n,n<b/\
   d n (IntKind.wrap .i64 (P+1)) y))) (λf w=>R (.panicked f) w))) ((∃n,n<b/\d n (IntKind.wrap .i64 (P+1)) h)))) (λf w=>
   R (.panicked f) w)))) (R (.returned (.tuple #[])) g))) (λf w=>R (.panicked f) w))):
  ZG 208 #[.func (.yield a) #[] #[],.pointer (some ⟨c,i,none⟩),.pointer (some ⟨p,E,none⟩)] w R:=
 mW tv [4,5] mixed Tryz.func208 rfl (Zv kR) kR (Eq.mp kR C)

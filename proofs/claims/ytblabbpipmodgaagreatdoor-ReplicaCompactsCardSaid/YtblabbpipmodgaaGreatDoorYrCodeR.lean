import Derived.Test.YtblabbpipmodgaaGreatDoorKr12
set_option linter.all false
set_option maxRecDepth 100000
namespace Go.Proofs.YtblabbpipmodgaaGreatDoor
open Go.aw
variable {w:World} {R:ZT}
def uM:kf:=⟨[(4,[(12,.agg #[ZH 0,ZH 0,ZH 0,.slice none 0 0,ZH 0,ZH 0,ZH 0,ZH 0,ZH 0,ZH 0])])],[],[5],[5],[]⟩
variable{X p:Array Value}{y:FuncId}{O b5 e q:Int}{F a c i o:Nat}{d:YQ}
def uN(a0:PA w (.cells #[.func (.func y) p X] 163) λb=>PA b (.cells #[.slice none 0 0] 50) λB=>(dr d λo2 o4=>(rM B (ad o2 (o4+1)) λc4=>PC_ 148 #[.map c4] B (λo7 P=>∃(C:Value),o7=C/\(FM ZP C [.agg #[.ii 0,.ii 0,.ii 0,.slice none 0 0,.ii 0,.ii 0,.ii 0,.ii 0,.ii 0,.ii 0]] P (λo8 E e=>∀(g:Int) (h:Int) (i:Int) (j:YQ) (k:Nat) (l:Nat) (m:Int) (n:Int) (o:Int) (q:Int) (r:Int) (s:Int),o8 [.agg #[.ii g,.ii h,.ii i,.slice j k l,.ii m,.ii n,.ii o,.ii q,.ii r,.ii s]]->PA e (.cells #[.ii 0,.ii 0,.ii 0,.slice none 0 0,.ii 0,.ii 0,.ii 0,.ii 0,.ii 0,.ii 0] 55) λo9=>St 55 (ab_ e 0) (.agg #[.ii g,.ii h,.ii i,.slice j k l,.ii m,.ii n,.ii o,.ii q,.ii r,.ii s]) o9 λF=>(aj (nE P) e F/\∀c,pW (P.heap.size+1) F c->(∃(H:Value),c.cell? (ab_ w 0)=some H/\(Ld 55 (ab_ e 0) c λp0=>(∃u I J,(H:Value)= .func (.func u) I J/\enters ZP u=true/\PC_ u (I++ #[p0]++J) c (kB λp1 v=>al p1 ((∀f,bX v f->∃x:ZN,(¬x b.heap.size/\(rS f (ab_ b 0) λp2 p3 p4=>(Ld 55 (ab_ e 0) f λp5=>PC_ 142 #[p5] f (λp6 t=>∃K L M N O Q S T U V W D,p6= .agg #[.ii K,.ii L,.ii M,.slice N O Q,.ii S,.ii T,.ii U,.ii V,.ii W,.ii D]/\(aj x f t/\PA t (.cells #[.ii K,.ii L,.ii M,.slice N O Q,.ii S,.ii T,.ii U,.ii V,.ii W,.ii D] 55) λY=>(aj x t Y/\PR_ (ap_ 50 (.slice p2 p3 p4) (.slice (some (ab_ t 0)) 1 1)) Y (kS_ λp7 p8 p9 q0=>PS q0 (ab_ b 0) (.slice p7 p8 p9) λZ=>(aj (nE P) c Z/\E [.agg #[.ii g,.ii h,.ii i,.slice j k l,.ii m,.ii n,.ii o,.ii q,.ii r,.ii s]] .normal Z)) (λpv a=>∀(_:cd) (_:cZ),False)))) (λz a=>∀(_:cd) (_:cZ),False)))))) ((aj (nE P) c v/\E [.agg #[.ii g,.ii h,.ii i,.slice j k l,.ii m,.ii n,.ii o,.ii q,.ii r,.ii s]] .normal v))) (λz w=>False)))))) (λf8=>(rS f8 (ab_ b 0) λq1 q2 q3=>PC_ 149 #[.slice q1 q2 q3,.func (.func 150) #[] #[]] f8 (k0_ λA=>(rS A (ab_ b 0) λq4 q5 q6=>(qi P.heap.size A/\∀f9,pW P.heap.size A f9->rt R ((.slice q4 q5 q6)) f9))) (λz a=>(qi P.heap.size a/\∀g0,pW P.heap.size a g0->R (.panicked z) g0)))) [])) (pE R)))):YX 80 #[.pointer d,.func (.func y) p X] w R:=
 mS uM [] mixed Tryz.func80 rfl (Zv kR) kR (Eq.mp kR a0)
def CQ:kf:=⟨[(7,[(20,.ii 0),(21,.agg #[.ii 0,.ii 0,.ii 0,.slice none 0 0,.ii 0,.ii 0,.ii 0,.ii 0,.ii 0,.ii 0,.bool false,.ii 0,.ii 0])])],[],[6],[6],[]⟩
def CR(a0:PA w (.cells #[.ii e] 3) λL=>PA L (.cells #[.ii q] 3) λA=>PA A (.cells #[.ii O] 3) λM=>PA M (.cells #[.ii b5] 3) λg=>
   PA g (.cells #[.slice none 0 0] 43) λh=>PA h (.cells #[.bool false] 4) λf=>PA f (.cells #[.slice none 0 0] 43) λN=>(∃(H:Int),N.cell? ⟨A.heap.size,0,none⟩=some (.ii H)/\
   PS N ⟨A.heap.size,0,none⟩ (.ii (if 0>H then 0 else H)) λq7=>PC ZP 162 #[.slice d a c,.func (.func 163) #[] #[ZL w.heap.size,ZL L.heap.size]] q7 (λq8 b=>
   ∃(Q:Value),q8=Q/\(FM ZP Q [.ii 0,.agg #[.ii 0,.ii 0,.ii 0,.slice none 0 0,.ii 0,.ii 0,.ii 0,.ii 0,.ii 0,.ii 0,.bool false,.ii 0,.ii 0]] b (λq9 I B=>
   ∀(i:Int) (j:Int) (k:Int) (l:Int) (G:YQ) (m:Nat) (n:Nat) (o:Int) (p:Int) (r:Int) (s:Int) (t:Int) (u:Int) (v:Bool) (x:Int) (y:Int),q9 [.ii i,.agg #[.ii j,.ii k,.ii l,.slice G m n,.ii o,.ii p,.ii r,.ii s,.ii t,.ii u,.bool v,.ii x,.ii y]]->PA B (.cells #[.ii 0,.ii 0,.ii 0,.slice none 0 0,.ii 0,.ii 0,.ii 0,.ii 0,.ii 0,.ii 0,.bool false,.ii 0,.ii 0] 160) λa1=>
   yo ZP 160 (ZL B.heap.size) (.agg #[.ii j,.ii k,.ii l,.slice G m n,.ii o,.ii p,.ii r,.ii s,.ii t,.ii u,.bool v,.ii x,.ii y]) a1 λS=>
   (aj (nE b) B S/\∀P,pW (b.heap.size+1) S P->(∃(T:Int),P.cell? ⟨A.heap.size,0,none⟩=some (.ii T)/\al (decide ((i:Int)<T)) ((aj (nE b) P P/\
   I [.ii i,.agg #[.ii j,.ii k,.ii l,.slice G m n,.ii o,.ii p,.ii r,.ii s,.ii t,.ii u,.bool v,.ii x,.ii y]] .normal P)) ((∃(r0:YQ) (U:Nat) (r1:Nat),P.cell? ⟨f.heap.size,0,none⟩=some (.slice r0 U r1)/\
   (∃(V:Int),P.cell? ⟨M.heap.size,0,none⟩=some (.ii V)/\al (decide ((((U:Nat):Int):Int)>=V)) ((∃(W:YQ) (X:Nat) (Y:Nat),P.cell? ⟨f.heap.size,0,none⟩=some (.slice W X Y)/\
   PS P ⟨g.heap.size,0,none⟩ (.slice W X Y) λr2=>PS r2 ⟨h.heap.size,0,none⟩ (.bool true) λZ=>(aj (nE b) P Z/\I [.ii i,.agg #[.ii j,.ii k,.ii l,.slice G m n,.ii o,.ii p,.ii r,.ii s,.ii t,.ii u,.bool v,.ii x,.ii y]] .ret Z))) ((∀z,bX P z->∃J:ZN,(¬J f.heap.size/\
   (∃(h7:YQ) (h8:Nat) (h9:Nat),z.cell? ⟨f.heap.size,0,none⟩=some (.slice h7 h8 h9)/\(oW ZP 160 (ZL B.heap.size) z λr3=>
   PC ZP 164 #[r3] z (λr4 C=>∃(D:Int),∃(i0:Int),∃(i1:Int),∃(i2:YQ) (i3:Nat) (i4:Nat),∃(i5:Int),∃(i6:Int),∃(i7:Int),∃(i8:Int),∃(i9:Int),∃(j0:Int),∃(j1:Bool),∃(j2:Int),∃(j3:Int),r4= .agg #[.ii D,.ii i0,.ii i1,.slice i2 i3 i4,.ii i5,.ii i6,.ii i7,.ii i8,.ii i9,.ii j0,.bool j1,.ii j2,.ii j3]/\
   (aj J z C/\PA C (.cells #[.ii D,.ii i0,.ii i1,.slice i2 i3 i4,.ii i5,.ii i6,.ii i7,.ii i8,.ii i9,.ii j0,.bool j1,.ii j2,.ii j3] 160) λj4=>
   (aj J C j4/\aG ZP (Builtin.append_ #[43,43] 43 #[.slice h7 h8 h9,.slice (ZM C.heap.size) 1 1]) j4 (λr5 r6=>
   ∃(j5:YQ) (j6:Nat) (j7:Nat),r5= .slice j5 j6 j7/\PS r6 ⟨f.heap.size,0,none⟩ (.slice j5 j6 j7) λj8=>(aj (nE b) P j8/\
   I [.ii i,.agg #[.ii j,.ii k,.ii l,.slice G m n,.ii o,.ii p,.ii r,.ii s,.ii t,.ii u,.bool v,.ii x,.ii y]] .normal j8)) (λpv K=>
   ∀(_:cd) (_:cZ),False)))) (λch K=>∀(_:cd) (_:cZ),False)))))))))))) (λj9=>(∃(k1:YQ) (k2:Nat) (k3:Nat),j9.cell? ⟨f.heap.size,0,none⟩=some (.slice k1 k2 k3)/\
   PS j9 ⟨g.heap.size,0,none⟩ (.slice k1 k2 k3) λr7=>PS r7 ⟨h.heap.size,0,none⟩ (.bool false) λk4=>(qi b.heap.size k4/\
   ∀E,pW b.heap.size k4 E->(∃(k5:YQ) (k6:Nat) (k7:Nat),E.cell? ⟨g.heap.size,0,none⟩=some (.slice k5 k6 k7)/\
   (∃(k8:Bool),E.cell? ⟨h.heap.size,0,none⟩=some (.bool k8)/\R (.returned (.tuple #[.slice k5 k6 k7,.bool k8])) E))))) [(.ret,λk9=>
   (qi b.heap.size k9/\∀F,pW b.heap.size k9 F->(∃(l0:YQ) (l1:Nat) (l2:Nat),F.cell? ⟨g.heap.size,0,none⟩=some (.slice l0 l1 l2)/\
   (∃(l3:Bool),F.cell? ⟨h.heap.size,0,none⟩=some (.bool l3)/\R (.returned (.tuple #[.slice l0 l1 l2,.bool l3])) F))))])) (λch w=>
   R (.panicked ch) w))):
  YX 109 #[.slice d a c,.ii e,.ii q,.ii O,.ii b5] w R:=
 mS CQ [] mixed Tryz.func109 rfl (Zv kR) kR (Eq.mp kR a0)
def dA:kf:=⟨[(1,[])],[],[],[],[]⟩
def dB(C:(∃(f:Option Nat),w.cell? ⟨c,i,none⟩=some (.map f)/\aG ZP (Instr.range 181 (.map f)) w (λg E=>(∃d:Nat->ZU,(∃b,d b E)/\
   ∀(b:Nat) (N:Nat->Value) (h:World),d b h->aG ZP (Instr.next g false 0) h (λj k=>(j= .tuple #[.bool false]/\
   R (.returned (.tuple #[])) k)\/(∃F H,j= .tuple #[.bool true,F,H]/\aG ZP (Instr.entry g) k (λI e=>∃(J:Value),∃(l:Int),∃(m:Int),∃(n:Int),∃(o:YQ) (p:Nat) (q:Nat),∃(r:Int),∃(s:Int),∃(t:Int),∃(u:Int),∃(v:Int),∃(x:Int),I= .tuple #[J,.agg #[.ii l,.ii m,.ii n,.slice o p q,.ii r,.ii s,.ii t,.ii u,.ii v,.ii x]]/\
   PA e (.cells #[.ii 0,.ii 0,.ii 0,.slice none 0 0,.ii 0,.ii 0,.ii 0,.ii 0,.ii 0,.ii 0] 55) λK=>
   yo ZP 55 (ZL e.heap.size) (.agg #[.ii l,.ii m,.ii n,.slice o p q,.ii r,.ii s,.ii t,.ii u,.ii v,.ii x]) K λy=>
   (oW ZP 55 (ZL e.heap.size) y λL=>(∃z,(.func (.yield a) #[] #[]:Value)= .func (.yield z) #[] #[]/\
   jJ ZP z [L] y λM A=>al (!M) (R (.returned (.tuple #[])) A) ((∃B,B<b/\d B A))))) (λP w=>R (.panicked [{v:=P,recovered:=false}]) w))) (λP w=>
   R (.panicked [{v:=P,recovered:=false}]) w))) (λP w=>R (.panicked [{v:=P,recovered:=false}]) w))):
  YX 205 #[.func (.yield a) #[] #[],.pointer (some ⟨c,i,none⟩)] w R:=
 mS dA [3] mixed Tryz.func205 rfl (Zv kR) kR (Eq.mp kR C)
def uO:kf:=⟨[(2,[(4,.ii 0),(9,.ii 0)])],[],[],[],[]⟩
def uP(x:(∃(m:YQ) (h:Nat) (y:Nat),w.cell? ⟨c,i,none⟩=some (.slice m h y)/\(∃f:Nat->Int->Int->ZU,(∃d,f d 0 0 w)/\
   ∀(d:Nat) (g:Int) (P:Int) (J:Nat->Value) (b:World),f d g P b->al (decide ((P:Int)<((h:Nat):Int))) ((∃n p,m=some ⟨n,p,none⟩/\
   (0:Int)<=P/\P<((h:Nat):Int)/\(oW ZP 160 (.pointer (some ⟨n,p+Int.toNat P*13,none⟩)) b λz=>PA b (.cells #[.ii 0,.ii 0,.ii 0,.slice none 0 0,.ii 0,.ii 0,.ii 0,.ii 0,.ii 0,.ii 0,.bool false,.ii 0,.ii 0] 160) λA=>
   yo ZP 160 (ZL b.heap.size) z A λj=>(∃(q:Value),j.cell? ⟨o,F,none⟩=some q/\(oW ZP 160 (ZL b.heap.size) j λB=>
   (∃k r s,(q:Value)= .func (.func k) r s/\enters ZP k=true/\PC ZP k (r++ #[B]++s) j (λC l=>
   ∃(t:Bool),C= .bool t/\al (!t) ((∃e,e<d/\f e g (IntKind.wrap .i64 (P+1)) l)) ((oW ZP 160 (ZL b.heap.size) l λE=>
   (∃u,(.func (.yield a) #[] #[]:Value)= .func (.yield u) #[] #[]/\jJ ZP u [.ii g,E] l λH v=>al (!H) (R (.returned (.tuple #[])) v) ((∃e,e<d/\
   f e (IntKind.wrap .i64 (g+1)) (IntKind.wrap .i64 (P+1)) v)))))) (λI w=>R (.panicked I) w))))))) (R (.returned (.tuple #[])) b)))):
  YX 237 #[.func (.yield a) #[] #[],.pointer (some ⟨c,i,none⟩),.pointer (some ⟨o,F,none⟩)] w R:=
 mS uO [5] mixed Tryz.func237 rfl (Zv kR) kR (Eq.mp kR x)
def yT:kf:=⟨[(3,[(5,.string (⟨#[]⟩:ByteArray))])],[],[],[],[]⟩
def yu(m:PA w (.cells #[.pointer d] 87) λe=>(∃(f:YQ),e.cell? ⟨w.heap.size,0,none⟩=some (.pointer f)/\PC ZP 124 #[.pointer f] e (λn P=>
   ∃(g:Value),n=g/\(FM ZP g [.string (⟨#[]⟩:ByteArray)] P (λo p b=>∀(c:ByteArray),o [.string c]->(aj (nE P) b b/\
   ∀a,pW (P.heap.size+1) b a->(∃(h:YQ),a.cell? ⟨w.heap.size,0,none⟩=some (.pointer h)/\PC ZP 119 #[.pointer h,.string c] a (λq i=>
   ∃(r:Int),q= .ii r/\(aj (nE P) a i/\p [.string c] .normal i)) (λj w=>False)))) (λk=>(qi P.heap.size k/\
   ∀l,pW P.heap.size k l->R (.returned (.tuple #[])) l)) [])) (λj w=>R (.panicked j) w))):
  YX 64 #[.pointer d] w R:=
 mS yT [] mixed Tryz.func64 rfl (Zv kR) kR (Eq.mp kR m)
def yU:kf:=⟨[],[],[],[],[]⟩
def yt(g:PA w (.cells #[.pointer d] 87) λa=>(∃(b:YQ),a.cell? ⟨w.heap.size,0,none⟩=some (.pointer b)/\PC ZP 136 #[.pointer b] a (λh P=>
   ∃(c:YQ) (e:Nat) (f:Nat),∃(i:Bool),h= .tuple #[.agg #[.slice c e f],.bool i]/\PA P (.cells #[.slice none 0 0] 230) λj=>
   PS j ⟨P.heap.size,0,none⟩ (.slice c e f) λk=>R (.returned (.func (.func 175) #[] #[ZL w.heap.size,ZL P.heap.size])) k) (λl w=>
   R (.panicked l) w))):
  YX 124 #[.pointer d] w R:=DC yU Tryz.func124 rfl g
def tL:kf:=⟨[(1,[(11,ZH 0)])],[],[],[],[]⟩
def sZ(C:(∃(l:YQ),w.cell? ⟨c,i,none⟩=some (.pointer l)/\PC ZP 176 #[.pointer l] w (λE H=>∃(m:YQ) (k:Nat) (I:Nat),E= .slice m k I/\
   (∃e:Nat->Int->ZU,(∃d,e d 0 H)/\∀(d:Nat) (b:Int) (N:Nat->Value) (h:World),e d b h->al (decide ((b:Int)<((k:Nat):Int))) ((∃n p,m=some ⟨n,p,none⟩/\
   (0:Int)<=b/\b<((k:Nat):Int)/\(∃(f:ByteArray),h.cell? ⟨n,p+Int.toNat b,none⟩=some (.string f)/\PC ZP 177 #[.string f] h (λJ j=>
   ∃(q:Int),∃(r:Bool),J= .tuple #[ZH q,.bool r]/\al ((ByteArray.toList f)==(ByteArray.toList (⟨#[109,97,110,105,102,101,115,116,46,116,109,112]⟩:ByteArray))) ((∃s,(.func (.yield a) #[] #[]:Value)= .func (.yield s) #[] #[]/\
   jJ ZP s [.string f] j λK t=>al (!K) (R (.returned (.tuple #[])) t) ((∃P,P<d/\e P (IntKind.wrap .i64 (b+1)) t)))) (al r ((∃(u:YQ) (v:Nat) (x:Nat),j.cell? ⟨o,F,none⟩=some (.slice u v x)/\
   PC ZP 178 #[.slice u v x,ZH q] j (λL y=>∃(z:Bool),L= .bool z/\al (!z) ((∃A,(.func (.yield a) #[] #[]:Value)= .func (.yield A) #[] #[]/\
   jJ ZP A [.string f] y λM B=>al (!M) (R (.returned (.tuple #[])) B) ((∃P,P<d/\e P (IntKind.wrap .i64 (b+1)) B)))) ((∃P,P<d/\
   e P (IntKind.wrap .i64 (b+1)) y))) (λg w=>R (.panicked g) w))) ((∃P,P<d/\e P (IntKind.wrap .i64 (b+1)) j)))) (λg w=>
   R (.panicked g) w)))) (R (.returned (.tuple #[])) h))) (λg w=>R (.panicked g) w))):
  YX 175 #[.func (.yield a) #[] #[],.pointer (some ⟨c,i,none⟩),.pointer (some ⟨o,F,none⟩)] w R:=
 mS tL [4,5] mixed Tryz.func175 rfl (Zv kR) kR (Eq.mp kR C)

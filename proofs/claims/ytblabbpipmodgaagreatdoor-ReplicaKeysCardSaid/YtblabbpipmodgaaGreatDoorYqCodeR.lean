import Derived.Test.YtblabbpipmodgaaGreatDoorKq12
set_option linter.all false
set_option maxRecDepth 100000
namespace Go.Proofs.YtblabbpipmodgaaGreatDoor
open Go.aw
variable {w:World} {R:XT}
def tA:jr:=⟨[(4,[(12,.agg #[XH 0,XH 0,XH 0,.slice none 0 0,XH 0,XH 0,XH 0,XH 0,XH 0,XH 0])])],[],[5],[5],[]⟩
variable{V p:Array Value}{y:FuncId}{S b9 e q:Int}{E a c i n:Nat}{d:ZH}
def tB(a0:PA w (.cells #[.func (.func y) p V] 163) λb=>PA b (.cells #[.slice none 0 0] 50) λB=>(dr d λo2 o4=>(rM B (ad o2 (o4+1)) λc4=>PC_ 148 #[.map c4] B (λo7 P=>∃(C:Value),o7=C/\(DX XP C [.agg #[.ii 0,.ii 0,.ii 0,.slice none 0 0,.ii 0,.ii 0,.ii 0,.ii 0,.ii 0,.ii 0]] P (λo8 E e=>∀(g:Int) (h:Int) (i:Int) (j:ZH) (k:Nat) (l:Nat) (m:Int) (n:Int) (o:Int) (q:Int) (r:Int) (s:Int),o8 [.agg #[.ii g,.ii h,.ii i,.slice j k l,.ii m,.ii n,.ii o,.ii q,.ii r,.ii s]]->PA e (.cells #[.ii 0,.ii 0,.ii 0,.slice none 0 0,.ii 0,.ii 0,.ii 0,.ii 0,.ii 0,.ii 0] 55) λo9=>St 55 (ab_ e 0) (.agg #[.ii g,.ii h,.ii i,.slice j k l,.ii m,.ii n,.ii o,.ii q,.ii r,.ii s]) o9 λF=>(ak (mE P) e F/\∀c,oH (P.heap.size+1) F c->(∃(H:Value),c.cell? (ab_ w 0)=some H/\(Ld 55 (ab_ e 0) c λp0=>(∃u I J,(H:Value)= .func (.func u) I J/\enters XP u=true/\PC_ u (I++ #[p0]++J) c (kB λp1 v=>an p1 ((∀f,bC v f->∃x:XN,(¬x b.heap.size/\(rS f (ab_ b 0) λp2 p3 p4=>(Ld 55 (ab_ e 0) f λp5=>PC_ 142 #[p5] f (λp6 t=>∃K L M N O Q S T U W X D,p6= .agg #[.ii K,.ii L,.ii M,.slice N O Q,.ii S,.ii T,.ii U,.ii W,.ii X,.ii D]/\(ak x f t/\PA t (.cells #[.ii K,.ii L,.ii M,.slice N O Q,.ii S,.ii T,.ii U,.ii W,.ii X,.ii D] 55) λY=>(ak x t Y/\PR_ (ap_ 50 (.slice p2 p3 p4) (.slice (some (ab_ t 0)) 1 1)) Y (kS_ λp7 p8 p9 q0=>PS q0 (ab_ b 0) (.slice p7 p8 p9) λZ=>(ak (mE P) c Z/\E [.agg #[.ii g,.ii h,.ii i,.slice j k l,.ii m,.ii n,.ii o,.ii q,.ii r,.ii s]] .normal Z)) (λpv a=>∀(_:bM) (_:cH),False)))) (λz a=>∀(_:bM) (_:cH),False)))))) ((ak (mE P) c v/\E [.agg #[.ii g,.ii h,.ii i,.slice j k l,.ii m,.ii n,.ii o,.ii q,.ii r,.ii s]] .normal v))) (λz w=>False)))))) (λf8=>(rS f8 (ab_ b 0) λq1 q2 q3=>PC_ 149 #[.slice q1 q2 q3,.func (.func 150) #[] #[]] f8 (k0_ λA=>(rS A (ab_ b 0) λq4 q5 q6=>(oQ P.heap.size A/\∀f9,oH P.heap.size A f9->rt R ((.slice q4 q5 q6)) f9))) (λz a=>(oQ P.heap.size a/\∀g0,oH P.heap.size a g0->R (.panicked z) g0)))) [])) (pE R)))):ZG 80 #[.pointer d,.func (.func y) p V] w R:=
 lS tA [] mixed Tryz.func80 rfl (Zv kR) kR (Eq.mp kR a0)
def Bz:jr:=⟨[(7,[(20,.ii 0),(21,.agg #[.ii 0,.ii 0,.ii 0,.slice none 0 0,.ii 0,.ii 0,.ii 0,.ii 0,.ii 0,.ii 0,.bool false,.ii 0,.ii 0])])],[],[6],[6],[]⟩
def BA(a0:PA w (.cells #[.ii e] 3) λL=>PA L (.cells #[.ii q] 3) λA=>PA A (.cells #[.ii S] 3) λM=>PA M (.cells #[.ii b9] 3) λg=>
   PA g (.cells #[.slice none 0 0] 43) λh=>PA h (.cells #[.bool false] 4) λf=>PA f (.cells #[.slice none 0 0] 43) λN=>(∃(H:Int),N.cell? ⟨A.heap.size,0,none⟩=some (.ii H)/\
   PS N ⟨A.heap.size,0,none⟩ (.ii (if 0>H then 0 else H)) λq7=>PC XP 162 #[.slice d a c,.func (.func 163) #[] #[XL w.heap.size,XL L.heap.size]] q7 (λq8 b=>
   ∃(O:Value),q8=O/\(DX XP O [.ii 0,.agg #[.ii 0,.ii 0,.ii 0,.slice none 0 0,.ii 0,.ii 0,.ii 0,.ii 0,.ii 0,.ii 0,.bool false,.ii 0,.ii 0]] b (λq9 I B=>
   ∀(i:Int) (j:Int) (k:Int) (l:Int) (G:ZH) (m:Nat) (n:Nat) (o:Int) (p:Int) (r:Int) (s:Int) (t:Int) (u:Int) (v:Bool) (x:Int) (y:Int),q9 [.ii i,.agg #[.ii j,.ii k,.ii l,.slice G m n,.ii o,.ii p,.ii r,.ii s,.ii t,.ii u,.bool v,.ii x,.ii y]]->PA B (.cells #[.ii 0,.ii 0,.ii 0,.slice none 0 0,.ii 0,.ii 0,.ii 0,.ii 0,.ii 0,.ii 0,.bool false,.ii 0,.ii 0] 160) λa1=>
   w_ XP 160 (XL B.heap.size) (.agg #[.ii j,.ii k,.ii l,.slice G m n,.ii o,.ii p,.ii r,.ii s,.ii t,.ii u,.bool v,.ii x,.ii y]) a1 λQ=>
   (ak (mE b) B Q/\∀P,oH (b.heap.size+1) Q P->(∃(T:Int),P.cell? ⟨A.heap.size,0,none⟩=some (.ii T)/\an (decide ((i:Int)<T)) ((ak (mE b) P P/\
   I [.ii i,.agg #[.ii j,.ii k,.ii l,.slice G m n,.ii o,.ii p,.ii r,.ii s,.ii t,.ii u,.bool v,.ii x,.ii y]] .normal P)) ((∃(r0:ZH) (U:Nat) (r1:Nat),P.cell? ⟨f.heap.size,0,none⟩=some (.slice r0 U r1)/\
   (∃(V:Int),P.cell? ⟨M.heap.size,0,none⟩=some (.ii V)/\an (decide ((((U:Nat):Int):Int)>=V)) ((∃(W:ZH) (X:Nat) (Y:Nat),P.cell? ⟨f.heap.size,0,none⟩=some (.slice W X Y)/\
   PS P ⟨g.heap.size,0,none⟩ (.slice W X Y) λr2=>PS r2 ⟨h.heap.size,0,none⟩ (.bool true) λZ=>(ak (mE b) P Z/\I [.ii i,.agg #[.ii j,.ii k,.ii l,.slice G m n,.ii o,.ii p,.ii r,.ii s,.ii t,.ii u,.bool v,.ii x,.ii y]] .ret Z))) ((∀z,bC P z->∃J:XN,(¬J f.heap.size/\
   (∃(h7:ZH) (h8:Nat) (h9:Nat),z.cell? ⟨f.heap.size,0,none⟩=some (.slice h7 h8 h9)/\(nK XP 160 (XL B.heap.size) z λr3=>
   PC XP 164 #[r3] z (λr4 C=>∃(D:Int),∃(i0:Int),∃(i1:Int),∃(i2:ZH) (i3:Nat) (i4:Nat),∃(i5:Int),∃(i6:Int),∃(i7:Int),∃(i8:Int),∃(i9:Int),∃(j0:Int),∃(j1:Bool),∃(j2:Int),∃(j3:Int),r4= .agg #[.ii D,.ii i0,.ii i1,.slice i2 i3 i4,.ii i5,.ii i6,.ii i7,.ii i8,.ii i9,.ii j0,.bool j1,.ii j2,.ii j3]/\
   (ak J z C/\PA C (.cells #[.ii D,.ii i0,.ii i1,.slice i2 i3 i4,.ii i5,.ii i6,.ii i7,.ii i8,.ii i9,.ii j0,.bool j1,.ii j2,.ii j3] 160) λj4=>
   (ak J C j4/\aE XP (Builtin.append_ #[43,43] 43 #[.slice h7 h8 h9,.slice (XM C.heap.size) 1 1]) j4 (λr5 r6=>
   ∃(j5:ZH) (j6:Nat) (j7:Nat),r5= .slice j5 j6 j7/\PS r6 ⟨f.heap.size,0,none⟩ (.slice j5 j6 j7) λj8=>(ak (mE b) P j8/\
   I [.ii i,.agg #[.ii j,.ii k,.ii l,.slice G m n,.ii o,.ii p,.ii r,.ii s,.ii t,.ii u,.bool v,.ii x,.ii y]] .normal j8)) (λpv K=>
   ∀(_:bM) (_:cH),False)))) (λch K=>∀(_:bM) (_:cH),False)))))))))))) (λj9=>(∃(k1:ZH) (k2:Nat) (k3:Nat),j9.cell? ⟨f.heap.size,0,none⟩=some (.slice k1 k2 k3)/\
   PS j9 ⟨g.heap.size,0,none⟩ (.slice k1 k2 k3) λr7=>PS r7 ⟨h.heap.size,0,none⟩ (.bool false) λk4=>(oQ b.heap.size k4/\
   ∀E,oH b.heap.size k4 E->(∃(k5:ZH) (k6:Nat) (k7:Nat),E.cell? ⟨g.heap.size,0,none⟩=some (.slice k5 k6 k7)/\
   (∃(k8:Bool),E.cell? ⟨h.heap.size,0,none⟩=some (.bool k8)/\R (.returned (.tuple #[.slice k5 k6 k7,.bool k8])) E))))) [(.ret,λk9=>
   (oQ b.heap.size k9/\∀F,oH b.heap.size k9 F->(∃(l0:ZH) (l1:Nat) (l2:Nat),F.cell? ⟨g.heap.size,0,none⟩=some (.slice l0 l1 l2)/\
   (∃(l3:Bool),F.cell? ⟨h.heap.size,0,none⟩=some (.bool l3)/\R (.returned (.tuple #[.slice l0 l1 l2,.bool l3])) F))))])) (λch w=>
   R (.panicked ch) w))):
  ZG 109 #[.slice d a c,.ii e,.ii q,.ii S,.ii b9] w R:=
 lS Bz [] mixed Tryz.func109 rfl (Zv kR) kR (Eq.mp kR a0)
def cX:jr:=⟨[(1,[])],[],[],[],[]⟩
def cY(C:(∃(f:Option Nat),w.cell? ⟨c,i,none⟩=some (.map f)/\aE XP (Instr.range 181 (.map f)) w (λg E=>(∃d:Nat->XU,(∃b,d b E)/\
   ∀(b:Nat) (N:Nat->Value) (h:World),d b h->aE XP (Instr.next g false 0) h (λj k=>(j= .tuple #[.bool false]/\
   R (.returned (.tuple #[])) k)\/(∃F H,j= .tuple #[.bool true,F,H]/\aE XP (Instr.entry g) k (λI e=>∃(J:Value),∃(l:Int),∃(m:Int),∃(n:Int),∃(o:ZH) (p:Nat) (q:Nat),∃(r:Int),∃(s:Int),∃(t:Int),∃(u:Int),∃(v:Int),∃(x:Int),I= .tuple #[J,.agg #[.ii l,.ii m,.ii n,.slice o p q,.ii r,.ii s,.ii t,.ii u,.ii v,.ii x]]/\
   PA e (.cells #[.ii 0,.ii 0,.ii 0,.slice none 0 0,.ii 0,.ii 0,.ii 0,.ii 0,.ii 0,.ii 0] 55) λK=>
   w_ XP 55 (XL e.heap.size) (.agg #[.ii l,.ii m,.ii n,.slice o p q,.ii r,.ii s,.ii t,.ii u,.ii v,.ii x]) K λy=>
   (nK XP 55 (XL e.heap.size) y λL=>(∃z,(.func (.yield a) #[] #[]:Value)= .func (.yield z) #[] #[]/\
   iU XP z [L] y λM A=>an (!M) (R (.returned (.tuple #[])) A) ((∃B,B<b/\d B A))))) (λP w=>R (.panicked [{v:=P,recovered:=false}]) w))) (λP w=>
   R (.panicked [{v:=P,recovered:=false}]) w))) (λP w=>R (.panicked [{v:=P,recovered:=false}]) w))):
  ZG 205 #[.func (.yield a) #[] #[],.pointer (some ⟨c,i,none⟩)] w R:=
 lS cX [3] mixed Tryz.func205 rfl (Zv kR) kR (Eq.mp kR C)
def tC:jr:=⟨[(2,[(4,.ii 0),(9,.ii 0)])],[],[],[],[]⟩
def tD(x:(∃(m:ZH) (h:Nat) (y:Nat),w.cell? ⟨c,i,none⟩=some (.slice m h y)/\(∃f:Nat->Int->Int->XU,(∃d,f d 0 0 w)/\
   ∀(d:Nat) (g:Int) (P:Int) (J:Nat->Value) (b:World),f d g P b->an (decide ((P:Int)<((h:Nat):Int))) ((∃o p,m=some ⟨o,p,none⟩/\
   (0:Int)<=P/\P<((h:Nat):Int)/\(nK XP 160 (.pointer (some ⟨o,p+Int.toNat P*13,none⟩)) b λz=>PA b (.cells #[.ii 0,.ii 0,.ii 0,.slice none 0 0,.ii 0,.ii 0,.ii 0,.ii 0,.ii 0,.ii 0,.bool false,.ii 0,.ii 0] 160) λA=>
   w_ XP 160 (XL b.heap.size) z A λj=>(∃(q:Value),j.cell? ⟨n,E,none⟩=some q/\(nK XP 160 (XL b.heap.size) j λB=>
   (∃k r s,(q:Value)= .func (.func k) r s/\enters XP k=true/\PC XP k (r++ #[B]++s) j (λC l=>
   ∃(t:Bool),C= .bool t/\an (!t) ((∃e,e<d/\f e g (IntKind.wrap .i64 (P+1)) l)) ((nK XP 160 (XL b.heap.size) l λF=>
   (∃u,(.func (.yield a) #[] #[]:Value)= .func (.yield u) #[] #[]/\iU XP u [.ii g,F] l λH v=>an (!H) (R (.returned (.tuple #[])) v) ((∃e,e<d/\
   f e (IntKind.wrap .i64 (g+1)) (IntKind.wrap .i64 (P+1)) v)))))) (λI w=>R (.panicked I) w))))))) (R (.returned (.tuple #[])) b)))):
  ZG 237 #[.func (.yield a) #[] #[],.pointer (some ⟨c,i,none⟩),.pointer (some ⟨n,E,none⟩)] w R:=
 lS tC [5] mixed Tryz.func237 rfl (Zv kR) kR (Eq.mp kR x)
def xK:jr:=⟨[(3,[(5,.string (⟨#[]⟩:ByteArray))])],[],[],[],[]⟩
def xi(m:PA w (.cells #[.pointer d] 87) λe=>(∃(f:ZH),e.cell? ⟨w.heap.size,0,none⟩=some (.pointer f)/\PC XP 124 #[.pointer f] e (λn P=>
   ∃(g:Value),n=g/\(DX XP g [.string (⟨#[]⟩:ByteArray)] P (λo p b=>∀(c:ByteArray),o [.string c]->(ak (mE P) b b/\
   ∀a,oH (P.heap.size+1) b a->(∃(h:ZH),a.cell? ⟨w.heap.size,0,none⟩=some (.pointer h)/\PC XP 119 #[.pointer h,.string c] a (λq i=>
   ∃(r:Int),q= .ii r/\(ak (mE P) a i/\p [.string c] .normal i)) (λj w=>False)))) (λk=>(oQ P.heap.size k/\
   ∀l,oH P.heap.size k l->R (.returned (.tuple #[])) l)) [])) (λj w=>R (.panicked j) w))):
  ZG 64 #[.pointer d] w R:=
 lS xK [] mixed Tryz.func64 rfl (Zv kR) kR (Eq.mp kR m)
def xL:jr:=⟨[],[],[],[],[]⟩
def xh(g:PA w (.cells #[.pointer d] 87) λa=>(∃(b:ZH),a.cell? ⟨w.heap.size,0,none⟩=some (.pointer b)/\PC XP 136 #[.pointer b] a (λh P=>
   ∃(c:ZH) (e:Nat) (f:Nat),∃(i:Bool),h= .tuple #[.agg #[.slice c e f],.bool i]/\PA P (.cells #[.slice none 0 0] 230) λj=>
   PS j ⟨P.heap.size,0,none⟩ (.slice c e f) λk=>R (.returned (.func (.func 175) #[] #[XL w.heap.size,XL P.heap.size])) k) (λl w=>
   R (.panicked l) w))):
  ZG 124 #[.pointer d] w R:=DC xL Tryz.func124 rfl g
def su:jr:=⟨[(1,[(11,XH 0)])],[],[],[],[]⟩
def rN(C:(∃(l:ZH),w.cell? ⟨c,i,none⟩=some (.pointer l)/\PC XP 176 #[.pointer l] w (λF H=>∃(m:ZH) (k:Nat) (I:Nat),F= .slice m k I/\
   (∃e:Nat->Int->XU,(∃d,e d 0 H)/\∀(d:Nat) (b:Int) (N:Nat->Value) (h:World),e d b h->an (decide ((b:Int)<((k:Nat):Int))) ((∃o p,m=some ⟨o,p,none⟩/\
   (0:Int)<=b/\b<((k:Nat):Int)/\(∃(f:ByteArray),h.cell? ⟨o,p+Int.toNat b,none⟩=some (.string f)/\PC XP 177 #[.string f] h (λJ j=>
   ∃(q:Int),∃(r:Bool),J= .tuple #[XH q,.bool r]/\an ((ByteArray.toList f)==(ByteArray.toList (⟨#[109,97,110,105,102,101,115,116,46,116,109,112]⟩:ByteArray))) ((∃s,(.func (.yield a) #[] #[]:Value)= .func (.yield s) #[] #[]/\
   iU XP s [.string f] j λK t=>an (!K) (R (.returned (.tuple #[])) t) ((∃P,P<d/\e P (IntKind.wrap .i64 (b+1)) t)))) (an r ((∃(u:ZH) (v:Nat) (x:Nat),j.cell? ⟨n,E,none⟩=some (.slice u v x)/\
   PC XP 178 #[.slice u v x,XH q] j (λL y=>∃(z:Bool),L= .bool z/\an (!z) ((∃A,(.func (.yield a) #[] #[]:Value)= .func (.yield A) #[] #[]/\
   iU XP A [.string f] y λM B=>an (!M) (R (.returned (.tuple #[])) B) ((∃P,P<d/\e P (IntKind.wrap .i64 (b+1)) B)))) ((∃P,P<d/\
   e P (IntKind.wrap .i64 (b+1)) y))) (λg w=>R (.panicked g) w))) ((∃P,P<d/\e P (IntKind.wrap .i64 (b+1)) j)))) (λg w=>
   R (.panicked g) w)))) (R (.returned (.tuple #[])) h))) (λg w=>R (.panicked g) w))):
  ZG 175 #[.func (.yield a) #[] #[],.pointer (some ⟨c,i,none⟩),.pointer (some ⟨n,E,none⟩)] w R:=
 lS su [4,5] mixed Tryz.func175 rfl (Zv kR) kR (Eq.mp kR C)

import Derived.Test.YtblabbpipmodgaaGreatDoorKn12
set_option linter.all false
set_option maxRecDepth 100000
namespace Go.Proofs.YtblabbpipmodgaaGreatDoor
open Go.aw
variable {w:World} {R:XT}
def sO:jW:=⟨[(4,[(12,.agg #[XH 0,XH 0,XH 0,.slice none 0 0,XH 0,XH 0,XH 0,XH 0,XH 0,XH 0])])],[],[5],[5],[]⟩
variable{U n:Array Value}{y:FuncId}{e o:Int}{J a c i q:Nat}{d:ZH}
def sP(a0:PA w (.cells #[.func (.func y) n U] 163) λb=>PA b (.cells #[.slice none 0 0] 50) λB=>(∃C E,d=some ⟨C,E,none⟩/\(∃(F:Option Nat),B.cell? ⟨C,E+1,none⟩=some (.map F)/\
   PC XP 148 #[.map F] B (λv8 P=>∃(H:Value),v8=H/\(Hj XP H [.agg #[XH 0,XH 0,XH 0,.slice none 0 0,XH 0,XH 0,XH 0,XH 0,XH 0,XH 0]] P (λe1 I e=>
   ∀(h:Int) (i:Int) (j:Int) (k:ZH) (l:Nat) (m:Nat) (o:Int) (p:Int) (q:Int) (r:Int) (s:Int) (t:Int),e1 [.agg #[XH h,XH i,XH j,.slice k l m,XH o,XH p,XH q,XH r,XH s,XH t]]->PA e (.cells #[XH 0,XH 0,XH 0,.slice none 0 0,XH 0,XH 0,XH 0,XH 0,XH 0,XH 0] 55) λe2=>
   vm XP 55 (XL e.heap.size) (.agg #[XH h,XH i,XH j,.slice k l m,XH o,XH p,XH q,XH r,XH s,XH t]) e2 λJ=>
   (ak (qt P) e J/\∀c,sQ (P.heap.size+1) J c->(∃(K:Value),c.cell? ⟨w.heap.size,0,none⟩=some K/\(mW XP 55 (XL e.heap.size) c λe3=>
   (∃v L M,(K:Value)= .func (.func v) L M/\enters XP v=true/\PC XP v (L++ #[e3]++M) c (λe4 x=>
   ∃(N:Bool),e4= .bool N/\an N ((∀f,bG x f->∃z:XN,(¬z b.heap.size/\(∃(O:ZH) (Q:Nat) (S:Nat),f.cell? ⟨b.heap.size,0,none⟩=some (.slice O Q S)/\
   (mW XP 55 (XL e.heap.size) f λe5=>PC XP 142 #[e5] f (λe6 u=>∃(T:Int),∃(V:Int),∃(W:Int),∃(X:ZH) (Y:Nat) (Z:Nat),∃(d1:Int),∃(d2:Int),∃(d3:Int),∃(d4:Int),∃(d5:Int),∃(d6:Int),e6= .agg #[XH T,XH V,XH W,.slice X Y Z,XH d1,XH d2,XH d3,XH d4,XH d5,XH d6]/\
   (ak z f u/\PA u (.cells #[XH T,XH V,XH W,.slice X Y Z,XH d1,XH d2,XH d3,XH d4,XH d5,XH d6] 55) λd7=>
   (ak z u d7/\aD XP (Builtin.append_ #[50,50] 50 #[.slice O Q S,.slice (XM u.heap.size) 1 1]) d7 (λe7 e8=>
   ∃(a9:ZH) (b0:Nat) (b1:Nat),e7= .slice a9 b0 b1/\PS e8 ⟨b.heap.size,0,none⟩ (.slice a9 b0 b1) λd8=>(ak (qt P) c d8/\
   I [.agg #[XH h,XH i,XH j,.slice k l m,XH o,XH p,XH q,XH r,XH s,XH t]] .normal d8)) (λpv a=>
   ∀(_:bL) (_:cH),False)))) (λg a=>∀(_:bL) (_:cH),False)))))) ((ak (qt P) c x/\I [.agg #[XH h,XH i,XH j,.slice k l m,XH o,XH p,XH q,XH r,XH s,XH t]] .normal x))) (λg w=>
   False)))))) (λd9=>(∃(b2:ZH) (b3:Nat) (b4:Nat),d9.cell? ⟨b.heap.size,0,none⟩=some (.slice b2 b3 b4)/\PC XP 149 #[.slice b2 b3 b4,.func (.func 150) #[] #[]] d9 (λe9 A=>
   e9= .tuple #[]/\(∃(b6:ZH) (b7:Nat) (b8:Nat),A.cell? ⟨b.heap.size,0,none⟩=some (.slice b6 b7 b8)/\(rH P.heap.size A/\
   ∀e0,sQ P.heap.size A e0->R (.returned (.slice b6 b7 b8)) e0))) (λg a=>(rH P.heap.size a/\∀lq,sQ P.heap.size a lq->R (.panicked g) lq)))) [])) (λg w=>
   R (.panicked g) w)))):
  ZG 80 #[.pointer d,.func (.func y) n U] w R:=
 sR sO [] mixed Tryz.func80 rfl (Zv kR) kR (Eq.mp kR a0)
def Aq:jW:=⟨[(7,[(20,XH 0),(21,.agg #[XH 0,XH 0,XH 0,.slice none 0 0,XH 0,XH 0,XH 0,XH 0,XH 0,XH 0,.bool false,XH 0,XH 0])])],[],[6],[6],[]⟩
def Ar{M:Int}{N:Int}(a0:PA w (.cells #[XH e] 3) λO=>PA O (.cells #[XH o] 3) λB=>PA B (.cells #[XH M] 3) λQ=>PA Q (.cells #[XH N] 3) λg=>
   PA g (.cells #[.slice none 0 0] 43) λh=>PA h (.cells #[.bool false] 4) λf=>PA f (.cells #[.slice none 0 0] 43) λS=>(∃(I:Int),S.cell? ⟨B.heap.size,0,none⟩=some (XH I)/\
   PS S ⟨B.heap.size,0,none⟩ (XH (if 0>I then 0 else I)) λh0=>PC XP 162 #[.slice d a c,.func (.func 163) #[] #[XL w.heap.size,XL O.heap.size]] h0 (λh2 b=>
   ∃(T:Value),h2=T/\(Hj XP T [XH 0,.agg #[XH 0,XH 0,XH 0,.slice none 0 0,XH 0,XH 0,XH 0,XH 0,XH 0,XH 0,.bool false,XH 0,XH 0]] b (λh3 J C=>
   ∀(i:Int) (j:Int) (k:Int) (l:Int) (m:ZH) (n:Nat) (p:Nat) (q:Int) (r:Int) (s:Int) (t:Int) (u:Int) (v:Int) (x:Bool) (y:Int) (z:Int),h3 [XH i,.agg #[XH j,XH k,XH l,.slice m n p,XH q,XH r,XH s,XH t,XH u,XH v,.bool x,XH y,XH z]]->PA C (.cells #[XH 0,XH 0,XH 0,.slice none 0 0,XH 0,XH 0,XH 0,XH 0,XH 0,XH 0,.bool false,XH 0,XH 0] 160) λh4=>
   vm XP 160 (XL C.heap.size) (.agg #[XH j,XH k,XH l,.slice m n p,XH q,XH r,XH s,XH t,XH u,XH v,.bool x,XH y,XH z]) h4 λU=>
   (ak (qt b) C U/\∀P,sQ (b.heap.size+1) U P->(∃(V:Int),P.cell? ⟨B.heap.size,0,none⟩=some (XH V)/\an (decide ((i:Int)<V)) ((ak (qt b) P P/\
   J [XH i,.agg #[XH j,XH k,XH l,.slice m n p,XH q,XH r,XH s,XH t,XH u,XH v,.bool x,XH y,XH z]] .normal P)) ((∃(e2:ZH) (W:Nat) (e3:Nat),P.cell? ⟨f.heap.size,0,none⟩=some (.slice e2 W e3)/\
   (∃(X:Int),P.cell? ⟨Q.heap.size,0,none⟩=some (XH X)/\an (decide ((((W:Nat):Int):Int)>=X)) ((∃(Y:ZH) (Z:Nat) (b3:Nat),P.cell? ⟨f.heap.size,0,none⟩=some (.slice Y Z b3)/\
   PS P ⟨g.heap.size,0,none⟩ (.slice Y Z b3) λh5=>PS h5 ⟨h.heap.size,0,none⟩ (.bool true) λe5=>(ak (qt b) P e5/\J [XH i,.agg #[XH j,XH k,XH l,.slice m n p,XH q,XH r,XH s,XH t,XH u,XH v,.bool x,XH y,XH z]] .ret e5))) ((∀A,bG P A->∃K:XN,(¬K f.heap.size/\
   (∃(b4:ZH) (b5:Nat) (b6:Nat),A.cell? ⟨f.heap.size,0,none⟩=some (.slice b4 b5 b6)/\(mW XP 160 (XL C.heap.size) A λh6=>
   PC XP 164 #[h6] A (λh7 E=>∃(e6:Int),∃(e7:Int),∃(e8:Int),∃(b7:ZH) (b8:Nat) (b9:Nat),∃(e9:Int),∃(f2:Int),∃(f4:Int),∃(f5:Int),∃(f6:Int),∃(f7:Int),∃(g0:Bool),∃(g1:Int),∃(g2:Int),h7= .agg #[XH e6,XH e7,XH e8,.slice b7 b8 b9,XH e9,XH f2,XH f4,XH f5,XH f6,XH f7,.bool g0,XH g1,XH g2]/\
   (ak K A E/\PA E (.cells #[XH e6,XH e7,XH e8,.slice b7 b8 b9,XH e9,XH f2,XH f4,XH f5,XH f6,XH f7,.bool g0,XH g1,XH g2] 160) λg3=>
   (ak K E g3/\aD XP (Builtin.append_ #[43,43] 43 #[.slice b4 b5 b6,.slice (XM E.heap.size) 1 1]) g3 (λh8 h9=>
   ∃(c0:ZH) (c1:Nat) (c2:Nat),h8= .slice c0 c1 c2/\PS h9 ⟨f.heap.size,0,none⟩ (.slice c0 c1 c2) λg4=>(ak (qt b) P g4/\
   J [XH i,.agg #[XH j,XH k,XH l,.slice m n p,XH q,XH r,XH s,XH t,XH u,XH v,.bool x,XH y,XH z]] .normal g4)) (λpv L=>
   ∀(_:bL) (_:cH),False)))) (λch L=>∀(_:bL) (_:cH),False)))))))))))) (λg5=>(∃(c3:ZH) (c4:Nat) (c5:Nat),g5.cell? ⟨f.heap.size,0,none⟩=some (.slice c3 c4 c5)/\
   PS g5 ⟨g.heap.size,0,none⟩ (.slice c3 c4 c5) λi0=>PS i0 ⟨h.heap.size,0,none⟩ (.bool false) λg6=>(rH b.heap.size g6/\
   ∀F,sQ b.heap.size g6 F->(∃(c6:ZH) (c7:Nat) (c8:Nat),F.cell? ⟨g.heap.size,0,none⟩=some (.slice c6 c7 c8)/\
   (∃(g7:Bool),F.cell? ⟨h.heap.size,0,none⟩=some (.bool g7)/\R (.returned (.tuple #[.slice c6 c7 c8,.bool g7])) F))))) [(.ret,λg8=>
   (rH b.heap.size g8/\∀H,sQ b.heap.size g8 H->(∃(c9:ZH) (d0:Nat) (d1:Nat),H.cell? ⟨g.heap.size,0,none⟩=some (.slice c9 d0 d1)/\
   (∃(g9:Bool),H.cell? ⟨h.heap.size,0,none⟩=some (.bool g9)/\R (.returned (.tuple #[.slice c9 d0 d1,.bool g9])) H))))])) (λch w=>
   R (.panicked ch) w))):
  ZG 109 #[.slice d a c,XH e,XH o,XH M,XH N] w R:=
 sR Aq [] mixed Tryz.func109 rfl (Zv kR) kR (Eq.mp kR a0)
def c_:jW:=⟨[(1,[])],[],[],[],[]⟩
def dd(C:(∃(f:Option Nat),w.cell? ⟨c,i,none⟩=some (.map f)/\aD XP (Instr.range 181 (.map f)) w (λg E=>(∃d:Nat->XU,(∃b,d b E)/\
   ∀(b:Nat) (N:Nat->Value) (h:World),d b h->aD XP (Instr.next g false 0) h (λj k=>(j= .tuple #[.bool false]/\
   R (.returned (.tuple #[])) k)\/(∃F H,j= .tuple #[.bool true,F,H]/\aD XP (Instr.entry g) k (λI e=>∃(J:Value),∃(l:Int),∃(m:Int),∃(n:Int),∃(o:ZH) (p:Nat) (q:Nat),∃(r:Int),∃(s:Int),∃(t:Int),∃(u:Int),∃(v:Int),∃(x:Int),I= .tuple #[J,.agg #[XH l,XH m,XH n,.slice o p q,XH r,XH s,XH t,XH u,XH v,XH x]]/\
   PA e (.cells #[XH 0,XH 0,XH 0,.slice none 0 0,XH 0,XH 0,XH 0,XH 0,XH 0,XH 0] 55) λK=>
   vm XP 55 (XL e.heap.size) (.agg #[XH l,XH m,XH n,.slice o p q,XH r,XH s,XH t,XH u,XH v,XH x]) K λy=>
   (mW XP 55 (XL e.heap.size) y λL=>(∃z,(.func (.yield a) #[] #[]:Value)= .func (.yield z) #[] #[]/\
   mq XP z [L] y λM A=>an (!M) (R (.returned (.tuple #[])) A) ((∃B,B<b/\d B A))))) (λP w=>R (.panicked [{v:=P,recovered:=false}]) w))) (λP w=>
   R (.panicked [{v:=P,recovered:=false}]) w))) (λP w=>R (.panicked [{v:=P,recovered:=false}]) w))):
  ZG 205 #[.func (.yield a) #[] #[],.pointer (some ⟨c,i,none⟩)] w R:=
 sR c_ [3] mixed Tryz.func205 rfl (Zv kR) kR (Eq.mp kR C)
def sS:jW:=⟨[(2,[(4,XH 0),(9,XH 0)])],[],[],[],[]⟩
def sT(x:(∃(m:ZH) (h:Nat) (y:Nat),w.cell? ⟨c,i,none⟩=some (.slice m h y)/\(∃f:Nat->Int->Int->XU,(∃d,f d 0 0 w)/\
   ∀(d:Nat) (g:Int) (P:Int) (I:Nat->Value) (b:World),f d g P b->an (decide ((P:Int)<((h:Nat):Int))) ((∃n o,m=some ⟨n,o,none⟩/\
   (0:Int)<=P/\P<((h:Nat):Int)/\(mW XP 160 (.pointer (some ⟨n,o+Int.toNat P*13,none⟩)) b λz=>PA b (.cells #[XH 0,XH 0,XH 0,.slice none 0 0,XH 0,XH 0,XH 0,XH 0,XH 0,XH 0,.bool false,XH 0,XH 0] 160) λA=>
   vm XP 160 (XL b.heap.size) z A λj=>(∃(p:Value),j.cell? ⟨q,J,none⟩=some p/\(mW XP 160 (XL b.heap.size) j λB=>
   (∃k r s,(p:Value)= .func (.func k) r s/\enters XP k=true/\PC XP k (r++ #[B]++s) j (λC l=>
   ∃(t:Bool),C= .bool t/\an (!t) ((∃e,e<d/\f e g (IntKind.wrap .i64 (P+1)) l)) ((mW XP 160 (XL b.heap.size) l λE=>
   (∃u,(.func (.yield a) #[] #[]:Value)= .func (.yield u) #[] #[]/\mq XP u [XH g,E] l λF v=>an (!F) (R (.returned (.tuple #[])) v) ((∃e,e<d/\
   f e (IntKind.wrap .i64 (g+1)) (IntKind.wrap .i64 (P+1)) v)))))) (λH w=>R (.panicked H) w))))))) (R (.returned (.tuple #[])) b)))):
  ZG 237 #[.func (.yield a) #[] #[],.pointer (some ⟨c,i,none⟩),.pointer (some ⟨q,J,none⟩)] w R:=
 sR sS [5] mixed Tryz.func237 rfl (Zv kR) kR (Eq.mp kR x)

import Derived.Test.YtkpomgifkloklacGreatDoorKg11
import Derived.RangeFuncSeq
import Derived.RangeFuncLeaves
set_option maxHeartbeats 4000000
set_option linter.all false
set_option maxRecDepth 20000
namespace Go.Proofs.YtkpomgifkloklacGreatDoor
open Go.aw
def aA(no:Int):ByteArray:=dY (aO no)
structure vF where
 no:Int
 out:List aj
 V:dh
 D:al
def iC:List Int->List aj->dh->al->vF
 |[],P,a,D=>⟨0,P,a,D⟩
 |no::b,P,a,D=>
  if(D.read (aA no)).2≠0 then⟨0,P,a,D⟩else
  if(bW (D.read (aA no)).1).2<(D.read (aA no)).1.length then
   ⟨(D.Fw (aA no) (bW (D.read (aA no)).1).2).1,P++(bW (D.read (aA no)).1).1,⟨a.size,a.bf++[no],(bW (D.read (aA no)).1).2,a.next⟩,(D.Fw (aA no) (bW (D.read (aA no)).1).2).2⟩
  else iC b (P++(bW (D.read (aA no)).1).1) ⟨a.size,a.bf++[no],(bW (D.read (aA no)).1).2,a.next⟩ D
variable{u:List Int}{a c:Nat}{f:XN}{d:ZH}{m:XR}{x:XU}
section
variable {w0 w w1 w':World} {p q:Nat} {D D':al} {V V':dh} {X Y Z G S:XN}
def bM.fC(c:bM w0 w p D X)(d:ak Y w w')(e:∀P,Y P->X P/\w0.heap.size<=P)(f:∀P,Z P->(X P\/w.heap.size<=P)/\P<w'.heap.size):bM w0 w' p D Z:=by
 obtain⟨h,g,i,b,l⟩:=c;exact⟨h,g.af d λP a j=>(b P a).2 (e P j).1,i.new d λP a=>.inr (e P a).2,λP a=>⟨(b P a).1,λk=>(f P k).1.elim (b P a).2 λc=>by have:=g.aF P a;omega⟩,λP a=>(f P a).2⟩
def cE.fC(g:cE w0 w p q V D X)(b:ak Y w w')(c:∀P,Y P->X P/\w0.heap.size<=P)(d:∀P,Z P->(X P\/w.heap.size<=P)/\P<w'.heap.size):cE w0 w' p q V D Z:=by
 obtain⟨G,h,e,f⟩:=g;refine⟨G,h.fC b (λP a=>⟨.inl (c P a).1,(c P a).2⟩) λP a=>?_,e.af b λP a i=>(f P a).2 (c P i).1,λP a=>⟨(f P a).1,λj=>(d P j).1.elim (f P a).2 λg=>by have:=e.aF P a;omega⟩⟩;rcases a with a|a
 ·exact⟨(d P a).1.imp .inl id,(d P a).2⟩
 ·exact⟨.inl (.inr a),Qk (e.aF P a) b.size⟩
def Nw{no B:Int}(h:cE w0 w p q V D X)(O:aP no)(Q:V.bf.length+1<=64)(s:∀w',cE w0 w' p q ⟨V.size,V.bf++[no],B,V.next⟩ D X->ak (fJ X) w w'->x w'):
  ∃C E,(XM q:ZH)=some ⟨C,E,none⟩/\∃(i:ZH) (t u:Nat),w.cell? ⟨C,E+2,none⟩=some (.slice i t u)/\
   PA w (.cells #[XH no] 3) λR=>aH XP (Builtin.append_ #[55,55] 55 #[.slice i t u,.slice (XM w.heap.size) 1 1]) R (λS T=>
    ∃(d:ZH) (F j:Nat),S= .slice d F j/\∃H I,(XM q:ZH)=some ⟨H,I,none⟩/\PS T ⟨H,I+2,none⟩ (.slice d F j) λU=>
     ∃J K,(XM q:ZH)=some ⟨J,K,none⟩/\PS U ⟨J,K+3,none⟩ (XH B) x) m:=by
 obtain⟨G,W,c,e⟩:=id h;obtain⟨i,t,u,a0,L,f,g⟩:=c.body;have a8:=c.aF q c.self;refine⟨q,0,rfl,_,_,_,ae L rfl,PA.mk λw1 k s1 Y=>?_⟩;refine jQ (f.ah k) sX (D:=(·=w.heap.size)) (Row.lit Y [no] rfl (λa1 l=>by simp at l;subst l;exact O) (by unfold aT;simp)) (λP b=>⟨oM,λZ=>by have:=f.aF P (f.self P Z);omega⟩) (by unfold aT;simp;omega) (by unfold maxLen;simp;omega) λd j w2 F' n o _ v=>?_
 replace n:=n.alone
 have a6:¬aI i=some q:=λb=>(g q (f.self q b)).2 rfl;have g2:=o.get (k.get L id) a6;have z2:=o.size;have y:¬aI d=some q:=λb=>by
  rcases v q b with h|h
  ·exact(g q h).2 rfl
  ·omega
 refine⟨_,_,_,rfl,q,0,rfl,PS.mk g2 sM λw3 z s3 g3=>⟨q,0,rfl,PS.mk g3 sM λr A s4 g4=>s r ?_ ?_⟩⟩
 ·have a7:ak (λP=>aI i=some P\/P=q) w1 r:=((o.mono λP _ a=>.inl a).then (z.mono λP _ a=>.inr a)).then (A.mono λP _ a=>.inr a)
  have kG:ak G w r:=(ai.af k).then (a7.mono λP _ a=>a.elim (λh=>(g P (f.self P h)).1) λh=>h▸c.self);have M:∀P,aI d=some P->P<r.heap.size:=λP a=>by have:=n.aF P a;omega
  refine⟨λP=>P=q\/aI d=some P,W.fC kG (λP a=>⟨.inr a,(e P a).1⟩) λP a=>?_,⟨⟨d,_,j,(λP=>aI d=some P),g4,?_,λP a=>⟨.inr a,λb=>y (b▸a)⟩⟩,.inl rfl,?_,by simpa using Q,c.BS⟩,?_⟩
  ·rcases a with a|rfl|a
   ·exact⟨.inl (.inl a),by have:=h.aF P a;omega⟩
   ·exact⟨.inl (.inr c.self),oM⟩
   ·refine⟨?_,M P a⟩
    rcases v P a with h|h
    ·exact .inl (.inr (g P h).1)
    ·exact .inr oM
  ·exact(n.af z λP a b=>y (b▸a)).af A λP a b=>y (b▸a)
  ·rintro P (rfl|a)
   ·omega
   ·exact M P a
  ·rintro P (rfl|a)
   ·exact e _ c.self
   ·rcases v P a with N|N
    ·exact e P (g P N).1
    ·exact⟨by have:=h.gr.size;omega,λl=>by have:=h.aF P l;omega⟩
 ·refine(((ai.af k).then (o.mono λP _ a=>?_)).then (z.mono λP _ a=>?_)).then (A.mono λP _ a=>?_)
  ·exact(e P (g P (f.self P a)).1).2
  ·exact(e P (a▸c.self)).2
  ·exact(e P (a▸c.self)).2
def Rw{j P:Nat}(a:j<=64)(b:P<=j*262144):P<=16777216:=oM
def Px(w0 w:World)(p q:Nat)(X:XN)(P:vF)(e:Value)(w':World):Prop:=
 ∃b c d G,e= .tuple #[.slice b c d,XH P.no]/\aU tO 59 G w' b c d P.out/\cE w0 w' p q P.V P.D (λa=>X a\/G a)/\ak (fJ X) w w'/\(∀a,G a->w.heap.size<=a)/\P.out.length<=16777216
def Nx(C:Laid w0)(h:cE w0 w p q V D X)(Q:Row aQ 8 w f d a u)(c2:∀P,f P->X P)(g0:V.bf.length+u.length<=64):
  ZG 96 #[XL q,.agg #[.slice d a c]] w (Ok (Px w0 w p q X (iC u [] V D))):=by
 have l:=Q.len;have R:=h.aF;have g4:=h.gr.size;refine sh (PA.mk λw1 S s1 g1=>⟨_,_,_,ae g1 rfl,λT U W Y Z w'=>∃(g:Nat) (i:dh) (e:List aj) (G:XN),Z=g/\g<=u.length/\T=u.length-g/\iC u [] V D=iC (u.drop g) e i D/\i.bf.length=V.bf.length+g/\e.length<=g*262144/\
  aU tO 59 G w' U W Y e/\cE w0 w' p q i D (λP=>X P\/G P)/\ak (fJ X) w w'/\∀P,G P->w.heap.size<=P,
  ⟨_,0,V,[],λ_=>False,rfl,Qj _,rfl,rfl,rfl,Qj _,aU.nil w1,(h.ah S).mono λP b=>b.elim id λh=>h.elim,ai.af S,λ_ h=>h.elim⟩,?_⟩)
 rintro T U W Y Z _ w2 ⟨g,i,e,G,rfl,hj,rfl,a4,g5,a0,m,hN,r,t⟩;rw[a4];refine an.dec (λg6=>?_) (λg7=>?_)
 rotate_left
 ·obtain rfl:g=u.length:=oM
  rw[List.drop_of_length_le (Q4 _)];exact Ok.mk ⟨_,_,_,G,rfl,m,hN,r,t,Rw oM a0⟩
 obtain⟨P,E,no,rfl,n,j,F⟩:=(Q.af r λP b l=>l (c2 P b)).mI (i:=g) oM;have a2:u.drop g=no::u.drop (g+1):=by
  obtain⟨c4,rfl⟩:=Qv.1 n;exact X4 c4
 rw[a2]at a4⊢;refine⟨P,E,rfl,oM,oM,no,F,λw3 d3=>?_⟩;have k3:ai w2 w3:=d3.af;have H:=hN.ah k3;obtain⟨G3,c8,d0,g8⟩:=id H;obtain⟨a3,n3,c3,E3,d1,-,-,-⟩:=d0.row;refine⟨λ_=>False,q,0,rfl,id,_,ae d1 rfl,PC.ok (mi (C.ah H.gr) j) ?_⟩;rintro _ w4 ⟨rfl,z⟩;have d2:=H.ah z;refine⟨_,rfl,z,PC.ok ((c8.ah z).read (k:=aA no)) ?_⟩;rintro _ w5 ⟨a5,n5,c5,F5,rfl,d4,g9,-,I⟩;have v:=d2.ah I;have x:ai w2 w5:=(k3.then z).then I;have h0:=d4.len dC;have h2:=FG v.ok (aA no);refine⟨_,_,_,_,rfl,I,an.dX (λd5=>?_) (λhe=>?_)⟩
 ·rw[show iC (no::u.drop (g+1)) e i D=⟨0,e,i,D⟩ by unfold iC;rw[Zx d5]]
  exact Ok.mk ⟨_,_,_,G,rfl,m.ah x,v,r.ah x,t,Rw oM a0⟩
 obtain⟨G5,d6,d7,h3⟩:=id v;obtain⟨h4,h5,h6,E5,d8,-,-,-⟩:=d7.row;obtain⟨a7,e0,-,-,-⟩:=id d6;refine⟨q,0,rfl,_,ae d8 rfl,PC.ok (Ny (C.ah v.gr) e0 j) ?_⟩;rintro _ w6 ⟨a6,n6,c6,F6,rfl,s,J,K,a8⟩;have e1:cE w0 w6 p q i D (λP=>(X P\/G P)\/F6 P):=v.add J λP b=>⟨K P b,s.aF P b⟩
 have b0:=x.then J;have e2:=m.aF;generalize e3:bW (D.read (dY (aO no))).1=sl at s a8;obtain⟨k,o⟩:=sl;dsimp only at s a8;have a1:bW (D.read (aA no)).1=(k,o):=e3;have b1:Row tO 96 w6 F6 a6 n6 k:=s.row dC ba;refine⟨_,_,_,_,rfl,Dd (m.ah b0) Hj b1 (λL=>s.Pw L) (λP b=>⟨s.aF P b,λF=>by have:=e2 P (m.self P F);have:=K P b;have:=x.size;omega⟩) ba (by unfold maxLen;omega) λa9 c7 w7 A b2 M b3 _=>?_⟩;have h7:=x.size;have z6:=J.size;have b4:=b2.aF;have e4:cE w0 w7 p q i D (λP=>X P\/A P):=e1.fC M (λP b=>⟨.inl (.inr (m.self P b)),by have:=t P (m.self P b);omega⟩) λP b=>by
  rcases b with b|b
  ·exact⟨.inl (.inl (.inl b)),by have:=R P b;have:=r.size;have:=M.size;omega⟩
  ·refine⟨?_,b4 P b⟩
   rcases b3 P b with h|h|h
   ·exact .inl (.inl (.inr h))
   ·exact .inl (.inr h)
   ·exact .inr h
 have e5:ak (fJ X) w w7:=(r.ah b0).then (M.mono λP _ b n=>by have:=t P (m.self P b);have:=R P n;omega);have b5:∀P,A P->w.heap.size<=P:=λP b=>by
  have:=r.size;rcases b3 P b with h|h|h
  ·exact t P h
  ·have:=K P h;omega
  ·omega
 refine⟨_,_,_,rfl,Nw e4 j oM λw8 b6 k8=>?_⟩;have b7:ak (fJ X) w w8:=e5.then (k8.mono λP _ b n=>b (.inl n));have b8:=b2.af k8 λP b l=>l (.inr b);refine an.dec (λg2=>?_) (λg3=>?_)
 ·rw[show iC (no::u.drop (g+1)) e i D=⟨(D.Fw (aA no) o).1,e++k,⟨i.size,i.bf++[no],o,i.next⟩,(D.Fw (aA no) o).2⟩ by
   unfold iC;rw[a1,Zq (by simpa using he),Zx (by show o<_;omega)]]
  intro w9 d9;have N:ai w8 w9:=d9.af;have b9:=b6.ah N;obtain⟨G9,e6,O,e7⟩:=id b9;obtain⟨c9,n9,f0,E9,e8,-,-,-⟩:=O.row;refine⟨λP=>P≠q,q,0,rfl,λhs=>hs rfl,_,ae e8 rfl,PC.ok (mi (C.ah b9.gr) j) ?_⟩;rintro _ e9 ⟨rfl,y⟩;refine⟨_,rfl,y.af,PC.ok ((e6.ah y).Fw (k:=aA no)) ?_⟩;rintro _ f2 ⟨rfl,c0,B⟩;have c1:ak (fJ X) e9 f2:=B.mono λP _ b n=>b (.inl (.inl n));refine⟨_,rfl,B.mono λP _ b L=>b (.inr (L▸O.self)),Ok.mk ⟨_,_,_,A,rfl,?_,⟨G9,c0,(O.ah y).af B λP b l=>l (.inr b),e7⟩,((b7.ah N).ah y).then c1,b5,?_⟩⟩
  ·exact((b8.ah N).ah y).af B λP b l=>l (.inl (.inr b))
  ·exact Rw (j:=g+1) oM bc
 ·refine⟨_,?_,g+1,⟨i.size,i.bf++[no],o,i.next⟩,e++k,A,aq oM,oM,rfl,?_,by simp;omega,by simp;omega,b8,b6,b7,b5⟩
  ·omega
  ·conv=>lhs;unfold iC
   rw[a1,Zq (by simpa using he),Zq (by show¬o<_;omega)]
end
def mj(D:al)(P:Int):dh:=⟨P,[],0,tZ D⟩
def told(D:al):List Int:=(fB D).getD []
def kQ(a:Nat)(P:vF):vF:=
 if P.no≠0 then P else
 if P.V.bf=[]then⟨(aG P.V P.D).1,P.out,(aG P.V P.D).2.1,(aG P.V P.D).2.2⟩else
 if P.V.bf.length<a then⟨(bJ P.D P.V.bf).1,P.out,P.V,(bJ P.D P.V.bf).2⟩else P
def bA(D:al)(P:Int):vF:=kQ (told D).length (iC (told D) [] (mj D P) D)
def Py(f c:World)(g:Nat)(d:XN)(P:vF)(h:Value)(a:World):Prop:=
 (P.no≠0/\h= .tuple #[.pointer none,.slice none 0 0,XH P.no]/\bM f a g P.D d/\ak (fJ d) c a)\/
 (P.no=0/\∃e i j k G,h= .tuple #[XL e,.slice i j k,XH 0]/\aU tO 59 G a i j k P.out/\cE f a g e P.V P.D (λb=>d b\/G b)/\ak (fJ d) c a/\(∀b,G b->c.heap.size<=b)/\c.heap.size<=e/\P.out.length<=16777216)
variable{v:ByteArray}{e:Int}{E:List aj}{a6:XN}{b k:World}{l:aj}{f9:al->cI->Int×al}{Y:cI}{b1:dh}
def Nz{D:al}(t:Laid b)(j:bM b k a D f):
  ZG 51 #[XL a,XH e] k (Ok (Py b k a f (bA D e))):=by
 have T:∀P,f P->P<k.heap.size:=by obtain⟨a0,h1,h2,h3,h4⟩:=j;exact h4
 have d0:=j.gr.size;obtain⟨a0,hF,-,-,-⟩:=id j;refine AI (PC.ok (FO (t.ah j.gr) hF) ?_);rintro _ g ⟨rfl,H⟩;have U:=j.ah H;have d1:=BR D.list;refine⟨_,rfl,PA.mk λw2 V s2 g2=>PC.ok ((U.ah V).jY t.pF) ?_⟩;rintro _ u ⟨y,z,W,A,rfl,X,Y,-,I⟩;have z1:=H.size;have z3:=I.size
 change aU aQ 3 A u y z W (told D)at X
 have d2:(told D).length<=64:=Lp;have b4:ai g u:=V.then I;refine⟨_,_,_,_,rfl,PA.mk λw4 k4 s4 g4=>PS.mk g4 sM λm k5 s5 Z=>⟨_,_,_,ae Z rfl,?_⟩⟩;have b5:m.heap[u.heap.size]? =some (.cells #[.slice y z W] 193 (0,0)):=Z;have J:ai u m:=k4.new k5 λP c=>.inr oM;have a7:ai g m:=b4.then J;have a8:ai k m:=H.then a7;have b6:=J.get (I.get g2 id) id;have a9:=X.ah J
 let K:XN:=λP=>f P\/(A P\/P=u.heap.size)
 have b7:cE b m a g.heap.size (mj D e) D K:=by
  refine⟨(·=g.heap.size),U.fC a7 (Y:=λ_=>False) (λP c=>c.elim) λP c=>?_,⟨⟨none,0,0,λ_=>False,b6,aU.nil m,λ_ j=>j.elim⟩,rfl,λP c=>oM,Qj _,?_⟩,λP c=>⟨oM,λE=>?_⟩⟩
  ·rcases c with(c|c|c)|c
   ·exact⟨.inl c,by have:=T P c;omega⟩
   ·exact⟨.inr (by have:=Y P c;omega),a9.aF P c⟩
   ·exact⟨.inr oM,oM⟩
   ·exact⟨.inr oM,oM⟩
  ·show aP (uo D.list);unfold aP;omega
  ·subst c
   rcases E with E|E|E
   ·have:=T _ E;omega
   ·have:=Y _ E;omega
   ·omega
 have L:Row aQ 8 m A y z (told D):=a9.row dC ba;refine PC.ok (Nx t b7 L (λP c=>.inr (.inl c)) (by show 0+_<=_;omega)) ?_;rintro _ M ⟨a6,n6,c6,n,rfl,B,v,N,b8,b0⟩;have z5:=a8.size;have hq:k.heap.size<=g.heap.size:=z1;have O:ak (fJ f) k M:=(ai.af a8).then (N.mono λP _ c E=>c (.inl E));have g6:=N.get b5 λl=>l (.inr (.inr rfl));have b9:Row aQ 8 M A y z (told D):=L.af N λP c l=>l (.inr (.inl c));have d3:=L.len;show _;unfold bA;generalize iC (told D) [] (mj D e) D=h at B v b0;have b1:∀P,n P->k.heap.size<=P:=λP c=>by have:=b8 P c;omega
 refine⟨_,_,_,_,rfl,λno o=>∃p q,kQ (told D).length h=⟨no,h.out,p,q⟩/\aU tO 59 n o a6 n6 c6 h.out/\cE b o a g.heap.size p q (λP=>f P\/n P)/\ak (fJ f) k o,?_,?_⟩
 ·have d:∀{o p q},cE b o a g.heap.size p q (λP=>K P\/n P)->cE b o a g.heap.size p q (λP=>f P\/n P):=λj=>j.mono λP c=>c.imp .inl id
  refine an.dX (λr=>⟨h.V,h.D,by unfold kQ;rw[Zx r],B,d v,O⟩) (λw=>?_);obtain⟨GL,c0,b2,c1⟩:=id v;obtain⟨aL,nL,cL,EL,Q,b3,c2,c4⟩:=b2.row;refine⟨_,_,rfl,_,_,_,ae Q rfl,an.eG (λhz=>?_) (λc5=>?_)⟩
  ·have R:h.V.bf=[]:=QW oM
   refine PC.ok (BU t v) ?_;rintro _ C ⟨rfl,s,i⟩;exact⟨_,rfl,_,_,by unfold kQ;rw[Zq (by simpa using w),Zx R],B.af i λP c l=>l (.inr c),d s,O.then (i.mono λP _ c E=>c (.inl (.inl E)))⟩
  ·have r:¬h.V.bf=[]:=λa1=>c5 (by rw[c4,a1];rfl)
   refine⟨_,_,rfl,_,_,_,ae Q rfl,_,_,_,ae g6 rfl,λC d7=>?_⟩;have i:ai M C:=d7.af;have s:=v.ah i;have F:=B.ah i;have x:ak (fJ f) k C:=O.ah i;refine an.dec (λd4=>?_) (λd5=>⟨_,_,by unfold kQ;rw[Zq (by simpa using w),Zq r,Zq oM],F,d s,x⟩);have c7:=i.get Q id;refine⟨_,_,rfl,_,_,_,ae c7 rfl,PC.ok ((c0.ah i).bJ t.pF (b3.ah i) (JU b3) λP c=>.inr (.inr (c2 P c).1)) ?_⟩;rintro _ w8 ⟨rfl,c8,S⟩;have c9:cE b w8 a g.heap.size h.V (bJ h.D h.V.bf).2 (λP=>K P\/n P):=⟨GL,c8,(b2.ah i).af S λP c l=>l (.inr c),c1⟩
   exact⟨_,rfl,_,_,by unfold kQ;rw[Zq (by simpa using w),Zq r,Zx oM],F.af S λP c l=>l (.inl (.inr c)),d c9,x.then (S.mono λP _ c E=>c (.inl (.inl (.inl E))))⟩
 ·rintro no _ C ⟨p,q,R,F,s,x⟩
  rw[R];refine an.dX (λr=>Ok.mk (.inl ⟨r,rfl,s.vE.mono λP c=>.inl c,x⟩)) (λw=>Ok.mk (.inr ⟨w,g.heap.size,a6,n6,c6,n,by rfl,F,s,x,b1,hq,b0⟩))
def iG(P:aj):Bool:=decide (64<P.aN.length)
def aK(a:dh)(D:al)(b:List aj):Int×dh×al:=
 if b.any iG then(3,a,D)else if b=[]then(0,a,D)else
 let P:=if a.size<=a.bytes then aG a D else(0,a,D)
 if P.1≠0 then P else
 let c:=P.2.2.append P.2.1.last (aC b)
 if c.1≠0 then(c.1,P.2.1,c.2)else(0,⟨P.2.1.size,P.2.1.bf,IntKind.wrap .i64 (P.2.1.bytes+((aC b).length:Nat)),P.2.1.next⟩,c.2)
def rk{D:al}(P:(aG b1 D).1=0):(aG b1 D).2.1.bf≠[]:=by
 have d:∀a:al,(jX b1 a).1=0->(jX b1 a).2.1.bf≠[]:=by
  intro a;unfold jX;dsimp only;split
  ·rename_i b;intro P;exact Zz P b
  ·split
   ·rename_i b;intro P;exact Zz P b
   ·intro _;simp
 have c:∀a:al,(bt b1 a).1=0->(bt b1 a).2.1.bf≠[]:=by
  intro a;unfold bt;dsimp only;split
  ·rename_i b;intro P;exact Zz P b
  ·exact d _
 revert P
 unfold aG;dsimp only;split
 ·exact c D
 ·split
  ·rename_i b;intro P;exact Zz P b
  ·exact c _
def Pv(P:l.Ok)(a:l.aN.length<=64):(sx l).length<=675:=by
 have:=JT P a;have b:=wm P a;unfold sx at*;rw[gT];omega
def zB(P:List aj)(a:aj):aC (P++[a])=aC P++sx a:=by simp[aC]
def Iz{D:al}{v b6:Nat}(V:Laid b)(u:cE b k a c b1 D f)(d0:b1.bf≠[])(hr:Row iX 96 k a6 d v E)(d1:∀P,a6 P->P<k.heap.size)(hl:E.length<=20000000):
  ZG 68 #[XL c,.slice d v b6] k (Ok (BT b k a c f (aK b1 D E))):=by
 have z:=hr.len;have e9:=u.aF;refine qD ⟨λa5 K L W a7 w=>∃(h:Nat) (x:XN),a7=h/\h<=v/\a5=v-h/\(∀g∈E.take h,g.Ok/\g.aN.length<=64)/\(aC (E.take h)).length<=675*h/\aU fP 5 x w K L W (aC (E.take h))/\ai k w/\∀P,x P->k.heap.size<=P,
  ⟨_,0,λ_=>False,rfl,Qj _,rfl,sM,by simp[aC],aU.nil k,ak.refl _,λ_ u=>u.elim⟩,?_⟩
 rintro a5 K L W a7 _ X ⟨h,x,rfl,hj,rfl,Z,d4,p,m,hF⟩;have b3:=p.len dC;refine an.dec (λd5=>?_) (λd6=>?_)
 ·obtain⟨P,a0,g,es,rfl,_,_,q,j,c0,n1,c1,rfl,hd,M⟩:=(hr.ah m).uH (i:=h) oM
  have n:=λi (hi:i<10)=>j i hi;refine⟨P,a0,rfl,oM,oM,_,_,_,_,_,_,_,_,_,_,_,_,n 0 dC,n 1 dC,n 2 dC,n 3 dC,n 4 dC,n 5 dC,n 6 dC,n 7 dC,n 8 dC,n 9 dC,PA.mk λA B s2 g2=>?_⟩;refine storeAll (aD g c0 n1 c1) g2 rfl λC r s3 o=>?_;have y:ai X C:=B.new r λP e=>.inr oM;refine⟨_,_,_,_,_,_,_,_,_,_,_,_,ae o rfl,ae o rfl,ae o rfl,ae o rfl,ae o rfl,ae o rfl,ae o rfl,ae o rfl,ae o rfl,ae o rfl,?_⟩;refine PC.ok (Ln (V.ah ((u.gr.then m).then y)) (hd.ah y) M λP e=>by have:=d1 P e;have:=(m.then y).size;omega) ?_;rintro _ w4 ⟨c3,n4,f0,F4,rfl,s,t,b4⟩
  by_cases N:g.aN.length<=64
  ·have a8:=wm M N
   rw[a8]at s⊢;have f1:=Pv M N;refine⟨_,_,_,_,rfl,an.dX (λj=>Zz rfl j) (λ_=>?_)⟩;have a9:=y.then t;have c4:Row fP 1 w4 F4 c3 n4 (sx g):=s.row (bytes:=1) dC (by unfold aT;dsimp only;omega);have f2:=a9.size;have f3:=y.size;refine Dd (p.ah a9) sV c4 (λg=>s.Pw g) (λP e=>⟨s.aF P e,λj=>by have:=p.aF P (p.self P j);have:=b4 P e;omega⟩) ba (by unfold maxLen;omega) λb5 c5 w5 F5 b0 d7 d8 _=>?_;have a1:E.take (h+1)=E.take h++[g]:=by rw[Qw,q];rfl
   refine⟨_,_,_,rfl,v-(h+1),oM,h+1,F5,aq oM,oM,rfl,?_,?_,?_,(m.then a9).new d7 λP e=>.inr (by have:=hF P (p.self P e);omega),?_⟩
   ·rw[a1]
    intro c6 a2;rcases Q6.1 a2 with Y|Y
    ·exact Z c6 Y
    ·simp at Y;subst Y;exact⟨M,N⟩
   ·rw[a1,zB];simp;omega
   ·rw[a1,zB];exact b0
   ·intro P e
    have:=m.size;rcases d8 P e with Y|Y|Y
    ·exact hF P Y
    ·have:=b4 P Y;omega
    ·omega
  ·have a8:=FR N
   rw[a8]at s⊢;refine⟨_,_,_,_,rfl,an.dX (λ_=>?_) (λj=>Zz j dC)⟩;have d2:E.any iG=true:=List.any_eq_true.2 ⟨g,QZ q,by unfold iG;simp;omega⟩;refine Ok.mk ?_;rw[show aK b1 D E=(3,b1,D) by unfold aK;rw[Zx d2]];have b7:=(m.then y).then t;exact⟨rfl,u.ah b7,ai.af b7⟩
 ·obtain rfl:h=v:=oM
  rw[Qz oM]at Z d4 p b3;have b8:E.any iG=false:=by
   rw[<-Bool.not_eq_true];intro j;obtain⟨g,he,h2⟩:=List.any_eq_true.1 j;have:=(Z g he).2;unfold iG at h2;simp at h2;omega
  refine an.eG (λhz=>?_) (λd9=>?_)
  ·have he:E=[]:=QW oM
   refine Ok.mk ?_;rw[show aK b1 D E=(0,b1,D) by unfold aK;rw[Zq (by simp[b8]),Zx he]];exact⟨rfl,u.ah m,ai.af m⟩
  have e0:E≠[]:=λg=>d9 (by rw[z,g];rfl)
  let F:XN:=λP=>f P\/x P
  have b9:cE b X a c b1 D F:=u.add m λP e=>⟨hF P e,p.aF P e⟩
  have d3:aK b1 D E=if(if b1.size<=b1.bytes then aG b1 D else(0,b1,D)).1≠0 then(if b1.size<=b1.bytes then aG b1 D else(0,b1,D))else
    if((if b1.size<=b1.bytes then aG b1 D else(0,b1,D)).2.2.append (if b1.size<=b1.bytes then aG b1 D else(0,b1,D)).2.1.last (aC E)).1≠0 then(((if b1.size<=b1.bytes then aG b1 D else(0,b1,D)).2.2.append (if b1.size<=b1.bytes then aG b1 D else(0,b1,D)).2.1.last (aC E)).1,(if b1.size<=b1.bytes then aG b1 D else(0,b1,D)).2.1,((if b1.size<=b1.bytes then aG b1 D else(0,b1,D)).2.2.append (if b1.size<=b1.bytes then aG b1 D else(0,b1,D)).2.1.last (aC E)).2)
    else(0,⟨(if b1.size<=b1.bytes then aG b1 D else(0,b1,D)).2.1.size,(if b1.size<=b1.bytes then aG b1 D else(0,b1,D)).2.1.bf,IntKind.wrap .i64 ((if b1.size<=b1.bytes then aG b1 D else(0,b1,D)).2.1.bytes+((aC E).length:Nat)),(if b1.size<=b1.bytes then aG b1 D else(0,b1,D)).2.1.next⟩,((if b1.size<=b1.bytes then aG b1 D else(0,b1,D)).2.2.append (if b1.size<=b1.bytes then aG b1 D else(0,b1,D)).2.1.last (aC E)).2):=by
   unfold aK;rw[Zq (by simp[b8]),Zq e0]
  obtain⟨GL,g0,e2,g1⟩:=id b9;obtain⟨aL,nL,cL,EL,gL,g4,g5,g7⟩:=e2.row;rw[d3];refine⟨λw=>∃H O,(if b1.size<=b1.bytes then aG b1 D else(0,b1,D))=(0,H,O)/\H.bf≠[]/\cE b w a c H O F/\ak (fJ f) k w/\aU fP 5 x w K L W (aC E),?_,?_⟩
  ·refine⟨c,0,rfl,_,ae gL rfl,c,0,rfl,_,ae gL rfl,λA e1=>?_⟩
   have B:ai X A:=e1.af;have Q:=b9.ah B;have R:=p.ah B;have S:ak (fJ f) k A:=ai.af (m.then B);refine an.dec (λd6=>?_) (λd5=>⟨b1,D,by rw[Zq oM],d0,Q,S,R⟩);refine PC.ok (BU V Q) ?_;rintro _ C ⟨rfl,I,r⟩;have c2:ak (fJ f) k C:=S.then (r.mono λP _ e q=>e (.inl q));have a3:(if b1.size<=b1.bytes then aG b1 D else(0,b1,D))=aG b1 D:=Zx oM;rw[a3];refine⟨_,rfl,an.dX (λa4=>?_) (λT=>⟨_,_,by rw[<-T],rk T,I,c2,R.af r λP e z=>z (.inr e)⟩)⟩;rw[Zx a4];exact Ok.mk ⟨rfl,I.mono λP e=>.inl e,c2⟩
  ·rintro _ A ⟨H,O,a3,e3,Q,S,R⟩ C e4
   rw[a3];have r:ai A C:=e4.af;have I:=Q.ah r;have e5:=R.ah r;obtain⟨G3,e6,U,J⟩:=id I;obtain⟨f4,n3,f5,E3,e7,-,-,-⟩:=U.row;refine⟨λP=>P≠c,c,0,rfl,λhs=>hs rfl,_,ae e7 rfl,PC.ok (FP (V.ah I.gr) U e3) ?_⟩;rintro _ w4 ⟨rfl,t⟩;have s:=e5.ah t;have e8:Row fP 1 w4 x K L (aC E):=s.row (bytes:=1) dC ba;refine⟨_,rfl,t.af,PC.ok ((e6.ah t).append e8 (λg=>s.Pw g) λP e=>.inr (.inl (.inr e))) ?_⟩;rintro _ w5 ⟨rfl,b2,k5⟩;have l:=(U.ah t).af k5 λP e z=>z (.inr e);have c7:ak (fJ f) k w5:=((S.ah r).ah t).then (k5.mono λP _ e q=>e (.inl (.inl q)));refine⟨_,rfl,k5.mono λP _ e g=>e (.inr (g▸U.self)),?_⟩;rw[Zq (λj:((0,H,O):Int×dh×al).1≠0=>j rfl)];refine an.dX (λa4=>?_) (λT=>?_)
   ·rw[Zx a4]
    exact Ok.mk ⟨rfl,cE.mono (X:=F) ⟨G3,b2,l,J⟩ λP e=>.inl e,c7⟩
   ·rw[Zq (by simpa using T)]
    obtain⟨b5,n5,c5,E5,c8,b0,c9⟩:=l.body;refine⟨c,0,rfl,_,ae c8 rfl,c,0,rfl,PS.mk c8 sM λw6 k6 s6 g6=>Ok.mk ⟨rfl,?_,c7.then (k6.mono λP _ e q=>(J P (e▸l.self)).2 (.inl q))⟩⟩;rw[b3]at g6;refine cE.mono (X:=F) ⟨G3,b2.fC k6 (λP e=>⟨.inr (e▸l.self),(J P (e▸l.self)).1⟩) (λP e=>⟨.inl e,by have:=(e.elim (cE.aF (X:=F) ⟨G3,b2,l,J⟩ P) (l.aF P):P<w5.heap.size);omega⟩),⟨⟨b5,n5,c5,E5,g6,b0.af k6 λP e g=>(c9 P e).2 g,c9⟩,l.self,λP e=>by have:=l.aF P e;omega,l.many,l.BS⟩,J⟩ λP e=>.inl e
section
variable {D:al}
def al.Ok.gone(P:D.Ok):D.gone.Ok:=⟨P.most,P.fits,P.many,P.tidy,P.names,P.MG,P.yM,P.yN⟩
def al.Ok.cD(P:D.Ok)(a:D.dies=false):D.cD.Ok:=by
 unfold al.cD;split
 ·rename_i b
  have d:=P.yM;have e:=P.yN;have f:D.left≠0:=by intro c;simp[al.dies,b,c]at a
  exact⟨P.most,P.fits,P.many,P.tidy,P.names,P.MG,by show 0<=D.left-1;omega,by show aP (D.left-1);unfold aP at*;omega⟩
 ·exact P
def al.Ok.op(a:D.Ok){P:al->Int×al}(c:∀b:al,b.Ok->(P b).2.Ok):(D.op P).2.Ok:=by
 unfold al.op
 cases d:D.dies with
 |true=>exact a.gone
 |false=>exact c _ (a.cD d)
def al.Ok.vr(a:D.Ok)(b:∀P,ax D.files v=some P->(f9 D P).2.Ok):(al.vr v f9 D).2.Ok:=by
 unfold al.vr;split
 ·exact a
 ·rename_i P c;exact b P c
def al.Ok.create(b:D.Ok)(a:ByteArray):(D.create a).2.Ok:=b.op λd P=>by
 cases c:cF a with
 |false=>rw[Zq sM];exact P
 |true=>
  rw[Zx rfl];split
  ·exact P
  ·split
   ·exact P
   ·exact P.put c (by have:=P.fits;simpa using this) oM (Q4 _)
def al.Ok.append(d:D.Ok)(e:ByteArray)(a:List UInt8):(D.append e a).2.Ok:=d.op λh P=>P.vr λb c=>by
 split
 ·exact P
 ·rename_i f
  have i:=P.fits;have g:=P.MG _ (bV c);unfold al.room at f;exact P.set c (by show(b.bytes++a).length+_<=_;rw[QX];omega) (by show b.synced<=(b.bytes++a).length;rw[QX];simp only at g;omega)
def al.Ok.sync(a:D.Ok)(b:ByteArray):(D.sync b).2.Ok:=a.op λd P=>P.vr λe c=>P.cut c _
def al.Ok.rename(f:D.Ok)(P d:ByteArray):(D.rename P d).2.Ok:=f.op λb a=>a.vr λg c=>by
 cases h:cF d with
 |false=>rw[Zq sM];exact a
 |true=>
  rw[Zx rfl];have i:=a.fits;have e:=kK (l:=b.files) (k:=P);rw[c]at e;simp only[Option.map_some,Option.getD_some]at e;have k:=lZ (l:=b.files) (k:=P) (by rw[c];rfl);have l:=a.many;have j:=a.MG _ (bV c);exact(a.del P).put h (by
   show g.bytes.length+dF (bI b.files P)<=b.most;unfold al.used at i;omega) (by show(bI b.files P).length<64;omega) j
end
def cR(P:List UInt8):cI:=⟨P,P.length,true⟩
structure bP (D:al):Prop where
 dead:D.dead=false
 lY:D.lY=false
section
variable {D E:al} {k:ByteArray} {l:List Int}
def Fh(D:al)(P:al->Int×al):D.op P=(15,D.gone)\/D.op P=P D.cD:=by
 unfold al.op;split
 ·exact .inl rfl
 ·exact .inr rfl
def bP.op(a:bP D)(P:al->Int×al):D.op P=P D:=by
 unfold al.op al.dies al.cD;rw[a.dead,a.lY]
 rfl
def bP.same(P:bP D)(a:E.dead=D.dead)(b:E.lY=D.lY):bP E:=⟨a.trans P.dead,b.trans P.lY⟩
def Fj(P:cI):P.cut P.bytes.length=cR P.bytes:=by
 have a:jN (P.bytes.length:Int) P.bytes.length=P.bytes.length:=by unfold jN;omega
 simp[cI.cut,a,cR]
def mV(D:al)(k:ByteArray):((D.create k).1≠0/\(D.create k).2.files=D.files)\/((D.create k).1=0/\cF k=true/\ax D.files k=none/\(D.create k).2.files=aJ D.files k ⟨[],0,false⟩):=by
 unfold al.create;rcases Fh D λD=>if cF k then(if(ax D.files k).isSome then(16,D)else if 64<=D.files.length then(12,D)else(0,D.bZ k ⟨[],0,false⟩))else(1,D)with h|h
 ·rw[h];exact .inl ⟨sM,rfl⟩
 ·rw[h]
  have P:=ey D;split
  ·rename_i a
   split
   ·exact .inl ⟨sM,P⟩
   ·split
    ·exact .inl ⟨sM,P⟩
    ·rename_i b _
     refine .inr ⟨rfl,a,?_,?_⟩
     ·rw[<-P];simpa using b
     ·show aJ D.cD.files k _=_;rw[P]
  ·exact .inl ⟨sM,P⟩
def bP.create(P:bP D)(k:ByteArray):bP (D.create k).2/\(cF k=true->ax D.files k=none->(D.create k).1=0\/(D.create k).1=12):=by
 unfold al.create;rw[P.op];split
 ·split
  ·rename_i d b;exact⟨P,λ_ a=>by rw[a]at b;cases b⟩
  ·split
   ·exact⟨P,λ_ _=>.inr rfl⟩
   ·exact⟨P.same rfl rfl,λ_ _=>.inl rfl⟩
 ·rename_i a;exact⟨P,λc=>Zz c a⟩
def tJ(D:al)(k:ByteArray)(P:al->cI->Int×al):((D.op (al.vr k P)).1≠0/\(D.op (al.vr k P)).2.files=D.files)\/∃a,ax D.files k=some a/\D.op (al.vr k P)=P D.cD a:=by
 rcases Fh D (al.vr k P)with h|h
 ·rw[h];exact .inl ⟨sM,rfl⟩
 ·rw[h]
  unfold al.vr;rw[ey];split
  ·exact .inl ⟨sM,ey D⟩
  ·rename_i a b;exact .inr ⟨a,b,rfl⟩
def bP.on(a:bP D)(b:ax D.files k=some Y)(P:al->cI->Int×al):D.op (al.vr k P)=P D Y:=by
 rw[a.op];unfold al.vr;rw[b]
def bP.Tt(P:bP D)(a:∀b,bP (f9 D b).2):bP (D.op (al.vr k f9)).2:=by
 rw[P.op];unfold al.vr;split
 ·exact P
 ·exact a _
def mW(D:al)(k:ByteArray)(a:List UInt8):((D.append k a).1≠0/\(D.append k a).2.files=D.files)\/((D.append k a).1=0/\∃P,ax D.files k=some P/\(D.append k a).2.files=aJ D.files k {P with bytes:=P.bytes++a}):=by
 unfold al.append;rcases tJ D k λD P=>if(a.length:Int)>D.room then(12,D)else(0,D.bZ k {P with bytes:=P.bytes++a})with b|⟨P,c,b⟩
 ·exact .inl b
 ·rw[b]
  split
  ·exact .inl ⟨sM,ey D⟩
  ·exact .inr ⟨rfl,P,c,by show aJ D.cD.files k _=_;rw[ey]⟩
def bP.append(P:bP D)(k:ByteArray)(a:List UInt8):bP (D.append k a).2/\∀b,ax D.files k=some b->(D.append k a).1=0\/(D.append k a).1=12:=by
 refine⟨?_,λb c=>?_⟩
 ·unfold al.append
  refine P.Tt λb=>?_;split
  ·exact P
  ·exact P.same rfl rfl
 ·unfold al.append
  rw[P.on c];split
  ·exact .inr rfl
  ·exact .inl rfl
def jO(D:al)(k:ByteArray):((D.sync k).1≠0/\(D.sync k).2.files=D.files)\/((D.sync k).1=0/\∃P,ax D.files k=some P/\(D.sync k).2.files=aJ D.files k (cR P.bytes)):=by
 unfold al.sync;rcases tJ D k λD P=>(0,D.bZ k (P.cut P.bytes.length))with a|⟨P,b,a⟩
 ·exact .inl a
 ·rw[a,Fj];exact .inr ⟨rfl,P,b,by show aJ D.cD.files k _=_;rw[ey]⟩
def bP.sync(P:bP D)(k:ByteArray):bP (D.sync k).2/\∀a,ax D.files k=some a->(D.sync k).1=0:=by
 refine⟨?_,λa b=>?_⟩
 ·unfold al.sync;exact P.Tt λa=>P.same rfl rfl
 ·unfold al.sync;rw[P.on b]
def yK(D:al)(k:ByteArray):(D.delete k).2.files=D.files\/(D.delete k).2.files=bI D.files k:=by
 unfold al.delete;rcases tJ D k λD a=>(0,D.ou k)with P|⟨a,b,P⟩
 ·exact .inl P.2
 ·rw[P];exact .inr (by show bI D.cD.files k=_;rw[ey])
def bP.delete(P:bP D)(k:ByteArray):bP (D.delete k).2/\((D.delete k).2.files=bI D.files k\/(ax D.files k=none/\(D.delete k).2.files=D.files)):=by
 unfold al.delete;refine⟨P.Tt λb=>P.same rfl rfl,?_⟩;rw[P.op];unfold al.vr;split
 ·rename_i a;exact .inr ⟨a,rfl⟩
 ·exact .inl rfl
def vu(k:ByteArray)(D E:al):Prop:=Tidy E.files/\∀P,P≠k->ax E.files P=ax D.files P
def vu.refl(P:Tidy D.files):vu k D D:=⟨P,λ_ _=>rfl⟩
def vu.of(P:vu k D E){a:al}(b:a.files=E.files):vu k D a:=⟨by rw[b];exact P.1,λc d=>by rw[b];exact P.2 c d⟩
def vu.put(P:vu k D E){a:al}(b:a.files=aJ E.files k Y):vu k D a:=⟨by rw[b];exact P.1.aJ _ _,λd c=>by rw[b,bN,Zq (by simpa using c)];exact P.2 d c⟩
def vu.del(P:vu k D E){F:al}(a:F.files=bI E.files k):vu k D F:=⟨by rw[a];exact P.1.bI _,λc b=>by rw[a,iy P.1,Zq (by simpa using b)];exact P.2 c b⟩
def vu.clean(P:vu aE D E):vu aE D (dw E).2:=by
 unfold dw;split
 ·rcases yK E aE with e|e
  ·exact P.of e
  ·exact P.del e
 ·exact P
def xy:aE≠ck:=λP=>by have:=tn;rw[P]at this;simp at this
def ON(D:al)(l:List Int)(P:Int×al):Prop:=(P.1≠0/\vu aE D P.2)\/
  (P.1=0/\l.length<=64/\Tidy P.2.files/\ax P.2.files ck=some (cR (br l))/\∀a,a≠aE->a≠ck->ax P.2.files a=ax D.files a)
def ON.step{i k:Nat}{r:Int×al}(g:kJ l i E=r)(a:r.1≠0->vu aE D r.2)(b:r.1=0->ON D l (ks l (i+1) k r.2)):ON D l (ks l i (k+1) E):=by
 rw[ks,g];split
 ·rename_i P;exact .inl ⟨P,(a P).clean⟩
 ·rename_i P;exact b (by simpa using P)
def MF(o:Tidy D.files)(l:List Int):ON D l (bJ D l):=by
 unfold bJ;split
 ·exact .inl ⟨sM,vu.refl o⟩
 rename_i z;have i:vu aE D (dw D).2:=(vu.refl o).clean;refine ON.step (r:=dw D) rfl (λ_=>i) λ_=>?_;generalize(dw D).2=e at i;have B:=mV e aE;refine ON.step (r:=e.create aE) rfl (λd=>?_) λu=>?_
 ·rcases B with B|B
  ·exact i.of B.2
  ·exact Zz B.1 d
 rcases B with B|⟨_,_,_,B⟩
 ·exact Zz u B.1
 have k:vu aE D (e.create aE).2:=i.put B;have p:ax (e.create aE).2.files aE=some ⟨[],0,false⟩:=by rw[B,bN];simp
 generalize(e.create aE).2=f at k p;have b:=mW f aE (br l);refine ON.step (r:=f.append aE (br l)) rfl (λd=>?_) λv=>?_
 ·rcases b with b|b
  ·exact k.of b.2
  ·exact Zz b.1 d
 rcases b with b|⟨_,j,c,b⟩
 ·exact Zz v b.1
 rw[p]at c;cases c
 have m:vu aE D (f.append aE (br l)).2:=k.put b;have q:ax (f.append aE (br l)).2.files aE=some ⟨br l,0,false⟩:=by rw[b,bN];simp
 generalize(f.append aE (br l)).2=g at m q;have F:=jO g aE;refine ON.step (r:=g.sync aE) rfl (λd=>?_) λw=>?_
 ·rcases F with F|F
  ·exact m.of F.2
  ·exact Zz F.1 d
 rcases F with F|⟨_,j,c,F⟩
 ·exact Zz w F.1
 rw[q]at c;cases c
 have h:vu aE D (g.sync aE).2:=m.put F;have r:ax (g.sync aE).2.files aE=some (cR (br l)):=by rw[F,bN];simp
 generalize(g.sync aE).2=P at h r;have a:((P.rename aE ck).1≠0/\(P.rename aE ck).2.files=P.files)\/((P.rename aE ck).1=0/\(P.rename aE ck).2.files=aJ (bI P.files aE) ck (cR (br l))):=by
  unfold al.rename;rcases tJ P aE λD j=>if cF ck then(0,(D.ou aE).bZ ck {j with xm:=true})else(1,D)with n|⟨j,c,n⟩
  ·exact .inl n
  ·rw[n,Zx yL]
   rw[r]at c;cases c
   exact .inr ⟨rfl,by show aJ (bI P.cD.files aE) ck _=_;rw[ey];rfl⟩
 refine ON.step (r:=P.rename aE ck) rfl (λd=>?_) λx=>?_
 ·rcases a with a|a
  ·exact h.of a.2
  ·exact Zz a.1 d
 rcases a with a|⟨_,a⟩
 ·exact Zz x a.1
 refine .inr ⟨rfl,oM,?_,?_,λs t y=>?_⟩
 ·show Tidy (P.rename aE ck).2.files;rw[a];exact(h.1.bI _).aJ _ _
 ·show ax (P.rename aE ck).2.files ck=_;rw[a,bN];simp
 ·show ax (P.rename aE ck).2.files s=_
  rw[a,bN,Zq (by simpa using y),iy h.1,Zq (by simpa using t)];exact h.2 s t
def OO(P:Int×al):Prop:=bP P.2/\(P.1=0\/P.1=3\/P.1=12)
def bP.clean(P:bP D):bP (dw D).2:=by
 unfold dw;split
 ·exact(P.delete _).1
 ·exact P
def HR(b:bP D)(P:Tidy D.files):(dw D).1=0/\ax (dw D).2.files aE=none/\Tidy (dw D).2.files:=by
 unfold dw;split
 ·rename_i a
  obtain⟨e,c⟩:=Option.isSome_iff_exists.1 a;have d:D.delete aE=(0,D.ou aE):=by unfold al.delete;rw[b.on c]
  rw[d];exact⟨rfl,by show ax (bI _ _) _=_;rw[iy P];simp,P.bI _⟩
 ·rename_i a;exact⟨rfl,by simpa using a,P⟩
def OO.step{i k:Nat}{r:Int×al}(g:kJ l i E=r)(P:bP r.2)(a:r.1=0\/r.1=3\/r.1=12)(b:r.1=0->OO (ks l (i+1) k r.2)):OO (ks l i (k+1) E):=by
 rw[ks,g];split
 ·exact⟨P.clean,a⟩
 ·rename_i c;exact b (by simpa using c)
def bP.bJ(i:bP D)(s:Tidy D.files)(l:List Int):OO (bJ D l):=by
 unfold Go.Proofs.YtkpomgifkloklacGreatDoor.bJ;split
 ·exact⟨i,.inr (.inl rfl)⟩
 obtain⟨z1,p,t⟩:=HR i s;have j:=i.clean;refine OO.step (r:=dw D) rfl j (.inl z1) λ_=>?_;generalize(dw D).2=e at j p t;have P:=mV e aE;obtain⟨k,u⟩:=j.create aE;refine OO.step (r:=e.create aE) rfl k ((u JD p).imp id .inr) λv=>?_;rcases P with P|⟨_,_,_,P⟩
 ·exact Zz v P.1
 have q:ax (e.create aE).2.files aE=some ⟨[],0,false⟩:=by rw[P,bN];simp
 generalize(e.create aE).2=f at k q;have a:=mW f aE (br l);obtain⟨m,w⟩:=k.append aE (br l);refine OO.step (r:=f.append aE (br l)) rfl m ((w _ q).imp id .inr) λx=>?_;rcases a with a|⟨_,b,A,a⟩
 ·exact Zz x a.1
 have g:∃b,ax (f.append aE (br l)).2.files aE=some b:=by rw[a,bN];simp
 generalize(f.append aE (br l)).2=h at m g;obtain⟨B,g⟩:=g;have c:=jO h aE;obtain⟨d,y⟩:=m.sync aE;refine OO.step (r:=h.sync aE) rfl d (.inl (y _ g)) λz=>?_;rcases c with c|⟨_,b,C,c⟩
 ·exact Zz z c.1
 have r:ax (h.sync aE).2.files aE=some (cR b.bytes):=by rw[c,bN];simp
 generalize(h.sync aE).2=n at d r;have o:n.rename aE ck=(0,(n.ou aE).bZ ck {cR b.bytes with xm:=true}):=by
  unfold al.rename;rw[d.on r,Zx yL]
 refine OO.step (r:=n.rename aE ck) rfl (by rw[o];exact d.same rfl rfl) (.inl (by rw[o])) λE=>?_;rw[o];exact⟨d.same rfl rfl,.inl rfl⟩
end
abbrev sC:=List (Int×List aj)
def pG(P:sC):List Int:=P.map (·.1)
def fK(P:sC)(a:List aj):List aj:=(P.map (·.2)).flatten++a
structure dt (D:al) (A:sC) (no:Int) (l:List aj) (k:Nat):Prop where
 tidy:Tidy D.files
 full:∀x∈A,ax D.files (aA x.1)=some (cR (aC x.2))
 last:∃s,ax D.files (aA no)=some ⟨aC l,s,true⟩/\(aC (l.take k)).length<=s/\s<=(aC l).length
 kl:k<=l.length
 TI:ax D.files ck=some (cR (br (pG A++[no])))
 Hh:∀n∈pG A++[no],1<=n/\n<1000000000000
 Cw:(pG A++[no]).Pairwise (·<·)
 evs:∀e∈fK A l,e.Ok/\e.aN.length<=64
 many:A.length+1<=64
structure FT (V:dh) (A:sC) (no:Int) (l:List aj):Prop where
 bf:V.bf=pG A++[no]
 bytes:V.bytes=((aC l).length:Nat)
 next:no<V.next/\V.next<=1000000000000
def fh{n:Int}(d:cF (aA n)=true\/0<=n/\n<1000000000000):aA n≠ck/\aA n≠aE:=by
 have b:ck.data.toList.take 4≠dq:=by decide+kernel
 have c:aE.data.toList.take 4≠dq:=by decide+kernel
 have P:(aA n).data.toList.take 4=dq\/(aA n).data.toList=[]:=by
  unfold aA;rw[pH];unfold aO;split
  ·exact .inr rfl
  ·exact .inl (by simp[dq])
 refine⟨λa=>?_,λa=>?_⟩
 ·rw[a]at P
  rcases P with P|P
  ·exact b P
  ·revert P;decide+kernel
 ·rw[a]at P
  rcases P with P|P
  ·exact c P
  ·revert P;decide+kernel
def fu{a P:Int}(b:0<=a/\a<1000000000000)(c:aA P=aA a):P=a:=FU b.1 b.2 (JV c)
def sD(a:0<=e):cF (aA e)=true↔e<1000000000000:=by
 constructor
 ·intro P
  by_cases b:e<1000000000000
  ·exact b
  ·have:aA e=dY []:=by unfold aA aO;rw[Zx (.inr oM)]
   have c:cF (dY [])=false:=by decide+kernel
   rw[this,c]at P;cases P
 ·intro P;exact FV a P
def zD(P:sC)(no:Int)(a b:List aj):fK (P++[(no,a)]) b=fK P a++b:=by simp[fK]
section
variable {D E:al} {A:sC} {no:Int} {l x:List aj} {k j:Nat} {V:dh}
def dt.same(P:dt D A no l k)(d:Tidy E.files)(a:∀b∈pG A++[no],ax E.files (aA b)=ax D.files (aA b))(e:ax E.files ck=ax D.files ck):dt E A no l k:=
 ⟨d,λx c=>(a x.1 (ZV _ (Xk.2 ⟨x,c,rfl⟩))).trans (P.full x c),by
  obtain⟨f,g,h⟩:=P.last;exact⟨f,(a no (ZW _ (List.mem_singleton.2 rfl))).trans g,h⟩,P.kl,e.trans P.TI,P.Hh,P.Cw,P.evs,P.many⟩
def dt.files(a:dt D A no l k)(P:E.files=D.files):dt E A no l k:=a.same (by rw[P];exact a.tidy) (λ_ _=>by rw[P]) (by rw[P])
def dt.pI(P:dt D A no l k):1<=no/\no<1000000000000:=P.Hh no (ZW _ (List.mem_singleton.2 rfl))
def dt.SG(a:dt D A no l k):∀P∈A,aA P.1≠aA no:=λP c d=>by
 have e:=a.pI;have:=fu ⟨oM,e.2⟩ d;have b:=a.Cw;rw[List.pairwise_append]at b;have:=b.2.2 P.1 (Xk.2 ⟨P,c,rfl⟩) no (List.mem_singleton.2 rfl);omega
def dt.put(P:dt D A no l k){a:List aj}{s d:Nat}(b:E.files=aJ D.files (aA no) ⟨aC a,s,true⟩)(g:d<=a.length)(h:(aC (a.take d)).length<=s)(i:s<=(aC a).length)(j:∀c∈a,c.Ok/\c.aN.length<=64):dt E A no a d:=
 ⟨by rw[b];exact P.tidy.aJ _ _,λe f=>by rw[b,bN,Zq (by simpa using P.SG e f)];exact P.full e f,⟨s,by rw[b,bN];simp,h,i⟩,g,by
  have:=(fh (n:=no) (.inr (by have:=P.pI;omega))).1;rw[b,bN,Zq (by simpa using this.symm)];exact P.TI,P.Hh,P.Cw,λc b=>by
  rcases Q6.1 b with F|F
  ·exact P.evs c (ZV _ F)
  ·exact j c F,P.many⟩
def dt.Up(a:dt D A no l k):∀P∈l,P.Ok/\P.aN.length<=64:=λP b=>a.evs P (ZW _ b)
def dt.sE(P:FT V A no l):V.last=aA no:=by unfold dh.last;rw[P.bf];simp[aA]
def dt.mono(P:dt D A no l k)(a:j<=k):dt D A no l j:=by
 obtain⟨b,c,d,e⟩:=P.last;exact⟨P.tidy,P.full,⟨b,c,Xx (IA a) d,e⟩,Xx a P.kl,P.TI,P.Hh,P.Cw,P.evs,P.many⟩
def BV(P:dt D A no l k):((D.sync (aA no)).1=0/\dt (D.sync (aA no)).2 A no l l.length)\/((D.sync (aA no)).1≠0/\dt (D.sync (aA no)).2 A no l k):=by
 rcases jO D (aA no)with⟨a,b⟩|⟨a,e,c,b⟩
 ·exact .inr ⟨a,P.files b⟩
 ·obtain⟨f,d,g,h⟩:=P.last
  rw[d]at c;cases c
  exact .inl ⟨a,P.put b (Q4 _) (by rw[List.take_length];exact Q4 _) (Q4 _) P.Up⟩
def sF(n:Tidy D.files)(o:0<=V.next):((bt V D).1≠0/\(bt V D).2.1=V/\Tidy (bt V D).2.2.files/\∀x,x≠aA V.next->x≠aE->ax (bt V D).2.2.files x=ax D.files x)\/
  ((bt V D).1=0/\V.next<1000000000000/\V.bf.length+1<=64/\ax D.files (aA V.next)=none/\(bt V D).2.1=⟨V.size,V.bf++[V.next],0,V.next+1⟩/\Tidy (bt V D).2.2.files/\ax (bt V D).2.2.files (aA V.next)=some (cR [])/\
   ax (bt V D).2.2.files ck=some (cR (br (V.bf++[V.next])))/\∀x,x≠aA V.next->x≠aE->x≠ck->ax (bt V D).2.2.files x=ax D.files x):=by
 unfold bt;dsimp only;rw[show dY (aO V.next)=aA V.next from rfl];rcases mV D (aA V.next)with⟨f,g⟩|⟨f,g,w,p⟩
 ·rw[Zx f]
  exact .inl ⟨f,rfl,by show Tidy (D.create _).2.files;rw[g];exact n,λx _ _=>by show ax (D.create (aA V.next)).2.files x=_;rw[g]⟩
 have q:=(sD o).1 g;obtain⟨y,nt⟩:=fh (n:=V.next) (.inr ⟨o,q⟩);rw[Zq (show¬(D.create (aA V.next)).1≠0 by simpa using f)];have h:vu (aA V.next) D (D.create (aA V.next)).2:=(vu.refl n).put p;have r:ax (D.create (aA V.next)).2.files (aA V.next)=some ⟨[],0,false⟩:=by rw[p,bN];simp
 generalize(D.create (aA V.next)).2=a at h r;unfold jX;dsimp only;rw[show dY (aO V.next)=aA V.next from rfl];have b:∀{F:al},Tidy F.files->(∀x,x≠aA V.next->x≠aE->ax F.files x=ax D.files x)->Tidy (F.delete (aA V.next)).2.files/\∀x,x≠aA V.next->x≠aE->ax (F.delete (aA V.next)).2.files x=ax D.files x:=by
  intro F m s;rcases yK F (aA V.next)with e|e
  ·rw[e];exact⟨m,s⟩
  ·rw[e];exact⟨m.bI _,λx P c=>by rw[iy m,Zq (by simpa using P)];exact s x P c⟩
 rcases jO a (aA V.next)with⟨i,d⟩|⟨i,E,t,d⟩
 ·rw[Zx i]
  have:=b (F:=(a.sync (aA V.next)).2) (by rw[d];exact h.1) λx P _=>by rw[d];exact h.2 x P
  exact .inl ⟨i,rfl,this⟩
 rw[r]at t;cases t
 have j:vu (aA V.next) D (a.sync (aA V.next)).2:=h.put d;have u:ax (a.sync (aA V.next)).2.files (aA V.next)=some (cR []):=by rw[d,bN];simp
 rw[Zq (show¬(a.sync (aA V.next)).1≠0 by simpa using i)];generalize(a.sync (aA V.next)).2=z at j u;rcases MF j.1 (V.bf++[V.next])with⟨k,l⟩|⟨k,l,A,B,v⟩
 ·rw[Zx k]
  have:=b (F:=(bJ z (V.bf++[V.next])).2) l.1 λx P c=>(l.2 x c).trans (j.2 x P);exact .inl ⟨k,rfl,this⟩
 ·rw[Zq (by simpa using k)]
  refine .inr ⟨rfl,q,by simpa using l,w,?_,A,(v _ nt y).trans u,B,λx P c C=>(v x c C).trans (j.2 x P)⟩;rw[wrap_i64 bb]
def dt.bt(c:dt D A no l l.length)(j:FT V A no l):((bt V D).1≠0/\(bt V D).2.1=V/\dt (bt V D).2.2 A no l l.length)\/
  ((bt V D).1=0/\(bt V D).2.1.size=V.size/\dt (bt V D).2.2 (A++[(no,l)]) V.next [] 0/\FT (bt V D).2.1 (A++[(no,l)]) V.next []/\(bt V D).2.1.next=V.next+1):=by
 have H:=c.pI;have I:=j.next;have q:∀P∈pG A++[no],P<V.next:=λP b=>by
  rcases Q6.1 b with a|a
  ·have k:=c.Cw
   rw[List.pairwise_append]at k;have:=k.2.2 P a no (List.mem_singleton.2 rfl);omega
  ·have:=List.mem_singleton.1 a;omega
 have m:∀P∈pG A++[no],aA P≠aA V.next:=λP b e=>by
  have a:=c.Hh P b;have k:=q P b;have:=fu (a:=P) ⟨oM,a.2⟩ e.symm;omega
 have f:∀P∈pG A++[no],aA P≠ck/\aA P≠aE:=λP b=>fh (.inr (by have:=c.Hh P b;omega));have u:ck≠aA V.next:=λe=>by
  by_cases J:V.next<1000000000000
  ·exact(fh (n:=V.next) (.inr oM)).1 e.symm
  ·have v:aA V.next=dY []:=by unfold aA aO;rw[Zx (.inr oM)]
   rw[v]at e
   revert e;decide+kernel
 rcases sF (V:=V) c.tidy oM with⟨n,r,h,o⟩|⟨n,r,h,o,g,w,x,s,t⟩
 ·exact .inl ⟨n,r,c.same h (λP b=>o _ (m P b) (f P b).2) (o _ u λe=>xy e.symm)⟩
 ·rw[j.bf]at h s
  have y:A.length+1+1<=64:=by simpa[pG]using h
  have i:pG (A++[(no,l)])=pG A++[no]:=by simp[pG]
  refine .inr ⟨n,by rw[g],⟨w,λp z=>?_,⟨0,x,by simp[aC],Qj _⟩,Q4 _,by rw[i];exact s,?_,?_,by rw[zD,List.append_nil];exact c.evs,by simpa using y⟩,⟨by rw[g,i,j.bf],by rw[g];simp[aC],by rw[g];simp only;omega⟩,by rw[g]⟩
  ·rcases Q6.1 z with a|a
   ·have d:p.1∈pG A++[no]:=ZV _ (Xk.2 ⟨p,a,rfl⟩)
    rw[t _ (m _ d) (f _ d).2 (f _ d).1];exact c.full p a
   ·rw[List.mem_singleton]at a
    subst a;have d:no∈pG A++[no]:=ZW _ (List.mem_singleton.2 rfl);obtain⟨B,C,E,K⟩:=c.last;rw[List.take_length]at E;have F:B=(aC l).length:=oM
    show ax _ (aA no)=_;rw[t _ (m _ d) (f _ d).2 (f _ d).1,C,F];rfl
  ·rw[i]
   intro P b;rcases Q6.1 b with a|a
   ·exact c.Hh P a
   ·have:=List.mem_singleton.1 a;omega
  ·rw[i,List.pairwise_append]
   exact⟨c.Cw,List.pairwise_singleton _ _,λP b L d=>by have:=List.mem_singleton.1 d;have:=q P b;omega⟩
def dt.begin(d:dt D A no l k)(a:FT V A no l):((aG V D).1≠0/\(aG V D).2.1=V/\dt (aG V D).2.2 A no l k)\/
  ((aG V D).1=0/\(aG V D).2.1.size=V.size/\dt (aG V D).2.2 (A++[(no,l)]) V.next [] 0/\FT (aG V D).2.1 (A++[(no,l)]) V.next []/\(aG V D).2.1.next=V.next+1):=by
 have e:¬V.bf=[]:=by rw[a.bf];simp
 have f:aG V D=if(D.sync (aA no)).1≠0 then((D.sync (aA no)).1,V,(D.sync (aA no)).2)else Go.Proofs.YtkpomgifkloklacGreatDoor.bt V (D.sync (aA no)).2:=by
  unfold aG;rw[Zq e,dt.sE a]
 rw[f];rcases BV d with⟨P,c⟩|⟨P,c⟩
 ·rw[Zq (by simpa using P)]
  rcases c.bt a with⟨g,h,i⟩|b
  ·exact .inl ⟨g,h,i.mono d.kl⟩
  ·exact .inr b
 ·rw[Zx P];exact .inl ⟨P,rfl,c⟩
end
end Go.Proofs.YtkpomgifkloklacGreatDoor
namespace Go.aw
open Go
abbrev FW(P:Option Nat):Fence:={Fence.wide with round:=P}
variable{F:Act}{S:Array Oper}{n:Array Value}{L:Bool}{h2 h3:Bool->XU}{a0:Code}{z:XT}{e3:Exit}{d2:Exit->Act->XU}{a7:Func}{y:FuncId}{b2:List Nat}{a1 e2:List Value}{a c i:Nat}{f:XN}{c4:Obj}{O:Oper}{Q:Operand}{e1:Operand->Value}{c5:Option Nat}{h:Program}{m:XR}{b k:World}{T:bU}{N:cQ}{b8:gN}{e0:kC}
def sI:CallsIn (FW c5) a h y n b z↔Calls h y n b z:=
 ⟨λP=>callsIn_wide.1 (show CallsIn Fence.wide a h y n b z from P),λP=>show CallsIn (FW c5) a h y n b z from(callsIn_wide (n:=a)).2 P⟩
def PI(P:Nat):(FW c5).room P:=λ_ a=>by simp[Fence.wide]at a
def LI{P:String}(c:Rows h P n b m):RowsIn (FW c5) a h P n b m:=by
 intro d cs _;obtain⟨e,f,g,i⟩:=c d cs;exact⟨e,f,g,(stepsIn_wide (P:=h)).2 i⟩
def uA(P:Oper):Bool:=match P.op with
 | .defer _=>false
 |_=>true
def uA.out(P:uA O=true):∀a,O.op≠.defer a:=by
 intro a b;unfold uA at P;rw[b]at P;cases P
section
variable {P:Program} {ro:Option Nat} {n:Nat}
def Kh{next:Act->XU}(d:ro=none\/uA O=true)(a:O.wp P F b next d2):O.wpIn (FW ro) n P F b next d2:=by
 refine⟨λ_ _=>trivial,?_⟩;have f:O.semAt (FW ro).round F.eval=execOp F.eval O:=by
  rcases d with rfl|d
  ·rfl
  ·exact Oper.semAt_eq _ _ _ (uA.out d)
 rw[f];unfold Oper.wp at a;generalize(execOp F.eval O).run P b=g at a⊢
 cases g with
 |ok e h=>
  cases e with
  |value i=>exact a
  |skip=>exact a
  |defer j=>exact a
  |enter k c=>exact⟨λa=>by simp[Fence.wide]at a,sI.2 a⟩
  |row row c=>exact⟨λa=>by simp[Fence.wide]at a,LI a⟩
  |_=>exact a.elim
 |halt e h=>cases e<;>first|exact a|exact a.elim
def pS{b:Array Oper}{g:Exit->Act->XU}(h:∀d c,¬g .outgrown d c)(e:ro=none\/∀i∈b.toList,uA i=true):∀(f:List Nat) (d:Act) (c:World),wpOps P b g f d c->wpOpsIn (FW ro) n P b g f d c
 |[],d,c,a=>a
 |l::f,d,c,a=>by
  unfold wpOps at a;unfold wpOpsIn
  cases j:b[l]? with
  |none=>rw[j]at a;exact pS h e f d c a
  |some i=>
   rw[j]at a;simp only at a⊢;split
   ·rename_i k
    rw[Zx k]at a;rcases a with a|⟨-,m,o,a⟩
    ·have p:i.wp P d c (wpOpsIn (FW ro) n P b g f) g:=Oper.wp_mono (λd c a=>pS h e f d c a) a
     refine Kh ?_ p;rcases e with e|e
     ·exact .inl e
     ·refine .inr (e i ?_)
      obtain⟨q,rfl⟩:=Q5.1 j;simp
    ·exact Zz a (h m o)
   ·rename_i k
    rw[Zq k]at a;exact⟨λ_ _=>trivial,pS h e f _ c a⟩
end
section
variable {F:Fence} {n:Nat} {P:Program} {Q:Exit->Act->XU} {a:Act} {w:World} {b:Frame} {k:List Item} {cs:List Frame}
def gi:step P (lone (b.atR a (.code (.scope a0)::k)) cs w)= .next (lone (b.atR a (.code a0:: .inScope a0::k)) cs w):=
 step_lone_go (by simp[stepG,stepG.exec,Frame.atR])
def Bj:step P (lone (b.atR a (.inScope a0::k)) cs w)= .next (lone (b.atR a k) cs w):=
 step_lone_go (by simp[stepG,stepG.exec,Frame.atR])
def I_(o:a0.wpIn F n P (Exit.noGoto Q) a w):(Code.scope a0).wpIn F n P Q a w:=by
 intro b k cs p h i;have e:(lone (b.atR a (.code (.scope a0)::k)) cs w).fenced P F:=fenced_calm h i rfl;obtain⟨q,c,d,f,g⟩:=o b (.inScope a0::k) cs p h i
 cases q with
 |normal=>exact⟨.normal,c,d,f,.head e gi (StepsIn.trans g (.one (fenced_calm h i rfl) Bj))⟩
 |exit id=>
  have m:exitTo id (.inScope a0::k)=exitTo id k:=by simp[exitTo]
  exact⟨.exit id,c,d,f,λr j=>.head e gi (g.1 r (by rw[m];exact j)),
   λl j=>let⟨k₁,h1,h2⟩:=g.2 l (by rw[m];exact j);⟨k₁,h1,.head e gi h2⟩⟩
 |goto s=>exact f.elim
 |ret=>exact⟨_,c,d,f,.of_steps (.one e gi) g⟩
 |panic t=>exact⟨_,c,d,f,.of_steps (.one e gi) g⟩
 |outgrown=>exact⟨_,c,d,f,.of_steps (.one e gi) g⟩
def wpIn_loop_ghost(b:Nat->Act->XU)(c:Nat)(g:b c a w)(d:∀e a w,b e a w->a0.wpIn F n P (Exit.then (λh i=>∃l,l<e/\b l h i) Q) a w):(Code.loop a0).wpIn F n P Q a w:=by
 refine wpIn_loop (λa w=>∃e,b e a w) (λa w=>leastOf (λe=>b e a w)) ⟨c,g⟩ ?_;intro a w m;refine wpIn_mono (d _ a w (leastOf_spec m).1) ?_;intro o h i f
 cases o with
 |normal=>
  obtain⟨j,p,k⟩:=f;exact show(∃n,b n h i)/\leastOf (λn=>b n h i)<leastOf (λn=>b n a w)from⟨⟨j,k⟩,Nat.lt_of_le_of_lt ((leastOf_spec ⟨j,k⟩).2 j k) p⟩
 |exit id=>exact f
 |goto q=>exact f
 |ret=>exact f
 |panic r=>exact f
 |outgrown=>exact f
end
def Ja(A:h.follows .mixedOrders=true){n id:Nat}(B:∀a,a∈writes (.region id S L)->a<n)(p:Rel n T N F)(P:D h e0 (.region id S L) b8 T N F.defers b):
  (L=false->wpOps h S (dd n T N (writes (.region id S L)) b8) (List.range S.size) F b)/\
  (L=true->∀a,wpOps h S (dd n T N (writes (.region id S L)) b8) (Region.schedule (h.follows .mixedOrders) S a) F {b with drawn:=b.drawn+1}):=by
 have m:∀j∈S.toList,∀k,j.dst=some k->k<n/\k∈writes (.region id S L):=λj g k y=>⟨B k (jE g y),jE g y⟩
 have q:∀r a,iR S r=some a->a<n:=by
  intro r a l;unfold iR at l
  cases g:S[r]? with
  |none=>rw[g]at l;simp at l
  |some j=>
   rw[g]at l;have C:j∈S.toList:=by
    have:=Q5.1 g;obtain⟨O,rfl⟩:=this;simp
   exact(m j C a l).1
 cases L with
 |false=>
  refine⟨λ_=>?_,λP=>by cases P⟩;rw[List.range_eq_range',<-XK,wpOps_eq_wpList S.toList 0 sM];exact xF q S.toList N F b m p (λ_ _=>rfl) P
 |true=>
  refine⟨λP=>(by cases P),λ_ a=>?_⟩;simp only[Region.schedule,A,Bool.true_or,if_true];refine wpAny_sound S.size a _ F _ ?_;unfold D at P;simp only at P;split at P
  ·obtain⟨s,P⟩:=eR.out P
   simp only[Region.lexB,QK]at s;have E:=pq (B0:=T) (e0:=N) (W:=writes (.region id S true)) q S.toList N F m p (λ_ _=>rfl) P;have H:wpQuiet h S (bO b) (λo=>∀c,bO b c->dd n T N (writes (.region id S true)) b8 .normal o c) S.toList F:=by
    refine jx ?_ _ _ E;rintro o ⟨I,t,u,J,K⟩ c f;exact⟨T,I,t,J,by rw[u];exact K c f⟩
   refine wpAny_of_quiet (C:=bO b) (Q:=λo=>∀c,bO b c->dd n T N (writes (.region id S true)) b8 .normal o c) (λ_ c f P=>P c f) _ _ _ _ ⟨1,rfl⟩ ?_;have:=wpAnyQ_lex (C:=bO b) (md:=.any) s.1 S.toList 0 (Array.replicate S.size false) F sM (by simpa using s.2) H;simpa using this
  ·obtain⟨M,P⟩:=eR.out P
   have d:∀(e:Bool) (i:XN) (v:Nat->Bool),ue h T S e i (λw x b=>∀T N,b8 (.panic w) T N x b) (λN x b=>b8 .normal T N x b) v S.size (Array.replicate S.size false) N F.defers (b.drewN 1)->
     wpAny h .any S (dd n T N (writes (.region id S true)) b8) S.size (Array.replicate S.size false) F {b with drawn:=b.drawn+1}:=λe i v P=>
    ng (λw F b P=>zr.post w F b P) (λ_ _ P=>P) _ _ _ _ _ (kO (B0:=T) (e0:=N) (W:=writes (.region id S true)) q M m v _ _ N F _ p (λ_ _=>rfl) P)
   split at P
   ·split at P
    ·obtain⟨i,P⟩:=P _ ⟨1,rfl⟩
     exact d _ i _ P
    ·exact d _ _ _ (P _ ⟨1,rfl⟩)
   ·obtain⟨z,P⟩:=eR.out P
    split at P
    ·obtain⟨i,P⟩:=P _ ⟨1,rfl⟩
     rw[py z _ _ (DF.init _)]at P;exact d _ i _ P
    ·have P:=P _ ⟨1,rfl⟩
     rw[py z _ _ (DF.init _)]at P;exact d _ _ _ P
def mU(a:Program)(b:Nat)(c:List Value)(d:World)(e:Bool->XU):Prop:=
 YieldAt (FW none) 0 a b c.toArray d λf g=>∃P,f= .returned (.bool P)/\e P g
def mU.mono(g:mU h a a1 b h2)(i:∀c f,h2 c f->h3 c f):mU h a a1 b h3:=by
 obtain⟨j,d,P,e,k,l⟩:=g;exact⟨j,d,P,e,k,l.mono λn f ⟨c,m,g⟩=>⟨c,m,i c f g⟩⟩
def RL(b:Program)(c:Value)(P:Array Value)(d:World)(e:XR):Prop:=
 ∃a,c= .func (.yield a) #[] #[]/\mU b a P.toList d λf g=>e (.bool f) g
def xH(P:Oper):Option (Operand×Array Operand):=match P.op with
 | .call {callee:=.value (.func _),..}=>none
 | .call {callee:=.value f,args,..}=>some (f,args)
 |_=>none
def NR(e:Program)(b:bU)(c:Array Oper)(i:gN)(d:Oper)(f:cQ->List Deferred->XU)(a:cQ)(g:List Deferred)(h:World):Prop:=match xH d with
 |some (j,P)=>RL e (ev b a j) (P.map (ev b a)) h λk l=>f (bX a d.dst k) g l
 |none=>Po e c b d i f a g h
def pT(c:Program)(b:bU)(P:Array Oper)(d:gN):List Oper->(cQ->List Deferred->XU)->cQ->List Deferred->XU
 |[],f,e,g,h=>f e g h
 |j::a,f,e,g,h=>match j.guard with
  |none=>NR c b P d j (pT c b P d a f) e g h
  |some (l,i)=>match iR P l with
   |none=>False
   |some k=>match get b e k with
    | .bool m=>an m
     (match i with
      |true=>NR c b P d j (pT c b P d a f) ((k,.bool true)::e) g h
      |false=>pT c b P d a f (bX ((k,.bool true)::e) j.dst undef) g h)
     (match i with
      |true=>pT c b P d a f (bX ((k,.bool false)::e) j.dst undef) g h
      |false=>NR c b P d j (pT c b P d a f) ((k,.bool false)::e) g h)
    | .tuple _=>pT c b P d a f (bX e j.dst undef) g h
    |_=>False
def Jb{P d:Code}(e:RoundIn (FW none) c h i y n P d b z):RoundIn (FW c5) a h i y n P d b z:=
 ⟨trivial,λf cs _=>e.2 f cs (PI _)⟩
def D_{P:Array Operand}{l:Nat}(a:xH O=some (Q,P))(d:e1 Q= .func (.yield l) #[] #[]):
  (execOp e1 O).run h b=(Instr.yield l (P.map e1)).run h b:=by
 unfold xH at a;split at a
 ·cases a
 ·rename_i f c g e
  simp only[Q1,Prod.mk.injEq]at a;obtain⟨rfl,rfl⟩:=a;simp only[execOp,e,resolve,d];simp[Deferred.ofValue,invoke,Sem.run_bind,Sem.run_pure,Result.andThen]
 ·cases a
def uB{w:Program}{B:Option Nat}{L o:Nat}{f t:bU}{u:cQ}{l:List Nat}{a:Array Oper}{m:gN}(M:∀n b,iR a n=some b->b<o)(S:∀a1 f P y g,m a1 f P y g->a1≠.outgrown)(v:B=none\/∀e∈a.toList,uA e=true):
  ∀(N:List Oper) (p:Nat) (P:cQ) (j:Act) (g:World),(∀n,N[n]? =a[p+n]?)->(∀e∈N,∀h,e.dst=some h->h<o/\h∈l)->Rel o f P j->(∀b,b∉l->get f P b=get t u b)->
   pT w f a m N (λP y g=>m .normal f P y g) P j.defers g->wpOpsIn (FW B) L w a (dd o t u l m) (List.range' p N.length) j g
 |[],p,P,j,g,_,_,k,i,d=>⟨f,P,k,i,d⟩
 |e::c,p,P,j,g,a2,T,k,i,d=>by
  have h0:a[p]? =some e:=by simpa using(a2 0).symm
  have a4:e∈a.toList:=by
   obtain⟨a7,rfl⟩:=Q5.1 h0;simp
  have U:∀n,c[n]? =a[p+1+n]? :=λn=>by have:=a2 (n+1);simpa[Nat.add_assoc,Nat.add_comm 1 n]using this
  have V:∀h,e.dst=some h->h<o:=λh v=>(T e (QV ..) h v).1;have W:∀(P:cQ),(∀b,b∉l->get f P b=get t u b)->∀C b,b∉l->get f (bX P e.dst C) b=get t u b:=by
   intro P i C b X
   cases v:e.dst with
   |none=>exact i b X
   |some h=>
    have a5:=(T e (QV ..) h v).2;show get f ((h,C)::P) b=_;rw[dR,Zq (by rintro rfl;exact X a5)];exact i b X
  have z:∀e∈c,∀h,e.dst=some h->h<o/\h∈l:=λe ho=>T e (QJ _ ho);have A:∀(P:cQ),Rel o f P j->(∀b,b∉l->get f P b=get t u b)->NR w f a m e (pT w f a m c λP y g=>m .normal f P y g) P j.defers g->
    e.wpIn (FW B) L w j g (wpOpsIn (FW B) L w a (dd o t u l m) (List.range' (p+1) c.length)) (dd o t u l m):=λP k i d=>by
   unfold NR at d;split at d
   ·rename_i a8 E q
    obtain⟨Y,hf,fn,F,x,H,h1,h2⟩:=d;refine⟨λ_ _=>trivial,?_⟩;have Z:∀a3,e.op≠.defer a3:=by
     intro a3 Z;unfold xH at q;rw[Z]at q;cases q
    rw[Oper.semAt_eq _ _ _ Z,k.eval,D_ (l:=Y) q hf];have a6:(Instr.yield Y (E.map (ev f P))).run w g= .ok (.round Y fn F x H) g:=by
     have:=h1
     rwa [Array.toArray_toList]at this
    rw[a6,Oper.uponIn_round];refine⟨λd=>by simp[Fence.wide]at d,(Jb h2).mono ?_⟩;rintro _ w' ⟨I,rfl,hK⟩;exact uB M S v c (p+1) _ _ _ U z (k.put _ V _) (W P i _) (by rw[put_defers];exact hK)
   ·refine Kh (v.imp id λv=>v e a4) ?_
    exact Is k V d (λC a' w' a0 hK=>uB M S v c (p+1) _ _ _ U z a0 (W P i C) hK) (λch w' hq=>⟨f,P,k,i,hq⟩)
  have r:∀(P:cQ),Rel o f P j->(∀b,b∉l->get f P b=get t u b)->pT w f a m c (λP y g=>m .normal f P y g) (bX P e.dst undef) j.defers g->
    wpOpsIn (FW B) L w a (dd o t u l m) (List.range' (p+1) c.length) (j.put e.dst undef) g:=λP k i d=>
   uB M S v c (p+1) _ _ _ U z (k.put _ V _) (W P i _) (by rw[put_defers];exact d)
  simp only[Xq,List.range'_succ];unfold wpOpsIn;rw[h0];simp only;unfold pT at d;split at d
  ·rename_i O
   rw[Zx (by simp[Region.wanted,O])];exact A P k i d
  ·rename_i n s O
   split at d
   ·exact d.elim
   ·rename_i b hj
    have q:=nd k hj (M n b hj);split at d
    ·rename_i I J
     rw[J]at q;simp only at q;have hw:Region.wanted e (yielded a j.tmps)=(I==s):=by
      simp only[Region.wanted,O,q]
      cases I<;>cases s<;>rfl
     rw[hw];have Q:=k.again J;have R:∀K,K∉l->get f ((b,.bool I)::P) K=get t u K:=λK hu=>by rw[qh J];exact i K hu
     cases I<;>cases s<;>simp only[an]at d
     ·exact A _ Q R d
     ·exact⟨λ_ _=>trivial,r _ Q R d⟩
     ·exact⟨λ_ _=>trivial,r _ Q R d⟩
     ·exact A _ Q R d
    ·rename_i vs J
     rw[J]at q;simp only at q;have hw:Region.wanted e (yielded a j.tmps)=false:=by
      simp[Region.wanted,O,q]
     rw[hw];exact⟨λ_ _=>trivial,r _ k i d⟩
    ·exact d.elim
def tD(b:Nat)(P a:World):Prop:=ak (λc=>c=b) P a/\a.heap.size=P.heap.size
def si(P:Nat)(a:World):Prop:=a.heap[P]? =some (.deferred (some []))
def Ki(P:Nat):Deferred:={target:=.collected P,args:= #[]}
def Jc:List Value->(List Value->Prop)->Prop
 |[],P=>P []
 |z::c,P=>match z with
  | .agg cs=>lE cs.toList λa=>Jc c λb=>P (.agg a.toArray::b)
  |z=>lE [z] λa=>Jc c λb=>P (a++b)
def qR(P:World):XN:=λa=>a≠P.heap.size/\a≠P.heap.size+1
def zZ(a b:List Value):Prop:=∀P:List Value->Prop,Jc a P->P b
def LJ:List (Exit×(XU))->(Exit->(XU)->Prop)->Prop
 |[],_=>True
 |(a,b)::c,P=>P a b/\LJ c P
def SK(P:Exit->XU):List Exit->List (Exit×(XU))
 |[]=>[]
 |x::a=>(x,λb=>P x b)::SK P a
def Tg(P:Exit):List (Exit×(XU))->Prop
 |[]=>False
 |(a,_)::b=>P=a\/Tg P b
def LJ.out{b:Exit->XU}{φ:Exit->(XU)->Prop}:∀{l:List Exit},LJ (SK b l) φ->∀P,Tg P (SK b l)->P∈l/\φ P (λc=>b P c)
 |[],_,P,a=>a.elim
 |y::i,d,P,a=>by
  obtain⟨e,f⟩:=d;rcases a with rfl|a
  ·exact⟨QV ..,e⟩
  ·obtain⟨g,h⟩:=LJ.out f P a
   exact⟨QJ _ g,h⟩
def HM(n:Program)(v:Value)(w:List Value)(b:World)(y:(List Value->Prop)->(List Value->Exit->XU)->XU)(z:XU)(p:List (Exit×(XU))):Prop:=
 ∃o l,v= .func (.func o) #[] l/\enters n o=true/\
 ∃(q:Type) (r:q) (g:q->List (List Value)->XU) (k:Exit->List (List Value)->XU) (s:List (List Value)->List Value->Prop) (t:List (List Value)->Prop),
  (∀i,ak (λ_=>False) b i->i.heap.size=b.heap.size+2->g r [] i)/\
  (∀c P a e,g c P a->tD (b.heap.size+1) a e->g c P e)/\
  (∀x P a e,k x P a->tD (b.heap.size+1) a e->k x P e)/\
  (∀c P a,g c P a->b.heap.size+2<=a.heap.size->y (s P) (λh x d=>match x with
   | .normal=>g c (P++[h]) d
   |x=>Tg x p/\k x (P++[h]) d) a)/\
  (∀(j:XU) (m:Exit->XU),(∀a e,j a->ak (qR b) a e->j e)->(∀x a e,m x a->ak (qR b) a e->m x e)->
   (∀a,j a->b.heap.size+2<=a.heap.size)->
   (∀c P h a,g c P a->j a->zZ w h->s P h->mU n (b.heap.size+1) h a λu d=>(u=true/\g c (P++[h]) d/\j d)\/(u=false/\∃x,k x (P++[h]) d/\m x d))->
   ∀i,g r [] i->j i->Calls n o (#[.func (.yield (b.heap.size+1)) #[] #[]]++l) i λA d=>(∃B,A= .returned B)/\((j d/\∃c f,g c f d/\t f)\/∃x P,k x P d/\m x d))/\
  (∀c f a,g c f a->t f->si b.heap.size a->z a)/\
  LJ p λx C=>∀P a,k x P a->si b.heap.size a->C a
def Kj:List Nat->List Value->cQ->cQ
 |a::b,c::d,P=>Kj b d ((a,c)::P)
 |_,_,P=>P
def LK:List (Nat×Value)->List Nat
 |[]=>[]
 |(P,_)::a=>P::LK a
def gW:Code->Bool
 | .region _ a _=>a.toList.all uA
 | .seq b c=>gW b&&gW c
 | .cond _ b c=>gW b&&gW c
 | .block _ P=>gW P
 | .loop P=>gW P
 | .scope P=>gW P
 | .rangeFunc .. =>false
 |_=>true
def fS:Code->List Exit
 | .exit id=>[.exit id]
 | .ret=>[.ret]
 | .seq a b=>fS a++fS b
 | .cond _ a b=>fS a++fS b
 | .block _ P=>fS P
 | .loop P=>fS P
 | .scope P=>fS P
 |_=>[]
def NS:Exit->Code
 | .ret=>.ret
 | .exit id=>.exit id
 | .goto P=>.goto P
 |_=>.skip
def RM(P:Exit->XU):gN:=λb _ _ _ a=>match b with
 | .normal=>P .normal a
 | .ret=>P .ret a
 | .exit id=>P (.exit id) a
 |_=>False
def DR(g:Program)(f:kC)(h:List Nat):Bool->Code->gN->bU->cQ->List Deferred->XU
 |_,.skip,d,c,P,b,a=>d .normal c P b a
 |_,.label _,d,c,P,b,a=>d .normal c P b a
 |_,.exit id,d,c,P,b,a=>d (.exit id) c P b a
 |_,.ret,d,c,P,b,a=>d .ret c P b a
 |_,.region id q p,d,c,P,b,a=>match Be h id with
  |true=>(match p with
   |false=>pT g c q d q.toList (λP b a=>d .normal c P b a) P b a
   |true=>False)
  |false=>D g f (.region id q p) d c P b a
 |top,.seq i l,d,c,P,b,a=>match Lm f.MV (key l)with
  |none=>DR g f h top i (zv (λc P b a=>DR g f h top l d c P b a) d) c P b a
  |some e=>∃x:Fn (gR e) (XU),DR g f h top i (zv (λm s k j=>zu k b (ap (gR e) x (xq m s e) j)) d) c P b a/\
    eB (writes i) P λu=>lE (gR e) λn=>∀(m:bU) (j:World),ap (gR e) x n j->DR g f h top l d m (wj e n u) b j
 |top,.cond o i l,d,c,P,b,a=>match ev c P o with
  | .bool A=>an A (DR g f h top i d c P b a) (DR g f h top l d c P b a)
  |_=>False
 |top,.block id o,d,c,P,b,a=>DR g f h top o (vC id d) c P b a
 |top,.scope o,d,c,P,b,a=>DR g f h top o (DG d) c P b a
 |top,.loop o,d,c,P,b,a=>match Lm f.loops (key o)with
  |none=>False
  |some e=>∃v:Nat->Fn (gR e) (XU),(∃t,ap (gR e) (v t) (xq c P e) a)/\
    ∀t,eB (writes o) P λu=>lE (gR e) λn=>∀(m:bU) (j:World),ap (gR e) (v t) n j->
     DR g f h top o (zv (λm s k j=>zu k b (∃y,y<t/\ap (gR e) (v y) (xq m s e) j)) d) m (wj e n u) b j
 |top,.rangeFunc B C i l,d,c,P,b,a=>match top with
  |false=>False
  |true=>match Lm f.loops (key l)with
   |none=>False
   |some e=>eR (Ll (LK e) C.toList&&(gW i&&gW l)) (HM g (ev c P B) (gR e) a
     (λE F r=>Jc (gR e) λn=>E n->DR g f h false i (zv (λm s k j=>ak (qR a) r j/\∀w,tD (a.heap.size+1) j w->DR g f h false l (RM λi z=>ak (qR a) w z/\F n i z) m s k w) (λ_ _ _ _ _=>False)) c (Kj (LK e) n P) [] r)
     (λr=>d .normal c P (Ki a.heap.size::b) r) (SK (λi r=>d i c P (Ki a.heap.size::b) r) (fS l)))
 |_,_,_,_,_,_,_=>False
def ki:Code->List Nat
 | .region _ c _=>BN c.toList
 | .seq P a=>ki P++ki a
 | .cond _ P a=>ki P++ki a
 | .block _ b=>ki b
 | .loop b=>ki b
 | .scope b=>ki b
 | .rangeFunc _ d P a=>d.toList++(ki P++ki a)
 |_=>[]
def NT:∀(a:List Value) (c:List Value->Prop),(∀P,P.length=a.length->c P)->Jc a c:=by
 have e:∀(a:List Value) (c:List Value->Prop),(∀P,P.length=a.length->c P)->lE a c:=by
  intro a
  induction a with
  |nil=>intro c b;exact b [] rfl
  |cons h a f=>
   intro c b
   cases h
   case pointer i=>cases i<;>simp only[lE]<;>intros<;>exact f _ λP d=>b _ (by simp[d])
   all_goals(simp only[lE];intros;exact f _ λP d=>b _ (by simp[d]))
 intro a
 induction a with
 |nil=>intro c b;exact b [] rfl
 |cons h a f=>
  intro c b
  cases h
  case pointer i=>cases i<;>(simp only[Jc];exact e [_] _ λP d=>f _ λk g=>b _ (by have j:P.length=1:=d;simp[j,g,Nat.add_comm]))
  case agg cs=>exact e cs.toList _ λP d=>f _ λk g=>b _ (by simp[g])
  all_goals(simp only[Jc];exact e [_] _ λP d=>f _ λk g=>b _ (by have j:P.length=1:=d;simp[j,g,Nat.add_comm]))
def zZ.len(P:zZ a1 e2):e2.length=a1.length:=P _ (NT a1 _ λ_ P=>P)
def GF:∀P:List (Nat×Value),(LK P).length=(gR P).length
 |[]=>rfl
 |(_,_)::a=>by simp[LK,gR,GF a]
def Cg{f:Nat}{j:bU}:∀(c:List Nat) (a:List Value) (d:cQ) (P:Array Value),(∀b∈c,b<f)->a.length=c.length->Rel f j d {tmps:=P,defers:=[]}->
  Rel f j (Kj c a d) {tmps:=(c.zip a).foldl (λb (k:Nat×Value)=>b.setIfInBounds k.1 k.2) P,defers:=[]}
 |[],a,d,P,_,e,g=>by
  cases a with
  |nil=>exact g
  |cons h a=>simp at e
 |b::c,a,d,P,l,e,g=>by
  cases a with
  |nil=>simp at e
  |cons h a=>
   exact Cg c a ((b,h)::d) _ (λm i=>l m (QJ _ i)) (by simpa using e) (g.put (some b) (λm i=>by cases i;exact l b (QV ..)) h)
def GH:∀(a:Code) (b:Exit),b∈fS a->b= .ret\/∃id,b= .exit id:=by
 intro a
 induction a with
 |exit id=>intro b P;simp only[fS,List.mem_singleton]at P;exact .inr ⟨id,P⟩
 |ret=>intro b P;simp only[fS,List.mem_singleton]at P;exact .inl P
 |seq b g c d=>intro e P;exact(Q6.1 P).elim (c e) (d e)
 |cond a b g c d=>intro e P;exact(Q6.1 P).elim (c e) (d e)
 |block id a f=>exact f
 |loop a f=>exact f
 |scope a f=>exact f
 |_=>intro e P;cases P
def iV{w:World}{l:Nat}{o:Obj}:tD l w (w.putObj l o):=
 ⟨⟨rfl,rfl,rfl,sM,λa _ P=>World.putObj_heap_other P⟩,sM⟩
def ak.obj(c:ak f b k)(P:b.heap[a]? =some c4)(d:¬f a):k.heap[a]? =some c4:=
 (c.block a (Q5.1 P).1 d).trans P
def dd.of(P:Rel a T N F)(c:b8 e3 T N F.defers b):dd a T N b2 b8 e3 F b:=⟨T,N,P,λ_ _=>rfl,c⟩
def SL(hm:h.follows .mixedOrders=true){n m:Nat}:∀(I:Code) (r:Option Nat) (d:Bool) (t:gN) (e:bU) (f:cQ) (l:Act) (b:World),
  (r=none\/(d=false/\gW I=true))->(∀a,a∈ki I->a<n)->(∀u e f Y b,t u e f Y b->u≠.outgrown)->Rel n e f l->DR h e0 b2 d I t e f l.defers b->I.wpIn (FW r) m h (dd n e f (writes I) t) l b:=by
 intro I
 induction I generalizing m with
 |skip=>intro r d t e f l b _ _ _ k P;exact wpIn_skip (dd.of k P)
 |label a0=>intro r d t e f l b _ _ _ k P;exact wpIn_label (dd.of k P)
 |exit id=>intro r d t e f l b _ _ _ k P;exact wpIn_exit (dd.of k P)
 |ret=>intro r d t e f l b _ _ _ k P;exact wpIn_ret (dd.of k P)
 |goto a0=>intro r d t e f l b _ _ _ k P;exact P.elim
 |refuse um=>intro r d t e f l b _ _ _ k P;exact P.elim
 |scope I ih=>
  intro r d t e f l b C y J k P;refine I_ (wpIn_mono (ih r d (DG t) e f l b C y (by intro q e f Y b c Q;subst Q;exact J _ _ _ _ _ c rfl) k P) ?_);intro q v x o;obtain⟨z,w,B,F,c⟩:=o
  cases q with
  |goto a0=>exact c.elim
  |normal=>exact⟨z,w,B,F,c⟩
  |exit id=>exact⟨z,w,B,F,c⟩
  |ret=>exact⟨z,w,B,F,c⟩
  |panic ch=>exact⟨z,w,B,F,c⟩
  |outgrown=>exact⟨z,w,B,F,c⟩
 |region id A Z=>
  intro r d t e f l b C y J k P;have hd:r=none\/∀V∈A.toList,uA V=true:=C.imp (λP=>P) λP=>by
   have:=P.2;unfold gW at this;exact ZY.1 this
  have d1:∀v x,¬dd n e f (writes (.region id A Z)) t .outgrown v x:=λl b ⟨e,f,_,_,c⟩=>J _ _ _ _ _ c rfl;unfold DR at P;split at P
  ·split at P
   ·have W:∀V∈A.toList,∀a5,V.dst=some a5->a5<n/\a5∈writes (.region id A false):=λV ho a5 hd=>⟨y a5 (jE ho hd),jE ho hd⟩
    have e9:∀c4 a,iR A c4=some a->a<n:=by
     intro c4 a N;unfold iR at N
     cases ho:A[c4]? with
     |none=>rw[ho]at N;simp at N
     |some V=>
      rw[ho]at N;have f0:V∈A.toList:=by
       obtain⟨d2,rfl⟩:=Q5.1 ho;simp
      exact(W V f0 a N).1
    refine wpIn_region ?_;rw[List.range_eq_range',<-XK];exact uB e9 J hd A.toList 0 f l b sM W k (λ_ _=>rfl) P
   ·exact P.elim
  ·obtain⟨h1,h2⟩:=Ja hm (n:=n) y k P
   cases Z with
   |false=>exact wpIn_region (pS d1 hd _ _ _ (h1 rfl))
   |true=>exact wpIn_region_draw λa=>pS d1 hd _ _ _ (h2 rfl a)
 |seq u R K L=>
  intro r d t e f l b C y J k P;have b4:r=none\/(d=false/\gW u=true):=C.imp (λP=>P) λP=>⟨P.1,by have:=P.2;simp only[gW,QK]at this;exact this.1⟩
  have b5:r=none\/(d=false/\gW R=true):=C.imp (λP=>P) λP=>⟨P.1,by have:=P.2;simp only[gW,QK]at this;exact this.2⟩
  have b6:∀a,a∈ki u->a<n:=λa j=>y a (Q6.2 (.inl j));have b7:∀a,a∈ki R->a<n:=λa j=>y a (Q6.2 (.inr j));have g:∀(a3:bU->cQ->List Deferred->XU) (q:Exit) (v:Act) (x:World),q≠.normal->dd n e f (writes u) (zv a3 t) q v x->dd n e f (writes (u.seq R)) t q v x:=by
   intro a3 q v x f4 o;refine o.mono (λa j=>Q6.2 (.inl j)) (λ_ _=>rfl) λz w i8 w1 c=>?_
   cases q with
   |normal=>exact Zz rfl f4
   |outgrown=>exact c.elim
   |_=>exact c
  have d3:∀(a3:bU->cQ->List Deferred->XU) q e f Y b,zv a3 t q e f Y b->q≠.outgrown:=by
   intro a3 q e f Y b c Q;subst Q;exact c.elim
  unfold DR at P;split at P
  ·have hx:=K (m:=m) r d _ e f l b b4 b6 (d3 _) k P
   refine wpIn_seq (wpIn_mono hx ?_);intro q v x o
   cases q with
   |normal=>
    obtain⟨z,w,B,F,c⟩:=o;have hy:=L (m:=m) r d t z w v x b5 b7 J B c;refine wpIn_mono hy (λq d4 d5 o=>?_);refine o.mono (λa j=>Q6.2 (.inr j)) (λa j=>F a λhm=>j (Q6.2 (.inl hm))) λ_ _ _ _ c=>c
   |exit id=>exact g _ _ _ _ sM o
   |goto a0=>exact g _ _ _ _ sM o
   |ret=>exact g _ _ _ _ sM o
   |panic ch=>exact g _ _ _ _ sM o
   |outgrown=>exact g _ _ _ _ sM o
  ·rename_i H hS
   obtain⟨f5,P,c5⟩:=P;obtain⟨w,h1,h2,c5⟩:=eB.out c5;have hx:=K (m:=m) r d _ e f l b b4 b6 (d3 _) k P;refine wpIn_seq (wpIn_mono hx ?_);intro q v x o
   cases q with
   |normal=>
    obtain⟨B2,e2,O,b8,c⟩:=o;obtain⟨b9,hJ⟩:=zu.out c;have hv:=mg O H;have a7:=iS B2 e2 H;have d6:=ap.all a7 hJ c5 (λa=>v.tmps.getD a undef) x hJ;rw[hv,<-b9]at d6;have d7:=uk (n:=n) H O.size h1 h2 (B0:=e) (λa j=>(O.slot a).trans (b8 a j));have hy:=L (m:=m) r d t _ _ v x b5 b7 J d7 d6;refine wpIn_mono hy (λq d4 d5 o=>?_);refine o.mono (λa j=>Q6.2 (.inr j)) (λa j=>?_) λ_ _ _ _ c=>c;rw[<-d7.slot];exact(O.slot a).trans (b8 a λhm=>j (Q6.2 (.inl hm)))
   |exit id=>exact g _ _ _ _ sM o
   |goto a0=>exact g _ _ _ _ sM o
   |ret=>exact g _ _ _ _ sM o
   |panic ch=>exact g _ _ _ _ sM o
   |outgrown=>exact g _ _ _ _ sM o
 |cond I u R K L=>
  intro r d t e f l b C y J k P;have b4:r=none\/(d=false/\gW u=true):=C.imp (λP=>P) λP=>⟨P.1,by have:=P.2;simp only[gW,QK]at this;exact this.1⟩
  have b5:r=none\/(d=false/\gW R=true):=C.imp (λP=>P) λP=>⟨P.1,by have:=P.2;simp only[gW,QK]at this;exact this.2⟩
  unfold DR at P;split at P
  ·rename_i f6 S
   refine wpIn_cond_split (t:=f6) (by rw[k.eval];exact S) (λj=>?_) (λhf=>?_)
   ·subst j
    refine wpIn_mono (K r d t e f l b b4 (λa j=>y a (Q6.2 (.inl j))) J k P) (λq v x o=>?_);exact o.mono (λa j=>Q6.2 (.inl j)) (λ_ _=>rfl) λ_ _ _ _ c=>c
   ·subst hf
    refine wpIn_mono (L r d t e f l b b5 (λa j=>y a (Q6.2 (.inr j))) J k P) (λq v x o=>?_);exact o.mono (λa j=>Q6.2 (.inr j)) (λ_ _=>rfl) λ_ _ _ _ c=>c
  ·exact P.elim
 |block id I ih=>
  intro r d t e f l b C y J k P;refine wpIn_block (wpIn_mono (ih r d (vC id t) e f l b C y (by intro q e f Y b c Q;subst Q;exact c.elim) k P) ?_);intro q v x o;obtain⟨z,w,B,F,c⟩:=o
  cases q with
  |exit a8=>
   show(if a8=id then _ else _);simp only[vC]at c
   cases S:Nat.beq a8 id with
   |true=>
    rw[S]at c;rw[Zx (X9 S)];exact⟨z,w,B,F,c⟩
   |false=>
    rw[S]at c;rw[Zq (by rintro rfl;simp at S)];exact⟨z,w,B,F,c⟩
  |normal=>exact⟨z,w,B,F,c⟩
  |goto a0=>exact⟨z,w,B,F,c⟩
  |ret=>exact⟨z,w,B,F,c⟩
  |panic ch=>exact⟨z,w,B,F,c⟩
  |outgrown=>exact c.elim
 |loop I ih=>
  intro r d t e f l b C y J k P;unfold DR at P;split at P
  ·exact P.elim
  ·rename_i H hS
   obtain⟨f7,⟨m0,h0⟩,f8⟩:=P;refine wpIn_loop_ghost (λm v x=>v.tmps.size=n/\(∀a,a∉writes I->v.tmps.getD a undef=get e f a)/\v.defers=l.defers/\
    ap (gR H) (f7 m) (H.map λa4=>v.tmps.getD a4.1 undef) x) m0 ⟨k.size,λa _=>k.slot a,rfl,by rw[<-mg k H];exact h0⟩ ?_
   rintro mm v x ⟨f9,d8,b9,hI⟩;obtain⟨w,h1,h2,g0⟩:=eB.out (f8 mm);have a7:(H.map λa4=>v.tmps.getD a4.1 undef).length=(gR H).length:=by rw[<-iS e f H,xG];simp
   have S:=ap.all a7 hI g0 (λa=>v.tmps.getD a undef) x hI;have c0:=uk (n:=n) H f9 h1 h2 d8;rw[<-b9]at S;have c6:=ih (m:=m) r d _ _ _ v x C y (by intro q e f Y b c Q;subst Q;exact c.elim) c0 S;refine wpIn_mono c6 ?_;intro q d4 d5 o;obtain⟨B2,e2,O,b8,c⟩:=o;have a9:∀a,a∉writes I->get B2 e2 a=get e f a:=λa j=>(b8 a j).trans ((c0.slot a).symm.trans (d8 a j))
   cases q with
   |normal=>
    obtain⟨g1,m',d2,g2⟩:=zu.out c;refine⟨m',d2,O.size,λa j=>(O.slot a).trans (a9 a j),g1.trans b9,?_⟩;rw[<-mg O H];exact g2
   |outgrown=>exact c.elim
   |exit id=>exact⟨B2,e2,O,a9,c⟩
   |goto a0=>exact⟨B2,e2,O,a9,c⟩
   |ret=>exact⟨B2,e2,O,a9,c⟩
   |panic ch=>exact⟨B2,e2,O,a9,c⟩
 |rangeFunc g3 ps u R K L=>
  intro r d t e f l b C y J k P;unfold DR at P;split at P
  ·exact P.elim
  obtain rfl:r=none:=C.resolve_right λP=>by cases P.1
  split at P
  ·exact P.elim
  rename_i H hS;obtain⟨d9,P⟩:=eR.out P;simp only[QK]at d9;obtain⟨c1,g4,g5⟩:=d9;have c1:=Ll.out c1;obtain⟨c7,a1,g6,g7,σ,s0,f5,Jx,a3,i9,g8,e1,c2,c6,g9,h3,h4⟩:=P;have b6:∀a,a∈ki u->a<n:=λa j=>y a (Q6.2 (.inr (Q6.2 (.inl j))));have b7:∀a,a∈ki R->a<n:=λa j=>y a (Q6.2 (.inr (Q6.2 (.inr j))));have h5:∀a,a∈ps.toList->a<n:=λa j=>y a (Q6.2 (.inl j));refine wpIn_rangeFunc ?_;intro fn _;obtain⟨p,s⟩:∃p:LoopState->Option Code->Loop,p=λst pe=>{state:=st,pending:=pe,fn,tmps:=l.tmps,params:=ps,assign:=u,body:=R,defers:=b.heap.size}:=⟨_,rfl⟩
  obtain⟨T,b0⟩:∃T,(b.alloc (.deferred (some []))).alloc (.loop (p .ready none))=T:=⟨_,rfl⟩
  have h6:T.heap[b.heap.size+1]? =some (.loop (p .ready none)):=by
   rw[<-b0];have:=World.alloc_heap_new (b.alloc (.deferred (some []))) (.loop (p .ready none));rwa [World.size_alloc]at this
  have h7:T.heap[b.heap.size]? =some (.deferred (some [])):=by
   rw[<-b0];exact(Go.RowKit.Below.heap_alloc _ _ _ sM).trans (World.alloc_heap_new b _)
  have h8:T.heap.size=b.heap.size+2:=by rw[<-b0];simp
  have h9:ak (λ_=>False) b T:=by
   rw[<-b0];exact⟨rfl,rfl,rfl,by simp;omega,λi0 E _=>(Go.RowKit.Below.heap_alloc _ _ _ bc).trans (Go.RowKit.Below.heap_alloc b _ i0 E)⟩
  let i1:XU:=λe0=>e0.heap[b.heap.size+1]? =some (.loop (p .ready none))/\e0.heap[b.heap.size]? =some (.deferred (some []))
  let Rx:Exit->XU:=λu e0=>Tg u (SK (λu A0=>t u e f (Ki b.heap.size::l.defers) A0) (fS R))/\e0.heap[b.heap.size+1]? =some (.loop (p .done (some (NS u))))/\e0.heap[b.heap.size]? =some (.deferred (some []))
  have c3:∀{e0 e:World} {V o':Obj},ak (qR b) e0 e->e0.heap[b.heap.size+1]? =some V->e0.heap[b.heap.size]? =some o'->e.heap[b.heap.size+1]? =some V/\e.heap[b.heap.size]? =some o':=λE h1 h2=>
   ⟨E.obj h1 λP=>P.2 rfl,E.obj h2 λP=>P.1 rfl⟩
  refine⟨b.heap.size+1,[Ki b.heap.size],T,{target:=.fn (.func c7) a1,args:= #[.func (.yield (b.heap.size+1)) #[] #[]]},T,c7,#[.func (.yield (b.heap.size+1)) #[] #[]]++a1,T,?_,?_,λ_ _=>trivial,?_,λP=>by simp[Fence.wide]at P,?_⟩
  ·rw[<-b0,s];exact run_enterLoop_outer _ _ _ _ _
  ·have hg:l.eval g3= .func (.func c7) #[] a1:=by rw[k.eval];exact g6
   simp only[resolve,hg];simp[go_sem]
  ·simp only[invoke];exact gO g7 _ _
  refine sI.2 (Calls.mono (g9 i1 Rx (λe0 e P E=>c3 E P.1 P.2) (λu e0 e P E=>⟨P.1,c3 E P.2.1 P.2.2⟩) (λe0 P=>by have:=(Q5.1 P.1).1;omega) ?_ T (g8 T h9 h8) ⟨h6,h7⟩) ?_)
  ·
   rintro c8 M vs A1 N ⟨W,E⟩ e3 hN;have a7:=e3.len;have e4:vs.length=ps.toList.length:=by rw[a7,<-c1,GF]
   have hy:=run_yield (P:=h) (args:=vs.toArray) W (by rw[s];simpa using e4);rw[s]at hy;refine⟨fn,_,u,R,hy,roundIn_of_wpIn trivial ?_⟩;have S:=e3 _ (c6 c8 M A1 N (by have:=(Q5.1 W).1;omega)) hN;have c0:Rel n e (Kj (LK H) vs f) {tmps:=(ps.zip vs.toArray).foldl (λU (u:Tmp×Value)=>U.setIfInBounds u.1 u.2) l.tmps,defers:=[]}:=by
    have h0:Rel n e f {tmps:=l.tmps,defers:=[]}:=⟨k.size,k.slot⟩
    have:=Cg ps.toList vs f l.tmps h5 e4 h0;rw[c1];have w:(ps.zip vs.toArray).foldl (λU (u:Tmp×Value)=>U.setIfInBounds u.1 u.2) l.tmps=(ps.toList.zip vs).foldl (λa (a4:Nat×Value)=>a.setIfInBounds a4.1 a4.2) l.tmps:=by
     rw[<-Array.foldl_toList,Array.toList_zip]
    rw[w];exact this
   have hx:=K (m:=0) (some (b.heap.size+1)) false _ e _ _ A1 (.inr ⟨rfl,g4⟩) b6 (by intro q e f Y b c Q;subst Q;exact c.elim) c0 S;refine wpIn_mono hx ?_;intro q i2 A2 o;obtain⟨z,w,B,-,c⟩:=o
   cases q with
   |exit id=>exact c.elim
   |goto a0=>exact c.elim
   |ret=>exact c.elim
   |panic ch=>exact c.elim
   |outgrown=>exact c.elim
   |normal=>
    obtain⟨i3,c⟩:=c;obtain⟨e5,i4⟩:=c3 i3 W E;refine⟨_,run_beginRound e5 (by rw[s]),?_⟩;have c:=c _ (iV (w:=A2) (l:=b.heap.size+1) (o:=.loop {p .ready none with state:=.busy}));have e6:(A2.putObj (b.heap.size+1) (.loop {p .ready none with state:=.busy})).heap[b.heap.size+1]? =some (.loop {p .ready none with state:=.busy}):=World.putObj_heap_same (Q5.1 e5).1;have e7:(A2.putObj (b.heap.size+1) (.loop {p .ready none with state:=.busy})).heap[b.heap.size]? =some (.deferred (some [])):=(World.putObj_heap_other oM).trans i4;generalize A2.putObj (b.heap.size+1) (.loop {p .ready none with state:=.busy})=A3 at c e6 e7;have hy:=L (m:=0) (some (b.heap.size+1)) false _ z w i2 A3 (.inr ⟨rfl,g5⟩) b7 (by intro q e f Y b c Q;subst Q;exact c.elim) B c;refine wpIn_mono hy ?_;have a2:∀(i:Option Code) (X:World),ak (qR b) A3 X->
      (Instr.endRound (b.heap.size+1) i).run h X= .ok (.bool i.isNone) (X.putObj (b.heap.size+1) (.loop (p (if i.isNone then .ready else .done) i)))/\
      (X.putObj (b.heap.size+1) (.loop (p (if i.isNone then .ready else .done) i))).heap[b.heap.size+1]? =some (.loop (p (if i.isNone then .ready else .done) i))/\
      (X.putObj (b.heap.size+1) (.loop (p (if i.isNone then .ready else .done) i))).heap[b.heap.size]? =some (.deferred (some [])):=λi X a6=>by
     obtain⟨e8,i5⟩:=c3 a6 e6 e7;have:=run_endRound (P:=h) i e8;rw[s]at this⊢;exact⟨this,World.putObj_heap_same (Q5.1 e8).1,(World.putObj_heap_other oM).trans i5⟩
    intro q j0 X o;obtain⟨B4,j1,j2,-,b1⟩:=o
    cases q with
    |normal=>
     obtain⟨a6,b3⟩:=b1;obtain⟨f1,f2,f3⟩:=a2 none X a6;exact⟨_,_,f1,true,rfl,.inl ⟨rfl,e1 _ _ _ _ b3 iV,f2,f3⟩⟩
    |ret=>
     obtain⟨a6,c9,b3⟩:=b1;obtain⟨f1,f2,f3⟩:=a2 (some .ret) X a6;exact⟨_,_,f1,false,rfl,.inr ⟨rfl,.ret,c2 _ _ _ _ b3 iV,c9,f2,f3⟩⟩
    |exit id=>
     obtain⟨a6,c9,b3⟩:=b1;obtain⟨f1,f2,f3⟩:=a2 (some (.exit id)) X a6;exact⟨_,_,f1,false,rfl,.inr ⟨rfl,.exit id,c2 _ _ _ _ b3 iV,c9,f2,f3⟩⟩
    |goto a=>exact b1.elim
    |panic ch=>exact b1.elim
    |outgrown=>exact b1.elim
  ·
   rintro ed A2 ⟨⟨j3,rfl⟩,(⟨⟨W,E⟩,c8,d0,N,hT⟩|⟨x1,M,N,i6,W,E⟩)⟩
   ·refine⟨none,_,by have:=run_endLoop (P:=h) W (by rw[s];simp);rw[s]at this;exact this,?_⟩
    exact dd.of (k.defers _) (h3 c8 d0 _ (e1 _ _ _ _ N iV) hT ((World.putObj_heap_other oM).trans E))
   ·refine⟨some (NS x1),_,by have:=run_endLoop (P:=h) W (by rw[s];simp);rw[s]at this;exact this,?_⟩
    obtain⟨i7,c⟩:=LJ.out h4 x1 i6;rcases GH R x1 i7 with rfl|⟨id,rfl⟩
    ·exact wpIn_ret (dd.of (k.defers _) (c M _ (c2 .ret M A2 _ N iV) ((World.putObj_heap_other oM).trans E)))
    ·exact wpIn_exit (dd.of (k.defers _) (c M _ (c2 (.exit id) M A2 _ N iV) ((World.putObj_heap_other oM).trans E)))
def RX(P:XU):List Deferred->XU
 |[],a=>P a
 |d::e,a=>match d.target with
  | .collected b=>si b a/\∀c,tD b a c->RX P e c
  |_=>False
def QE(d:Program)(e:Func)(a:XT):gN:=λh f g b P=>match h with
 | .normal=>RX (λP=>FM d e.results.toList f g P λc=>a (.returned (oneOf c)) P) b P
 | .ret=>RX (λP=>FM d e.results.toList f g P λc=>a (.returned (oneOf c)) P) b P
 | .panic i=>RX (λP=>a (.panicked i) P) b P
 |_=>False
def nx{g:Program}{h:Func}{P:Array Value}{i:XT}{c:XU}{f:FrameMode}(j:f≠.run){k:Nat}(l:∀a,c a->LeavesIn (FW none) k g h P i [] f a):∀(e:List Deferred) (a:World),RX c e a->LeavesInM (FW none) k g h P i e f a
 |[],a,b=>l a b
 |d::e,a,b=>by
  unfold RX at b;split at b
  ·rename_i m n
   obtain⟨o,b⟩:=b;exact⟨j,.inl ⟨m,_,n,run_takeDeferred o,nx j l e _ (b _ iV)⟩⟩
  ·exact b.elim
def tE(i:kC)(j:List Nat)(k:h.follows .mixedOrders=true)(l:h.funcs[y]? =some a7)(m:a7.body=some a0)(o:n.size<=a7.ntmps)(p:s_ a7.ntmps (ki a0)=true)(a:DR h i j true a0 (QE h a7 z) (λ_=>undef) (eK 0 n.toList) [] b):Calls h y n b z:=by
 refine sI.1 (callsIn_of_wp_marks (F:=FW none) (n:=0) l m trivial (wpIn_mono (SL k a0 none true (QE h a7 z) _ _ _ b (.inl rfl) (jW p) (by intro d e f u b P q;subst q;exact P.elim) (vD o []) a) ?_));rintro d r v ⟨e,f,s,_,P⟩;have g:∀b,(FM h a7.results.toList e f b λc=>z (.returned (oneOf c)) b)->LeavesIn (FW none) 0 h a7 r.tmps z [] .returning b:=λb a=>by
  obtain⟨c,t,a⟩:=pA s a;exact⟨_,pB t,a⟩
 cases d with
 |normal=>exact nx sM g _ _ P
 |ret=>exact nx sM g _ _ P
 |panic w=>exact nx sM (λb a=>a) _ _ P
 |exit id=>exact P.elim
 |goto c=>exact P.elim
 |outgrown=>exact P.elim

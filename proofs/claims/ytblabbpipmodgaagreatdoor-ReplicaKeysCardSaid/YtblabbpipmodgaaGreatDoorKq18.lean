import Derived.Test.YtblabbpipmodgaaGreatDoorKq17
set_option maxHeartbeats 4000000
set_option linter.all false
set_option maxRecDepth 20000
namespace Go.Proofs.YtblabbpipmodgaaGreatDoor
open Go.aw
section
variable {w w' w0 w1 w2:World} {p:Nat} {F E Dv:XN} {cls:Nat->Nat} {h:iL} {c:cy} {self:Int} {X:bD} {m:cN} {va ea:ZH} {vn vc en ec:Nat}
def Ml(hr:bu w p F c self X)(he:Env w0 w F){V:ef}(a6:X.log=some V)(c3:Row fY 96 w E ea en m.events)(N:∀P,E P->P<w.heap.size/\¬F P)(a7:m.events.length<=1000)(hl:X.S.l.length<=18000000):
  ZG 46 #[XL p,iY m va vn vc ea en ec] w (Ok λa5 w'=>∃O e,a5= .tuple #[O,XH (nj c self X m).2.1]/\ei w e (nj c self X m).1 O w'/\bu w' p e c self (nj c self X m).2.2/\cz F w e w'):=by
 obtain⟨g,h,cls,Q⟩:=hr;have R:=Q.aC;refine lQ (PA.mk λS q s8 T=>?_);obtain⟨a,U⟩:∃a,a=jV c X m.events:=⟨_,rfl⟩
 have y:∀{z},(if a.1=[]then([xR X.S self m.bB],0,{X with waits:=a.2})else
   if(cR c {X with waits:=a.2} a.1).1≠0 then([],(cR c {X with waits:=a.2} a.1).1,{(cR c {X with waits:=a.2} a.1).2 with waits:=[]})else([xR (cR c {X with waits:=a.2} a.1).2.S self m.bB],0,(cR c {X with waits:=a.2} a.1).2))=z->nj c self X m=z:=λ{z} d=>by rw[<-d,U];rfl
 refine⟨λw'=>∃e f,bu w' p e c self f/\cz F w e w'/\(∀P,e P->F P\/S.heap.size<=P)/\w'.heap[w.heap.size]? =some (.cells (bH m va vn vc ea en ec).toArray 60 (0,0))/\nj c self X m=([xR f.S self m.bB],0,f),?_,?_⟩
 ·refine⟨_,_,_,ae T rfl,PC.ok (Mm (cu.ah Q q) g (c3.ah q) (λP b=>⟨by have:=(N P b).1;omega,(N P b).2⟩) a7 hl) ?_⟩
  rw[<-U];rintro _ W ⟨Y,on,oc,Lo,A,b0,Do,rfl,B,Z,c4,b2,i,r,c5,e0⟩;have hn:=B.len dC;have c6:Lo.length=a.1.length:=by rw[<-Z,Q8]
  have b3:=d_.unbox B c4 λP b=>⟨(r P b).1,(r P b).2.1⟩
  rw[PB,Z]at b3;have b4:Row fY 96 W (λP=>aF Y=some P\/Do P) Y on a.1:=b3.row dC ba;have C:cz F w A W:=⟨(ai.af q).then i.af,λP b=>(i.new P b).imp id λh1=>oM⟩
  have H:∀P,A P->F P\/S.heap.size<=P:=i.new;have b5:=i.af.get T λd=>by have:=R _ d;omega
  have c7:=(he.ah q).AY i;refine⟨_,_,_,rfl,an.dec (λd9=>?_) (λhz=>?_)⟩
  rotate_left
  ·have b6:a.1=[]:=QW oM
   exact⟨A,{X with waits:=a.2},⟨g,h,b0,b2⟩,C,H,b5,y (Zx b6)⟩
  have b7:a.1≠[]:=λs=>by rw[s,ZQ]at c6;omega
  refine PC.ok (Hc b2 g c7 (V:=V) a6 b4 (λP b=>b.elim (λs=>⟨B.aC P s,λd=>(c5 P s).2 d.1⟩) λd=>⟨(r P d).1,(r P d).2.2⟩) (by show X.S.l.length+_<=_;omega)) ?_;rintro _ c8 ⟨rfl,k,F2,a1,t,I,-⟩;have a0:=C.trans I;have e1:=C.af.size;refine⟨_,rfl,an.df (λb8=>?_) (λh0=>?_)⟩
  ·obtain⟨a2,Db,b,hM,hD⟩:=(show LQ c8 (λP=>F2 P/\a1 P=5) k.wp c.buffer.toNat (cR c {X with waits:=a.2} a.1).2.waits from t.at' 5)
   refine⟨p,0,rfl,_,ae (t.at' 0).2 rfl,PC.ok (sQ b) ?_⟩;rintro _ e2 ⟨rfl,a3,c9⟩;obtain⟨F3,l,J,n,-⟩:=t.AY bA (k:=5) (G':=a2) (C2:=kj p (k.cells c self) k c {(cR c {X with waits:=a.2} a.1).2 with waits:=[]} (cR c {X with waits:=a.2} a.1).2.S.l) ⟨c9.mono λP _ b=>hM P b,λP b=>.inl (hM P b)⟩ a3.Mn ⟨a2,_,a3,λ_ h=>h,λP b=>b.elim⟩ λa4 G hj hc=>by
    rcases a4 with _|_|_|_|_|_|_|a4<;>first|exact hc|exact Zz rfl hj
   refine⟨rfl,Ok.mk ?_⟩;rw[y ((Zq b7).trans (Zx b8))];exact⟨_,F3,rfl,ei.nil _ _ _,⟨g,k,l,J⟩,a0.trans n⟩
  ·refine⟨F2,(cR c {X with waits:=a.2} a.1).2,⟨g,k,a1,t⟩,a0,λP b=>(I.new P b).elim (H P) λK=>.inr (by have:=i.af.size;omega),I.af.get b5 λd=>?_,y ((Zq b7).trans (Zq (by simpa using h0)))⟩
   rcases H _ d with K|K
   ·have:=R _ K;omega
   ·omega
 ·rintro _ d0 ⟨e,f,d1,L,e3,d2,d3⟩ b9 d4
  obtain⟨-,h',o,M⟩:=d1;have u:ai d0 b9:=d4.af;have j:=cu.ah M u;refine⟨p,0,rfl,_,ae j.bf rfl,p,0,rfl,_,ae j.bf rfl,_,ae (u.get d2 id) rfl,PC.ok (GV (j.at' 3).1) ?_⟩;rintro _ d5 ⟨a8,n2,c2,G,rfl,c0,hG,v⟩;have c1:=c0.aC;have e4:=L.af.size;have z2:=u.size;have d6:=v.size;refine⟨_,_,_,_,_,_,_,_,_,rfl,PA.mk λd7 x e5 d8=>?_⟩;have hm:aZ b9 [xR f.S self m.bB] (.slice (XM d5.heap.size) 1 1) d7:=aZ.one (D:=G) d8 ⟨(c0.ah x).row dC (by show f.S.vec.length*8<=aI;rw[f.S.bq];have:f.S.n<=64:=(j.at' 3).1.1.n;unfold aI;omega),dy _ _⟩ (λP b=>⟨hG P b,by have:=c1 P b;omega,by have:=c1 P b;omega⟩) d6 (v.then x);rw[d3];exact Ok.mk ⟨_,e,rfl,hm.out j.aC oM,⟨g,h',o,cu.ah j (v.then x)⟩,((L.af.ah u).ah v).ah x,L.new⟩
end
section
variable {w w' w0 w1 w2:World} {p:Nat} {F E Dv:XN} {cls:Nat->Nat} {h:iL} {c:cy} {self:Int} {X:bD} {m:cN} {va ea:ZH} {vn vc en ec:Nat}
def ky.Ep(P:ky c self):1<=c.chunk/\c.chunk<=32:=by
 have:=P.right;unfold je within at this;simp only[QK,Zk]at this;omega
def pA(hr:bu w p F c self X)(he:Env w0 w F)(V:Row aG 8 w Dv va vn m.vec)(f2:∀P,Dv P->P<w.heap.size/\¬F P)(c7:Row fY 96 w E ea en m.events)(hE:∀P,E P->P<w.heap.size/\¬F P)(hl:X.S.l.length<=18000000):
  ZG 17 #[XL p,iY m va vn vc ea en ec] w (Ok λW w'=>∃q f,W= .tuple #[q,XH (bT c self X m).2.1]/\ei w f (bT c self X m).1 q w'/\bu w' p f c self (bT c self X m).2.2/\cz F w f w'):=by
 have b0:=hr;obtain⟨x,h,cls,g⟩:=hr;have I:=g.aC;obtain⟨f3,h7,h9⟩:=x.bR;have i0:=x.Ep;refine kf (PA.mk λw8 Y s8 g8=>?_);have h8:=cu.ah g Y;have no:∀{w1:World} {i:Int},ai w w1->bT c self X m=([],i,X)->Ok (λW w'=>∃q f,W= .tuple #[q,XH (bT c self X m).2.1]/\ei w f (bT c self X m).1 q w'/\bu w' p f c self (bT c self X m).2.2/\cz F w f w') (.returned (.tuple #[.slice none 0 0,XH i])) w1:=λ{w1 i} J Z=>by
  rw[Z];exact Ok.mk ⟨_,F,rfl,ei.nil _ _ _,b0.ah J,ai.af J,λP a=>.inl a⟩
 refine⟨p,0,rfl,_,ae h8.bf rfl,fE Tryz.underlying95 ⟨_,rfl,?_⟩⟩;have c8:DL w (λP=>F P/\cls P=2) h.dp h.lp X.D X.log:=g.at' 2
 cases y:X.log with
 |none=>
  obtain⟨Fd,-,-,j⟩:=c8;rw[y]at j;have j:h.lp=none:=j;rw[j];exact an.tt rfl (no Y (by unfold bT;rw[y]))
 |some a8=>
 obtain⟨a9,a0,a6,-⟩:=DL.Mk (y▸c8) (he.sub λP a=>a.1) λP a=>I P a.1;have K:∀{r},(if eW m c.bR.toNat c.chunk≠0 then([],eW m c.bR.toNat c.chunk,X)else if m.og≠self then([],1,X)else if m.kind=3 then nj c self X m else
   if m.kind≠4 then(kK X.S self m c.chunk,0,{X with fr:=X.fr.xS m.bB m.vec X.S.vec})else
   if X.S.missing m.vec c.chunk=[]then([],0,{X with fr:=X.fr.xS m.bB m.vec X.S.vec})else([⟨3,self,m.bB,[],X.S.missing m.vec c.chunk⟩],0,{X with fr:=X.fr.xS m.bB m.vec X.S.vec}))=r->bT c self X m=r:=λ{r} l=>by rw[<-l];unfold bT;rw[y]
 rw[a0];refine an.ff rfl λf4 c9=>?_;have L:ai w f4:=Y.then c9.af;have d0:=cu.ah g L;have d1:=(c9.af (S:=λ_=>False)).get g8 id;refine ar (iF m va vn vc ea en ec) d1 ⟨p,0,rfl,_,ae d0.bf rfl,p,0,rfl,_,ae d0.bf rfl,?_⟩;rw[f3];refine PC.ok (Me (V.ah L) (c7.ah L) oM) ?_;rintro _ i1 ⟨rfl,d2⟩;have a1:=L.then d2;have f5:=cu.ah g a1;have d3:=d2.get d1 id;refine⟨_,rfl,an.df (λs=>no a1 (K (Zx s))) (λs=>⟨_,ae d3 rfl,p,0,rfl,_,ae f5.bf rfl,λf7 d4=>?_⟩)⟩;have k:ai w f7:=a1.then d4.af;have i2:=cu.ah g k;have b8:=(d4.af (S:=λ_=>False)).get d3 id;have b9:¬eW m c.bR.toNat c.chunk≠0:=by simpa using s
 refine an.df (λM=>no k (K ((Zq b9).trans (Zx M)))) (λM=>⟨_,ae b8 rfl,an.dJ (λj=>?_) (λj=>λd5 d6=>?_)⟩)
 ·have Z:=K (((Zq b9).trans (Zq (by simpa using M))).trans (Zx j))
  have d7:m.events.length<=1000:=by
   have d:=s;unfold eW at d;simp only at d;rw[Zx j]at d;split at d
   ·cases d
   ·unfold eG at d
    split at d
    ·cases d
    split at d
    ·cases d
    ·omega
  refine ar (iF m va vn vc ea en ec) b8 (PC.ok (Ml (b0.ah k) (he.ah k) y (c7.ah k) (λP a=>⟨by have:=(hE P a).1;have:=k.size;omega,(hE P a).2⟩) d7 hl) ?_);rintro _ i3 ⟨q,f,rfl,b1,g0,b2⟩;have g1:=b1;obtain⟨a2,n2,c2,a7,D,rfl,o2,o3,o4,o5,o6⟩:=b1;refine⟨_,_,_,_,rfl,Ok.mk ?_⟩;have f0:=k.size;rw[Z];exact⟨_,f,rfl,⟨a2,n2,c2,a7,D,rfl,o2,o3,o4,λP a=>⟨by have:=(o5 P a).1;omega,(o5 P a).2⟩,λP a=>⟨by have:=(o6 P a).1;omega,(o6 P a).2⟩⟩,g0,(ai.af k).then b2.af,λP a=>(b2.new P a).imp id λd=>oM⟩
 ·have c0:ai w d5:=k.then d6.af
  have N:=cu.ah g c0;have c1:=(d6.af (S:=λ_=>False)).get b8 id;have d8:dA d5 h.tp (λP=>F P/\cls P=6) X.fr:=N.at' 6;have eQ:=(N.at' 3).1;have nS:¬(F p/\cls p=6):=λi=>by have:=i.2;rw[g.Hb.2]at this;cases this
  have d9:¬(F w.heap.size/\cls w.heap.size=6):=λi=>by have:=I _ i.1;omega
  refine⟨λP=>F P/\cls P=6,p,0,rfl,nS,_,ae N.bf rfl,d9,_,ae c1 rfl,d9,_,_,_,ae c1 rfl,p,0,rfl,_,ae N.bf rfl,PC.ok (kp eQ) ?_⟩;rintro _ g2 ⟨a2,n2,c2,G,rfl,e0,z,hG⟩;have hN:X.S.n<=64:=eQ.1.n;have g3:Row aG 8 g2 G a2 n2 X.S.vec:=e0.row dC (by rw[X.S.bq];unfold aI;omega);have i4:=c0.size;have i5:=z.size;have A:=c0.then z;refine⟨_,_,_,rfl,ai.af z,PC.ok (Hd (d8.ah z) ((V.ah A).rK) g3.rK λ_=>cV.2 λP a l=>?_) ?_⟩
  ·have:=hG P (e0.self P a);have:=I P l.1;omega
  rintro _ c4 ⟨G6,rfl,a3,b3⟩;obtain⟨O,e,B,b,-⟩:=(cu.ah g A).AY bA (k:=6) (G':=G6) (C2:=kj p (h.cells c self) h c {X with fr:=X.fr.xS m.bB m.vec X.S.vec} X.S.l) b3 a3.aC a3 λa4 G hj s=>by
   rcases a4 with _|_|_|_|_|_|_|a4<;>first|exact s|exact Zz rfl hj
  have n:cz F w O c4:=⟨(ai.af A).then b.af,λP a=>(b.new P a).imp id λd=>by have:=A.size;omega⟩
  have Q:=b.af.get (z.get c1 id) λl=>by have:=I _ l;omega
  have b4:=(V.ah A).af b.af λP a=>(f2 P a).2;have i6:=n.af.size;have c5:=λ{r} l=>K (r:=r) (((Zq b9).trans (Zq (by simpa using M))).trans ((Zq j).trans l));refine⟨_,rfl,b3.af,_,ae Q rfl,an.df (λR=>λe1 g4=>?_) (λR=>λe2 g5=>?_)⟩
  ·have C:ai c4 e1:=g4.af
   have t:=cu.ah B C;have i7:=C.size;refine⟨p,0,rfl,_,ae t.bf rfl,p,0,rfl,_,ae t.bf rfl,ar (iF m va vn vc ea en ec) (C.get Q id) ⟨p,0,rfl,_,ae t.bf rfl,PC.ok (He (t.at' 3).1 (show X.S.l.length<=20000000 by omega) (b4.ah C)) ?_⟩⟩;rintro _ g6 c6;obtain⟨a5,S,c3,rfl⟩:=c6.sl;have b5:ai e1 g6:=by obtain⟨_,_,_,_,_,_,_,_,_,_,_,J⟩:=c6;exact J
   refine⟨_,_,_,rfl,Ok.mk ?_⟩;rw[c5 (Zx R)];exact⟨_,O,rfl,c6.out t.aC oM,⟨x,h,e,cu.ah t b5⟩,(n.af.ah C).ah b5,n.new⟩
  ·have o:ai c4 e2:=g5.af
   have H:=cu.ah B o;have i8:=o.size;refine⟨p,0,rfl,_,ae H.bf rfl,_,_,_,ae (o.get Q id) rfl,p,0,rfl,_,ae H.bf rfl,PC.ok (wN (H.at' 3).1 (by show X.S.l.length<=_;omega) (b4.ah o)) ?_⟩;rintro _ e3 ⟨a5,S,c3,G3,rfl,T,u,g7⟩;have e4:=T.len dC;have b6:=T.aC;have e5:=cu.ah H u;have i9:=u.size;have d7:(X.S.missing m.vec c.chunk).length<=32:=by
    unfold au.missing;rw[Qy];omega
   change aO fY 55 G3 e3 a5 S c3 (X.S.missing m.vec c.chunk)at T
   refine⟨_,_,_,rfl,an.dec (λh6=>λe6 g9=>?_) (λhz=>Ok.mk ?_)⟩
   ·have e7:X.S.missing m.vec c.chunk≠[]:=λi=>by
     have b7:S=(X.S.missing m.vec c.chunk).length:=e4;rw[i,ZQ]at b7;omega
    have v:ai e3 e6:=g9.af;have e8:=cu.ah e5 v;have j0:=v.size;refine⟨p,0,rfl,_,ae e8.bf rfl,_,ae (v.get (u.get (o.get Q id) id) id) rfl,PA.mk λh0 U j1 h2=>Ok.mk ?_⟩;have hm:aZ e2 [⟨3,self,m.bB,[],X.S.missing m.vec c.chunk⟩] (.slice (XM e6.heap.size) 1 1) h0:=aZ.one (m:=⟨3,self,m.bB,[],X.S.missing m.vec c.chunk⟩) (va:=none) (vn:=0) (vc:=0) (D:=G3) h2 ⟨dy _ _,((T.ah v).ah U).row dC ba⟩ (λP a=>⟨g7 P a,by have:=b6 P a;omega,by have:=b6 P a;omega⟩) oM ((u.then v).then U);rw[c5 ((Zq (by simpa using R)).trans (Zq e7))];exact⟨_,O,rfl,hm.out H.aC oM,⟨x,h,e,cu.ah e8 U⟩,(((n.af.ah o).ah u).ah v).ah U,n.new⟩
   ·have e9:X.S.missing m.vec c.chunk=[]:=QW (by
     have b7:S=(X.S.missing m.vec c.chunk).length:=e4;omega)
    rw[c5 ((Zq (by simpa using R)).trans (Zx e9))];exact⟨_,O,rfl,ei.nil _ _ _,⟨x,h,e,e5⟩,(n.af.ah o).ah u,n.new⟩
end
variable{e:Int}
section
variable {w w' w0 w1 w2:World} {p:Nat} {F E Dv:XN} {cls:Nat->Nat} {h:iL} {c:cy} {self:Int} {X:bD}
def LR(O:bu w p F c self X)(t:Env w0 w F)(Q:aK e):
  ZG 25 #[XL p,XH e] w (Ok λR w'=>∃r,R= XH (Aa c X e).1/\bu w' p r c self (Aa c X e).2/\cz F w r w'/\(Aa c X e).2.S.l.length<=16777216):=by
 obtain⟨B,h,cls,s⟩:=O;have b8:=s.aC;have b9:=s.Hb;have u:br w F cls (recC p (vR h c self h.lp (XM h.sp) (XM h.bp)) {h with lp:=none} c {X with log:=none} false):=
  ⟨λk=>by
   have f:=s.at' k;rcases k with _|_|_|_|_|_|_|k<;>first|exact f|trivial|(intro S;cases S)|(obtain⟨Fd,i,v,T⟩:=f;exact⟨Fd,i,v,rfl⟩),s.aC⟩
 obtain⟨Fd,U,n,-⟩:=(show DL w (λP=>F P/\cls P=2) h.dp none X.D none from u.at' 2)
 refine lO ⟨p,0,rfl,_,ae (u.at' 0).2 rfl,PC.ok (IG U Q) ?_⟩;rintro _ V ⟨C,rfl,E,H⟩;obtain⟨W,Y,x,o,-⟩:=u.AY fQ (k:=2) (G':=C) (C2:=recC p (vR h c self h.lp (XM h.sp) (XM h.bp)) {h with lp:=none} c {X with log:=none,D:=X.D.zD e} false) ⟨H.af.mono λP _ a=>n P a,λP a=>(H.new P a).imp (n P) id⟩ (λP a=>E.aC P a) ⟨C,E,λP a=>a,rfl⟩ λb G j f=>by
  rcases b with _|_|_|_|_|_|_|b<;>first|exact f|exact Zz rfl j
 obtain⟨I,Db,a,J,hD⟩:=(show LQ V (λP=>W P/\Y P=5) h.wp c.buffer.toNat X.waits from x.at' 5)
 refine⟨rfl,p,0,rfl,_,ae (x.at' 0).2 rfl,PC.ok (sQ a) ?_⟩;rintro _ c0 ⟨rfl,K,Z⟩;obtain⟨l,g,d,m,-⟩:=x.AY fQ (k:=5) (G':=I) (C2:=recC p (vR h c self h.lp (XM h.sp) (XM h.bp)) {h with lp:=none} c {X with log:=none,D:=X.D.zD e,waits:=[]} false) ⟨Z.mono λP _ a=>J P a,λP a=>.inl (J P a)⟩ K.Mn ⟨I,_,K,λ_ h=>h,λP a=>a.elim⟩ λb G j f=>by
  rcases b with _|_|_|_|_|_|_|b<;>first|exact f|exact Zz rfl j
 refine⟨rfl,p,0,rfl,_,ae (d.at' 0).2 rfl,PC.ok (Hf (d.at' 6)) ?_⟩;rintro _ y ⟨rfl,a3,L⟩;have z:br y l g (recC p (vR h c self h.lp (XM h.sp) (XM h.bp)) {h with lp:=none} c {X with log:=none,D:=X.D.zD e,waits:=[],fr:=⟨X.fr.cQ,[],[]⟩} false):=d.same fQ (k:=6) L a3 λb G j f=>by
  rcases b with _|_|_|_|_|_|_|b<;>first|exact f|exact Zz rfl j
 have M:cz F w l y:=by
  have i:=o.trans m;exact⟨i.af.new (L.mono λP _ a=>a.1) λP a=>i.new P a,i.new⟩
 have a5:=t.AY M;have b3:=DL.tR (show DL y (λP=>l P/\g P=2) h.dp none (X.D.zD e) none from z.at' 2) (a5.sub λP a=>a.1);refine⟨rfl,p,0,rfl,_,ae (z.at' 0).2 rfl,PC.ok (Ll t.laid b3) ?_⟩;rintro _ c1 ⟨rfl,a0,b4⟩;obtain⟨G2,b5,a6,b6,-⟩:=DL.KI (Y:=λ_=>False) (a0.mono λP a=>a.elim id False.elim) b4;obtain⟨c2,b7,a7,a1,-⟩:=z.AY fQ (k:=2) (G':=G2) (C2:=recC p (vR h c self h.lp (XM h.sp) (XM h.bp)) {h with lp:=none} c {X with log:=none,D:=yJ (X.D.zD e),waits:=[],fr:=⟨X.fr.cQ,[],[]⟩} false) a6 b6 (by
   obtain⟨Fd,i,v,T⟩:=b5;exact⟨Fd,i,v,rfl⟩) λb G j f=>by
  rcases b with _|_|_|_|_|_|_|b<;>first|exact f|exact Zz rfl j
 have N:=M.trans a1;refine⟨rfl,PC.ok (wO (h:={h with lp:=none}) (z1:=h.lp) (z2:=XM h.sp) (z3:=XM h.bp) a7 B (t.AY N)) ?_⟩;rintro _ c3 ⟨rfl,a8,h',r,q,A,a9⟩;exact⟨_,rfl,Ok.mk ⟨r,rfl,⟨B,h',q,A⟩,N.trans a9,a8⟩⟩
def NV(r:bu w p F c self X)(s:aK e):
  ZG 59 #[XL p,XH e] w (Ok λt w'=>∃l,t= .tuple #[]/\bu w' p l c self {X with D:=X.D.Pw e}/\cz F w l w'):=by
 obtain⟨u,h,cls,g⟩:=r;obtain⟨Fd,v,i,b⟩:=(show DL w (λP=>F P/\cls P=2) h.dp h.lp X.D X.log from g.at' 2)
 refine mK ⟨p,0,rfl,_,ae g.bf rfl,PC.ok (LB s v) ?_⟩;rintro _ m ⟨rfl,x,j⟩;have y:cu m F cls p h c self {X with D:=X.D.Pw e}:=br.same g bA (k:=2) (j.af.mono λP _ a=>i P a) (by
  refine⟨Fd,x,i,?_⟩;show match X.log with
   |none=>h.lp=none
   |some k=>k.bG≠[]/\∃d f,h.lp=some ⟨d,0,none⟩/\gW m h.dp d f k/\∀P,f P->(F P/\cls P=2)/\¬Fd P
  cases n:X.log with
  |none=>rw[n]at b;exact b
  |some k=>
   rw[n]at b;obtain⟨z,d,f,A,B,o⟩:=b;exact⟨z,d,f,A,B.af j.af λP a=>(o P a).2,o⟩) λq G C E=>by
  rcases q with _|_|_|_|_|_|_|q<;>first|exact E|exact Zz rfl C
 exact⟨rfl,Ok.mk ⟨F,rfl,⟨u,h,cls,y⟩,j.af.mono λP _ a=>(i P a).1,λP a=>.inl a⟩⟩
def BS{V:ef}{D:al}{l:List aj}{size:Int}(a:(cm V D l size).no=0):(cm V D l size).V.bG≠[]:=by
 revert a
 unfold cm;split
 ·rename_i P;intro h;exact Zz h P
 split
 ·rename_i P;intro h;exact Zz h P
 ·exact AA
def GA(R:bu w p F c self X)(A:Env w0 w F)(hl:X.S.l.length<=18000000):
  ZG 24 #[XL p] w (Ok λa2 w'=>∃S,a2= XH (gH c X).1/\bu w' p S c self (gH c X).2/\cz F w S w'):=by
 have a6:=R;obtain⟨T,h,cls,n⟩:=R;have a8:=n.aC;refine kh ⟨p,0,rfl,_,ae n.bf rfl,fE Tryz.underlying95 ⟨_,rfl,?_⟩⟩;have U:DL w (λP=>F P/\cls P=2) h.dp h.lp X.D X.log:=n.at' 2
 cases l:X.log with
 |none=>
  obtain⟨Fd,-,-,i⟩:=U;rw[l]at i;have i:h.lp=none:=i;rw[i];have o:gH c X=(15,X):=by unfold gH;rw[l]
  rw[o];exact an.tt rfl (Ok.mk ⟨F,rfl,a6,cz.refl _ _⟩)
 |some b=>
 obtain⟨y,e,B,-⟩:=DL.Mk (l▸U) (A.sub λP a=>a.1) λP a=>a8 P a.1;have C:∀{j},(if(cm b X.D X.S.l c.bN).no≠0 then((cm b X.D X.S.l c.bN).no,{X with D:=(cm b X.D X.S.l c.bN).D})else(0,{X with D:=(cm b X.D X.S.l c.bN).D,log:=some (cm b X.D X.S.l c.bN).V}))=j->gH c X=j:=λ{j} E=>by rw[<-E];unfold gH;rw[l]
 rw[e];refine an.ff rfl λw9 d9=>?_;have V:ai w w9:=d9.af;have m:=cu.ah n V;have W:=n.Hb;have H:¬(F p/\cls p=2):=λq=>by have:=q.2;rw[W.2]at this;cases this
 refine⟨λP=>F P/\cls P=2,p,0,rfl,H,_,ae m.bf rfl,p,0,rfl,H,_,ae m.bf rfl,p,0,rfl,_,ae m.bf rfl,p,0,rfl,H,_,ae m.bf rfl,PC.ok (p_ (m.at' 3).1 oM) ?_⟩;rintro _ r ⟨b6,b7,cc,G,rfl,Y,I,hG⟩;have z:=cu.ah m I;have s:=V.then I;have a9:=Y.aC;obtain⟨Z,g,-,J⟩:=DL.Mk (show DL r (λP=>F P/\cls P=2) h.dp h.lp X.D (some b)from l▸z.at' 2) ((A.ah s).sub λP a=>a.1) λP a=>z.aC P a.1;have E:Z=y:=by rw[e]at g;cases g;rfl
 subst E;refine⟨_,_,_,rfl,ai.af I,?_⟩;rw[e];refine PC.ok (Gf A.laid J (Y.row dC ba) a9 oM) ?_;have a0:=BS (V:=b) (D:=X.D) (l:=X.S.l) (size:=c.bN);generalize cm b X.D X.S.l c.bN=j at C a0;rintro _ a3 ⟨K,a4,b0,a5,⟨t,rfl,b1⟩|⟨t,q3,rfl,b2⟩⟩
 ·obtain⟨Fd,h1,h2,i,h4⟩:=b1
  have L:∀P,¬(P<r.heap.size/\¬(F P/\cls P=2))->(F P/\cls P=2)\/r.heap.size<=P:=λP a=>by
   rcases Nat.lt_or_ge P r.heap.size with M|M
   ·exact .inl (Classical.byContradiction λh8=>a ⟨M,h8⟩)
   ·exact .inr M
  have a1:ak (λP=>F P/\cls P=2) r a3:=a5.mono λP b8 a=>(L P a).resolve_right oM;obtain⟨N,k,f,u,-⟩:=z.dX bA (k:=2) (G':=λP=>Fd P\/K P) (C2:=kj p (h.cells c self) h c {X with D:=j.D} X.S.l) a1 (λP a=>a.elim (λv=>L P λh6=>(i P v).2 (.inl h6)) λv=>L P (b0 P v).2) (λP a=>a.elim (h1.aC P) (a4.aC P)) (by
    refine⟨Fd,h1,λP a=>.inl a,?_⟩;show match X.log with
     |none=>h.lp=none
     |some b=>b.bG≠[]/\∃y Fl,h.lp=some ⟨y,0,none⟩/\gW a3 h.dp y Fl b/\∀P,Fl P->(Fd P\/K P)/\¬Fd P
    rw[l];exact⟨B,Z,K,e,a4,λP a=>⟨.inr a,λhd=>(i P hd).2 (.inr a)⟩⟩) λx G O o=>by
   rcases x with _|_|_|_|_|_|_|x<;>first|exact o|exact Zz rfl O
  refine⟨_,_,rfl,a1,an.dJ (λQ=>Zz Q t) (λ_=>Ok.mk ?_)⟩;rw[C (Zx t)];exact⟨N,rfl,⟨T,h,k,f⟩,(ai.af s).then u.af,λP a=>(u.new P a).imp id λv=>by have:=s.size;omega⟩
 ·obtain⟨G2,b3,u,b4,hY⟩:=DL.EF b2 a5 (a0 t)
  obtain⟨N,k,f,d,-⟩:=z.AY bA (k:=2) (G':=G2) (C2:=kj p (h.cells c self) {h with lp:=XM q3} c {X with D:=j.D,log:=some j.V} X.S.l) u b4 b3 λx G O o=>by
   rcases x with _|_|_|_|_|_|_|x<;>first|exact o|exact Zz rfl O
  refine⟨_,_,rfl,u.af,an.dJ (λ_=>⟨p,0,rfl,PS.mk (f.at' 0).2 sM λb9 a7 c0 b5=>Ok.mk ?_⟩) (λQ=>Zz rfl Q)⟩;rw[C (Zq (by simpa using t))];exact⟨N,rfl,⟨T,{h with lp:=XM q3},k,cu.store f a7 b5⟩,((ai.af s).then d.af).then (a7.mono λP _ q=>by have q:P=p:=q;rw[q];exact W.1),λP a=>(d.new P a).imp id λv=>by have:=s.size;omega⟩
end
variable{S q:Int}{c3:List a_}{d r:ZH}{I:aM}
section
variable {w w' w0 w1 w2:World} {p:Nat} {F E D:XN} {c:cy} {self:Int}
def gu(c:cy)(P:ZH)(tn a:Nat)(b:ZH)(d e:Nat):List Value:=[XH c.bR,XH c.tR,XH c.bN,XH c.chunk,XH c.buffer,XH c.cQ,XH c.every,XH c.start,.slice P tn a,.slice b d e]
abbrev py(c:cy)(P:ZH)(tn a:Nat)(b:ZH)(d e:Nat):Value:=.agg (gu c P tn a b d e).toArray
def tT(c:cy)(P:ZH)(tn a:Nat)(b:ZH)(d e:Nat):gN XP 29 (gu c P tn a b d e)=true:=kR
def nn:ZG 70 #[XH e,XH q,XH S] w (Ok λP w'=>P= .bool (within e q S)/\w=w'):=by
 refine sX (an.dec (λa=>Ok.mk ⟨?_,rfl⟩) (λa=>Ok.mk ⟨?_,rfl⟩))
 ·simp[within];omega
 ·simp[within];omega
def Mo{tn z A B:Nat}:ZG 33 #[py c d tn z r A B,XH self] w (Ok λk w'=>k= .bool (je c self)/\ai w w'):=by
 refine xl (PA.mk λw1 t I a=>?_);have J:∀{l m n:Int} {o:Bool->Prop} {u:List PanicEntry->XU},o (within l m n)->∃p v x,(Value.func (.func 70) #[] #[])= .func (.func p) v x/\enters XP p=true/\PC XP p (v++ #[XH l,XH m,XH n]++x) w1 (λC E=>∃(y:Bool),C= .bool y/\E=w1/\o y) u:=λ{l m n o u} q=>by
  refine⟨_,_,_,rfl,kR,PC.ok nn ?_⟩;rintro _ _ ⟨rfl,rfl⟩;exact⟨_,rfl,rfl,q⟩
 have no:je c self=false->Ok (λk w'=>k= .bool (je c self)/\ai w w') (.returned (.bool false)) w1:=λF=>Ok.mk ⟨by rw[F],t⟩;have b:je c self=(within c.bR 1 64&&(within self 0 (c.bR-1)&&(within c.tR 64 262144&&(decide (c.bN>=1)&&(decide (c.every>=1)&&(within c.chunk 1 32&&(within c.buffer 1 256&&(within c.cQ 1 1048576&&decide (c.start>=0))))))))):=by
  unfold je;simp only[Bool.and_assoc]
 refine⟨_,ae a rfl,_,_,_,rfl,kR,PC.ok nn ?_⟩;rintro _ _ ⟨rfl,rfl⟩;refine⟨_,rfl,an.mk (λP=>⟨_,ae a rfl,_,_,_,rfl,kR,PC.ok nn ?_⟩) (λP=>no (by rw[b,P];rfl))⟩;have H:IntKind.wrap .i64 (c.bR-1)=c.bR-1:=wrap_i64 (by have:=bh.1 P;unfold aK;omega);rw[H];rintro _ _ ⟨rfl,rfl⟩;refine⟨_,rfl,an.mk (λe=>⟨_,ae a rfl,_,_,_,rfl,kR,PC.ok nn ?_⟩) (λe=>no (by rw[b,P,e];rfl))⟩;rintro _ _ ⟨rfl,rfl⟩;refine⟨_,rfl,an.mk (λf=>⟨_,ae a rfl,an.mk (λg=>⟨_,ae a rfl,an.mk (λh=>⟨_,ae a rfl,_,_,_,rfl,kR,PC.ok nn ?_⟩) (λh=>no (by rw[b,P,e,f,g,h];rfl))⟩) (λg=>no (by rw[b,P,e,f,g];rfl))⟩) (λf=>no (by rw[b,P,e,f];rfl))⟩;rintro _ _ ⟨rfl,rfl⟩;refine⟨_,rfl,an.mk (λi=>⟨_,ae a rfl,_,_,_,rfl,kR,PC.ok nn ?_⟩) (λi=>no (by rw[b,P,e,f,g,h,i];rfl))⟩;rintro _ _ ⟨rfl,rfl⟩;refine⟨_,rfl,an.mk (λj=>⟨_,ae a rfl,_,_,_,rfl,kR,PC.ok nn ?_⟩) (λj=>no (by rw[b,P,e,f,g,h,i,j];rfl))⟩;rintro _ _ ⟨rfl,rfl⟩;refine⟨_,rfl,an.mk (λs=>⟨_,ae a rfl,Ok.mk ⟨by rw[b,P,e,f,g,h,i,j,s];rfl,t⟩⟩) (λs=>no (by rw[b,P,e,f,g,h,i,j,s];rfl))⟩
def Ox{P a:Nat}(b:I.types[P]? =some c3)(d:a<c3.length):I.AZ (P:Int) (a:Int)=c3[a]? :=by
 have e:=(Qv.1 b).1;have c:I.at (P:Int)=c3:=by
  unfold aM.at;rw[Zx (bh.2 ⟨oM,oM⟩),Qx,QQ,b];rfl
 unfold aM.AZ;rw[c,Zx (by simp only[QK,bh];exact⟨⟨oM,oM⟩,oM,oM⟩),Qx]
end
section
variable {w w' w0 w1 w2:World} {p:Nat} {F E D:XN} {c:cy} {self:Int}
def Jz{tn tc M pc:Nat}(h:aW w D I d tn r M)(hD:∀P,D P->P<w.heap.size):
  ZG 35 #[.agg #[.slice d tn tc,.slice r M pc]] w (Ok λc4 w'=>∃u BE a2 e v k G,c4= .agg #[.slice u BE a2,.slice e v k]/\aW w' G I u BE e v/\(∀P,G P->w.heap.size<=P/\P<w'.heap.size)/\ai w w'):=by
 have f4:=h.aT.len;have b8:=h.aT.dq;have f5:=h.yp.len;have f7:=h.yp.dq;refine uX (PA.mk λN k4 s4 g4=>PA.mk λw5 k5 s5 g5=>⟨_,_,_,ae (k5.get g4 id) rfl,?_⟩);have x:=k4.then k5;refine yb (aO.nil (c:=tL) (e:=128) w5) IK (h.yp.ah x) (λP a=>⟨by have:=hD P a;omega,λb=>by cases b⟩) (by rw[ZQ];unfold aI at*;omega) (by rw[ZQ];unfold aI at*;unfold maxLen;omega) λe k f Fp d1 k8 j6 d2=>⟨_,_,_,rfl,PA.mk λj7 g0 j8 g1=>PS.mk g1 sM λj9 g2 k0 g3=>PS.mk g3 sM λs g6 k1 g7=>?_⟩
 rw[List.nil_append,Xz]at d1;have a9:=d1.alone;have b9:∀P,aF e=some P->w5.heap.size<=P/\P<f.heap.size:=λP a=>⟨(d2 P a).elim False.elim id,a9.aC P a⟩
 have z8:=k8.size;have y:ai w5 f:=k8.mono λP _ b=>by cases b
 have z:ai f s:=(g0.new g2 λP a=>.inr (by have a:P=f.heap.size:=a;omega)).new g6 λP a=>.inr (by have a:P=f.heap.size:=a;omega);have b0:ai w s:=(x.then y).then z;have gp:=z.get (y.get (k5.get g4 id) id) id;have gr:=z.get (y.get g5 id) id;have b1:s.heap[f.heap.size]? =some (.cells #[.slice none 0 0,.slice e (0+M) k] 25 (0,0)):=g7;rw[Xz]at b1;have k2:=z.size;refine⟨_,_,_,ae gp rfl,λA a3 w'=>∃i:Nat,a3=i/\i<=tn/\A=tn-i/\ak (·=f.heap.size) s w'/\∃O Q oc R,w'.heap[f.heap.size]? =some (.cells #[.slice O Q oc,.slice e M k] 25 (0,0))/\aO jC 130 R w' O Q oc (I.types.take i)/\∀P,R P->s.heap.size<=P,
  ⟨_,0,rfl,Qj _,rfl,ak.refl _,none,0,0,λ_=>False,b1,aO.nil _,λ_ h=>h.elim⟩,?_⟩
 rintro A _ _ S ⟨i,rfl,hj,rfl,t,O,Q,oc,R,T,m,B⟩;have U:ai w S:=b0.new t λP a=>.inr (by have a:P=f.heap.size:=a;have:=x.size;have:=y.size;omega);have zk:=t.size;have b2:=t.get gp λb=>by have b:w.heap.size=f.heap.size:=b;have:=k4.size;omega
 refine an.dec (λk3=>?_) (λk6=>?_)
 ·have g8:i<I.types.length:=oM
  have V:I.types[i]? =some I.types[i]:=Qq g8;generalize I.types[i]=n at V;obtain⟨P,d5,es,ha,a,k7,d6,fa,fn,fc,rfl,W⟩:=(h.aT.ah U).el i n V;have c0:=d6 0 dC;have g9:jC.k=1:=rfl;rw[g9,Nat.mul_one]at c0;have h0:=W.len;have c2:=W.dq;refine⟨P,d5,ha,oM,oM,fa,fn,fc,by rw[Qx];exact c0,PA.mk λk9 h3 l0 h4=>PS.mk h4 sM λj h6 l3 h7=>PA.mk λl4 d3 l5 h8=>PS.mk h8 sM λC d4 l6 h9=>?_⟩;have p:ai S C:=((h3.new h6 λP a=>.inr (by have a:P=S.heap.size:=a;omega)).then d3).new d4 λP a=>.inr (by have a:P=j.heap.size:=a;omega);have d7:=d4.get (d3.get h7 id) oM;have e3:=p.get b2 id;have l7:=p.size;have e4:=U.then p;refine⟨_,_,_,ae d7 rfl,λA a3 w'=>∃g:Nat,a3=g/\g<=fn/\A=fn-g/\ak (·=j.heap.size) C w'/\∃E F X Y,w'.heap[j.heap.size]? =some (.cells #[.slice E F X] 130 (0,0))/\aO nJ 123 Y w' E F X (n.take g)/\∀P,Y P->C.heap.size<=P,
   ⟨_,0,rfl,Qj _,rfl,ak.refl _,none,0,0,λ_=>False,h9,aO.nil _,λ_ h=>h.elim⟩,?_⟩
  rintro A _ _ d8 ⟨g,rfl,hk,rfl,q,E,F,X,Y,gx,o,H⟩;have zx:=q.size;have b3:ai w d8:=e4.new q λP a=>.inr (by have a:P=j.heap.size:=a;have:=U.size;omega);have b4:=q.get e3 λb=>by have b:w.heap.size=j.heap.size:=b;have:=ay b2;omega
  refine an.dec (λj4=>?_) (λj5=>?_)
  ·have d9:g<n.length:=oM
   have J:n[g]? =some n[g]:=Qq d9;have a4:=Ox V d9;rw[J]at a4;obtain⟨fb,fo,e6,-,-,-,-,ya,yn,yc,rfl,-,b5⟩:=(W.ah p).el g n[g] J;generalize n[g]=K at J a4 b5;refine⟨_,_,_,_,_,_,ae b4 rfl,ae b4 rfl,PC.ok (np (h.ah b3) λP a=>by have:=hD P a;have:=b3.size;omega) ?_⟩;rw[a4];rintro _ e0 ⟨e1,Z,a0,cc,Fm,rfl,c3,e2⟩;have e8:=c3.aC;have l8:=e1.size;refine bE (Hg K Z a0 cc) ⟨_,rfl,PA.mk λl9 i0 m0 i1=>az (eC K Z a0 cc) i1 rfl λi2 i3 m1 a7=>?_⟩;have a5:ai e0 i2:=i0.new i3 λP a=>.inr (by have a:P=e0.heap.size:=a;omega);have b6:=e1.then a5;have e9:=b6.get gx id;refine⟨_,_,_,ae e9 rfl,_,_,_,_,_,_,ae a7 rfl,ae a7 rfl,ae a7 rfl,ae a7 rfl,PA.mk λi4 e5 m2 i5=>?_⟩;have a1:=b6.then e5;have f0:=(c3.ah a5).ah e5;have m3:=c3.len dC;have a8:Row fm 32 i4 Fm Z a0 K.bg:=f0.row dC (by
    obtain⟨_,_,_,_,_,_,_,_,_,_,hq,a8,_⟩:=(W.ah p).el g K J;have h1:=a8.dq;have h2:=a8.len;rw[<-h2];exact h1)
   refine dP (c:=nJ) (x:=K) (o.ah a1) Nz i5 (D:=Fm) ⟨Z,a0,cc,rfl,a8,b5⟩ (λP a=>⟨by have:=e8 P a;have:=a5.size;omega,λb=>by have:=o.aC P (o.self P b);have:=e2 P a;omega⟩) (by rw[Qy];unfold aI at*;omega) (by rw[Qy];unfold aI at c2;unfold maxLen;omega) λa' c' m4 L f1 c5 c6=>⟨_,_,_,rfl,?_⟩
   have i6:¬aF E=some j.heap.size:=λb=>by have:=H _ (o.self _ b);omega
   have m5:=a1.size;have m6:=c5.size;have c:∀P,L P->C.heap.size<=P:=λP a=>by
    rcases c6 P a with l|l|l
    ·exact H P l
    ·have:=e2 P l;omega
    ·omega
   refine PS.mk (c5.get (a1.get gx id) i6) sM λm7 e7 m8 i7=>⟨_,oM,g+1,aq (by unfold aI at c2;omega),oM,rfl,((q.ah a1).new c5 λP a=>.inr (H P (o.self P a))).then e7,a',F+1,c',L,i7,?_,c⟩
   rw[Qw,J];exact f1.af e7 λP a b=>by have b:P=j.heap.size:=b;have:=c P a;omega
  ·rw[Qz oM]at o
   have i8:ak (·=j.heap.size) C d8:=q;have b7:=q.get (p.get T id) λb=>by have b:f.heap.size=j.heap.size:=b;have:=ay T;omega
   refine⟨_,_,_,ae b7 rfl,_,_,_,ae gx rfl,PA.mk λi9 c7 m9 j0=>?_⟩;have a6:ai S i9:=(p.new q λP a=>.inr (by have a:P=j.heap.size:=a;omega)).then c7;refine dP (c:=jC) (x:=n) (m.ah a6) JY j0 (D:=Y) ⟨E,F,X,rfl,(o.ah c7).row dC (by rw[<-h0];exact c2)⟩ (λP a=>⟨by have:=o.aC P a;omega,λb=>by have:=m.aC P (m.self P b);have:=H P a;omega⟩) (by rw[Qy];unfold aI at*;omega) (by rw[Qy];unfold aI at b8;unfold maxLen;omega) λa' c' n0 L f2 c8 c6=>⟨_,_,_,rfl,?_⟩
   have j1:¬aF O=some f.heap.size:=λb=>by have:=B _ (m.self _ b);omega
   have n1:=a6.size;have n2:=c8.size;have c:∀P,L P->s.heap.size<=P:=λP a=>by
    rcases c6 P a with l|l|l
    ·exact B P l
    ·have:=H P l;omega
    ·omega
   refine PS.mk (c8.get (c7.get b7 id) j1) sM λn3 c1 n4 j2=>⟨_,oM,i+1,aq (by unfold aI at b8;omega),oM,rfl,((t.ah a6).new c8 λP a=>.inr (B P (m.self P a))).then c1,a',Q+1,c',L,j2,?_,c⟩
   rw[Qw,V];exact f2.af c1 λP a b=>by have b:P=f.heap.size:=b;have:=c P a;omega
 ·rw[Qz oM]at m
  have z5:=y.size;have f6:=t.get gr λb=>by have b:N.heap.size=f.heap.size:=b;omega
  have f8:=((a9.ah z).af t λP a b=>by have b:P=f.heap.size:=b;have:=b9 P a;omega)
  refine⟨_,_,_,_,_,_,ae T rfl,ae T rfl,PS.mk f6 sM λn8 c9 n9 j3=>PS.mk j3 sM λo0 d0 o1 f3=>⟨_,_,_,_,_,_,ae f3 rfl,ae f3 rfl,Ok.mk ⟨_,_,_,_,_,_,λP=>R P\/aF e=some P,rfl,⟨?_,?_⟩,?_,?_⟩⟩⟩
  ·exact(((m.row (bytes:=24) dC (by rw[<-f4];exact b8)).af (c9.then d0) λP a b=>by have b:P=N.heap.size:=b;have:=B P a;omega)).mono λP a=>.inl a
  ·exact(((f8.row (bytes:=40) dC (by rw[<-f5];exact f7)).af (c9.then d0) λP a b=>by have b:P=N.heap.size:=b;have:=b9 P a;omega)).mono λP a=>.inr a
  ·rintro P (a|a)
   ·have:=B P a;have:=m.aC P a;have:=x.size;have:=b0.size;omega
   ·have:=b9 P a;have:=x.size;omega
  ·exact U.new (c9.then d0) λP a=>.inr (by have a:P=N.heap.size:=a;have:=k4.size;omega)
end
variable{a:Nat}{j:Type}
section
variable {w w':World} {D D' S:XN} {d:aM} {ta pa:ZH} {tn tc pn pc:Nat}
def ry(P:a_):Bool:=if P.kind==4 then !within P.bg.length 1 16 else decide (0<P.bg.length)
def AJ(P:List a_):Bool:=!within P.length 1 8||P.any ry
def Hx{P:j->Bool}{b:List j}{c:j}(d:b[a]? =some c)(e:(b.take a).any P=false)(f:P c=false):(b.take (a+1)).any P=false:=by
 rw[Qw,d,List.any_append,e];simp[f]
def JJ{b:j->Bool}{c:List j}{P:j}(d:c[a]? =some P)(e:b P=true):c.any b=true:=List.any_eq_true.2 ⟨P,QZ d,e⟩
def eX{f:Type}{g:f->Int}:∀{a:List f} {b:Nat} {c:f},a[b]? =some c->ck g (a.take b)=0->ck g (a.take (b+1))=g c
 |[],b,c,P,_=>by simp at P
 |y::a,0,c,P,_=>by simp at P;subst P;simp[ck];intro P;exact P.symm
 |y::a,b+1,c,P,d=>by
  simp only[Zw,ck]at d⊢;split at d
  ·rename_i e;simp at e;exact Zz d e
  ·rename_i e;rw[Zq e];exact eX (by simpa using P) d
def ns{b:Type}{a:b->Int}:∀{l:List b} {j:Nat},ck a (l.take j)≠0->ck a l=ck a (l.take j)
 |[],j,P=>by simp at P⊢
 |y::l,0,P=>by simp[ck]at P
 |y::l,j+1,P=>by
  simp only[Zw,ck]at P⊢;split
  ·rfl
  ·rename_i c;rw[Zq c]at P;exact ns P
def Hy(c:aW w D d ta tn pa pn):ZG 67 #[.agg #[.slice ta tn tc,.slice pa pn pc]] w (Ok λe w'=>e= .bool (pO d)/\ai w w'):=by
 have r:=c.aT.len;have s:=c.aT.dq;have hp:=c.yp.len;unfold aI at s;refine Bm (PA.mk λY t s1 u=>⟨_,_,_,ae u rfl,PC.ok bU ?_⟩);rintro _ _ ⟨rfl,rfl⟩;refine⟨_,rfl,an.not (an.mk (λh=>⟨_,_,_,ae u rfl,an.dec (λZ=>Ok.mk ⟨?_,t⟩) (λZ=>⟨_,_,_,ae u rfl,λj k w'=>∃a:Nat,k=a/\a<=tn/\j=tn-a/\(d.types.take a).any AJ=false/\ai Y w',⟨_,0,rfl,Qj _,rfl,sM,ak.refl _⟩,?_⟩)⟩) (λh=>Ok.mk ⟨?_,t⟩))⟩
 ·unfold pO;rw[<-r,h,Zx bc]
 rotate_left
 ·unfold pO;rw[<-r,h];rfl
 have v:pO d=d.types.any AJ:=by unfold pO AJ ry;rw[<-r,h,Zq bc]
 rintro j k _ w2 ⟨a,rfl,hj,rfl,x,K⟩;have l:=t.then K;refine an.dec (λa8=>?_) (λa9=>?_)
 rotate_left
 ·rw[Qz oM]at x
  exact Ok.mk ⟨by rw[v,x],l⟩
 obtain⟨y,z,A,es,rfl,_,_,B,f,a2,g,c1,rfl,C⟩:=((c.ah l).aT).vy (i:=a) oM;have L:=C.len;have a0:=C.dq;unfold aI at a0;have M:=f 0 dC;simp only[jC,Nat.mul_one,Nat.add_zero]at M;refine⟨y,z,rfl,oM,oM,_,_,_,M,PA.mk λw3 k3 s3 g3=>PS.mk g3 sM λm k4 s4 N=>⟨_,_,_,ae N rfl,PC.ok bU ?_⟩⟩;rintro _ _ ⟨rfl,rfl⟩;have n:ai w2 m:=k3.new k4 λy s=>.inr oM;have E:AJ A=true->Ok (λe w'=>e= .bool (pO d)/\ai w w') (.returned (.bool true)) m:=λP=>Ok.mk ⟨by rw[v,JJ B P],l.then n⟩;refine⟨_,rfl,an.not (an.mk (λF=>⟨_,_,_,ae N rfl,λj k w'=>∃i:Nat,k=i/\i<=g/\j=g-i/\(A.take i).any ry=false/\ai m w',⟨_,0,rfl,Qj _,rfl,sM,ak.refl _⟩,?_⟩) (λF=>E (by unfold AJ;rw[<-L,F];rfl)))⟩;rintro m' t' _ w5 ⟨i,rfl,hi,rfl,H,o⟩;have a3:=(l.then n).then o;refine an.dec (λa6=>?_) (λa7=>?_)
 rotate_left
 ·rw[Qz oM]at H
  exact⟨_,oM,a+1,aq oM,oM,rfl,Hx B x (by unfold AJ;rw[<-L,F,H];rfl),(K.then n).then o⟩
 obtain⟨b2,a1,p,b0,rfl,_,_,O,a4,Q,R,S,rfl,T,b1,b3⟩:=((C.ah n).ah o).vy (i:=i) oM;have U:=T.len;have a5:=T.dq;unfold aI at a5;refine⟨b2,a1,rfl,oM,oM,bl (eC p Q R S) rfl a4 (PA.mk λw6 k6 s6 g6=>az (eC p Q R S) g6 rfl λI k7 s7 J=>⟨_,ae J rfl,?_⟩)⟩;have V:ai w5 I:=k6.new k7 λy s=>.inr oM;have W:ry p=true->Ok (λe w'=>e= .bool (pO d)/\ai w w') (.returned (.bool true)) I:=λP=>Ok.mk ⟨by rw[v,JJ B (by unfold AJ;rw[JJ O P];simp)],a3.then V⟩;have next:ry p=false->∃X,X<g-i/\∃q:Nat,IntKind.wrap .i64 ((i:Int)+1)=q/\q<=g/\X=g-q/\(A.take q).any ry=false/\ai m I:=λP=>
  ⟨_,oM,i+1,aq oM,oM,rfl,Hx O H P,o.then V⟩
 refine an.dJ (λb=>⟨_,_,_,ae J rfl,PC.ok bU ?_⟩) (λb=>an.not (an.dJ (λf=>Zz f b) (λ_=>⟨_,_,_,ae J rfl,an.dec (λc=>W ?_) (λc=>next ?_)⟩)))
 ·rintro _ _ ⟨rfl,rfl⟩
  refine⟨_,rfl,an.not (an.mk (λP=>an.not (an.dJ (λ_=>next ?_) (λf=>Zz b f))) (λP=>W ?_))⟩
  ·unfold ry;rw[b,<-U,P];rfl
  ·unfold ry;rw[b,<-U,P];rfl
 ·unfold ry;rw[Zq (by simpa using b)];simp only[Zk];omega
 ·unfold ry;rw[Zq (by simpa using b)];simp only[decide_eq_false_iff_not];omega
def EH(hT:et w)(g:aW w D d ta tn pa pn)(hD:∀a,D a->a<w.heap.size):
  ZG 32 #[.agg #[.slice ta tn tc,.slice pa pn pc]] w (Ok λB w'=>B= XH (cO d)/\ai w w'):=by
 have hl:=g.aT.len;have f:=g.aT.dq;have b1:=g.yp.len;have a6:=g.yp.dq;unfold aI at f a6;refine yP (PA.mk λw1 U s1 C=>⟨_,_,_,_,_,_,ae C rfl,ae C rfl,PC.ok (Hy (g.ah U)) ?_⟩);rintro _ w2 ⟨rfl,V⟩;have W:=U.then V;have X:=V.get C id;refine⟨_,rfl,an.mk (λt=>Ok.mk ⟨by unfold cO;rw[t];rfl,W⟩) (λt=>⟨_,_,_,ae X rfl,λk b w'=>∃P:Nat,b=P/\P<=tn/\k=tn-P/\ck (λb=>ck (eN b) b) (d.types.take P)=0/\ai w2 w',⟨_,0,rfl,Qj _,rfl,rfl,ak.refl _⟩,?_⟩)⟩;rintro k b _ Y ⟨P,rfl,hj,rfl,u,E⟩;have v:=W.then E;have Z:=E.get X id;have F:∀{w':World},ai w w'->∀P c,d.types[P]? =some c->ck (λb=>ck (eN b) b) (d.types.take P)=0->∀x:Int,ck (eN c) c=x->x≠0->Ok (λB w'=>B= XH (cO d)/\ai w w') (.returned (XH x)) w':=by
  intro w' a2 P c y h0 x hr j;have l:=eX y h0;rw[hr]at l;have h2:=ns (l:=d.types) (j:=P+1) (by rw[l];exact j);refine Ok.mk ⟨?_,a2⟩;unfold cO;rw[t,h2,l];simp[j]
 refine an.dec (λb2=>?_) (λb3=>⟨_,_,_,ae Z rfl,λk b w'=>∃i:Nat,b=i/\i<=pn/\k=pn-i/\ck (kN d) (d.projs.take i)=0/\ai Y w',⟨_,0,rfl,Qj _,rfl,rfl,ak.refl _⟩,?_⟩)
 ·obtain⟨a,H,I,es,rfl,_,_,y,hc,b4,n1,c1,rfl,z⟩:=((g.ah v).aT).vy (i:=P) oM
  have b5:=z.len;have a7:=z.dq;unfold aI at a7;have a0:=hc 0 dC;simp only[jC,Nat.mul_one,Nat.add_zero]at a0;refine⟨a,H,rfl,oM,oM,_,_,_,a0,PA.mk λw4 o s4 g4=>PS.mk g4 sM λJ K s5 A=>⟨_,_,_,ae A rfl,λk b w'=>∃i:Nat,b=i/\i<=n1/\k=n1-i/\ck (eN I) (I.take i)=0/\ai J w',⟨_,0,rfl,Qj _,rfl,rfl,ak.refl _⟩,?_⟩⟩;have a8:ai Y J:=o.new K λa f=>.inr oM;rintro m' t' _ L ⟨i,rfl,hi,rfl,e,m⟩;have p:=a8.then m;refine an.dec (λa3=>?_) (λa9=>?_)
  ·obtain⟨M,N,c,b0,rfl,_,_,n,O,Q,R,S,rfl,hM,b6,b7⟩:=(z.ah p).vy (i:=i) oM
   refine⟨M,N,rfl,oM,oM,bl (eC c Q R S) rfl O (PA.mk λw7 h s7 g7=>az (eC c Q R S) g7 rfl λw8 q s8 g8=>⟨_,_,_,ae (q.get (h.get (m.get A id) id) (by have:=m.size;omega)) rfl,ar (eC c Q R S) g8 (PC.ok (EO (hT.ah ?_) (z.ah ?_) (hM.ah ?_)) ?_)⟩)⟩
   ·exact(v.then p).then (h.new q λa f=>.inr oM)
   ·exact p.then (h.new q λa f=>.inr oM)
   ·exact h.new q λa f=>.inr oM
   ·rintro _ w9 ⟨rfl,k9⟩
    have a4:ai L w9:=ak.then (h.new q λa f=>.inr oM) k9;refine⟨_,rfl,an.df (λj=>?_) (λT=>⟨_,oM,i+1,aq oM,oM,rfl,by rw[eX n e];exact T,m.then a4⟩)⟩;have l:=eX n e;exact F ((v.then p).then a4) P I y u _ (by rw[ns (j:=i+1) (by rw[l];exact j),l]) j
  ·rw[Qz oM]at e
   refine⟨_,oM,P+1,aq oM,oM,rfl,by rw[eX y u];exact e,E.then p⟩
 ·rw[Qz oM]at u
  rintro m' t' _ w4 ⟨i,rfl,hi,rfl,e,o⟩;have r:=v.then o;have a1:cO d=ck (kN d) d.projs:=by unfold cO;rw[t,u];simp
  refine an.dec (λa3=>?_) (λa9=>?_)
  ·obtain⟨M,N,c,b0,rfl,_,_,n,O,rfl,_⟩:=((g.ah r).yp).vy (i:=i) oM
   refine⟨M,N,rfl,oM,oM,bl (om c) rfl O (PA.mk λJ K s5 A=>az (om c) A rfl λL m s6 g6=>?_)⟩;have s:ai w4 L:=K.new m λa f=>.inr oM;have a5:=s.get (o.get Z id) id;refine⟨_,_,_,_,_,_,ae a5 rfl,ae a5 rfl,ar (om c) g6 (PC.ok (EP (g.ah (r.then s)) λa f=>by have:=hD a f;have:=(r.then s).size;omega) ?_)⟩;rintro _ w7 ⟨rfl,h⟩;refine⟨_,rfl,an.df (λj=>Ok.mk ⟨?_,(r.then s).then h⟩) (λT=>⟨_,oM,i+1,aq oM,oM,rfl,by rw[eX n e];exact T,(o.then s).then h⟩)⟩;rw[a1,ns (j:=i+1) (by rw[eX n e];exact j),eX n e]
  ·rw[Qz oM]at e
   exact Ok.mk ⟨by rw[a1,e],r⟩
end
def dd(P:cy)(a:Int):Int×bD:=
 if cO P.decl≠0 then(cO P.decl,(EG P).2)else if je P a=false then(1,(EG P).2)else EG P
def AB(b:World)(a:cy)(P:Int)(c:Value)(d:World):Prop:=ai b d/\
 (((dd a P).1≠0/\c= .tuple #[.pointer none,XH (dd a P).1])\/
  ((dd a P).1=0/\∃e f,c= .tuple #[XL e,XH 0]/\bu d e f a P (dd a P).2/\(∀g,f g->b.heap.size<=g)/\(dd a P).2.S.l.length<=16777216))
section
variable {w w' w0 w1 w2:World} {p:Nat} {F E D:XN} {c:cy} {self:Int}
def yi(hT:et w0)(hL:Laid w0)(A:ai w0 w){tn Q B R:Nat}(hd:aW w D c.decl d tn r B)(hD:∀P,D P->P<w.heap.size)(hs:aK c.bN)(d3:aK c.every)(d4:aK c.start):
  ZG 11 #[py c d tn Q r B R,XH self] w (Ok (AB w c self)):=by
 refine Bi (PA.mk λf3 C f4 E=>⟨_,_,_,_,_,_,ae E rfl,ae E rfl,PC.ok (EH (hT.ah (A.then C)) (hd.ah C) λP a=>by have:=hD P a;omega) ?_⟩);rintro _ d5 ⟨rfl,b8⟩;have a3:=C.then b8;have b9:d5.heap[w.heap.size]? =some (.cells (gu c d tn Q r B R).toArray 29 (0,0)):=b8.get E id;refine⟨_,rfl,an.df (λl=>Ok.mk ⟨a3,.inl ?_⟩) (λS=>ar (tT c d tn Q r B R) b9 (PC.ok Mo ?_))⟩
 ·have:dd c self=(cO c.decl,(EG c).2):=by unfold dd;rw[Zx l]
  rw[this];exact⟨l,rfl⟩
 rintro _ T ⟨rfl,c0⟩;have F:=a3.then c0;have U:=c0.get b9 id;refine⟨_,rfl,an.not (an.mk (λm=>?_) (λm=>Ok.mk ⟨F,.inl ?_⟩))⟩
 rotate_left
 ·have:dd c self=(1,(EG c).2):=by unfold dd;rw[Zq (by simpa using S),Zx m]
  rw[this];exact⟨show(1:Int)≠0 by decide,rfl⟩
 have a4:dd c self=EG c:=by unfold dd;rw[Zq (by simpa using S),Zq (by rw[m];simp)]
 have c1:ky c self:=⟨m,S,hs,d3,d4⟩
 have c2:=m;unfold je within at c2;simp only[QK,Zk]at c2;refine⟨_,ae U rfl,PC.ok (rE (A.then F) oM oM) ?_⟩;rintro _ c3 ⟨dp,rfl,d6,V⟩;obtain⟨Fd,c4,-,d7,-⟩:=d6;have H:∀P,Fd P->T.heap.size<=P/\P<c3.heap.size:=λP a=>⟨Nat.le_of_not_lt (d7 P a).2,c4.aC P a⟩
 have W:=F.then V;have X:=V.get U id;refine⟨_,_,rfl,an.df (λl=>Zz rfl l) (λ_=>⟨_,_,_,_,_,_,ae X rfl,ae X rfl,PC.ok (Jz (hd.ah W) λP a=>by have:=hD P a;have:=W.size;omega) ?_⟩)⟩;rintro _ c5 ⟨n,BE,o,p,q,s,I,rfl,d8,J,K⟩;have c6:=W.then K;have d9:=K.get X id;have f5:=C.size;have f7:=F.size;have g1:=V.size;have g2:=K.size;have g3:=ay E;have e8:w.heap.size<T.heap.size:=ay U;refine⟨_,_,_,_,_,_,rfl,PS.mk d9 (by simp[gu]) λg4 e0 g5 e1=>PS.mk e1 (by simp[gu]) λY e2 g6 e3=>λt c7=>?_⟩;have Z:ak (λP=>P=w.heap.size) c5 Y:=e0.then e2;have L:ai Y t:=c7.af;have g7:t.heap.size=Y.heap.size:=by rw[c7.heap]
 have e:t.heap[w.heap.size]? =some (.cells (gu c n BE o p q s).toArray 29 (0,0)):=L.get e3 id;have c8:ai w t:=(c6.new Z λP a=>.inr (by have a:P=w.heap.size:=a;omega)).then L;have h:∀{P:Nat},T.heap.size<=P->P≠w.heap.size:=λ{P} a=>by omega
 refine⟨λ_=>False,id,_,_,_,_,_,_,_,_,_,_,_,_,_,_,ae e rfl,ae e rfl,ae e rfl,ae e rfl,ae e rfl,ae e rfl,ae e rfl,ae e rfl,ae e rfl,ae e rfl,_,ae e rfl,id,_,ae e rfl,PC.ok (HW oM) ?_⟩;rintro _ e4 ⟨i,rfl,c9,e9,f2,b4⟩;refine⟨_,rfl,b4,PC.ok Hh ?_⟩;rintro _ g ⟨tp,M,rfl,a5,N,d0⟩;have g8:=b4.size;have g9:=N.size;have d1:=a5.aC;refine⟨_,rfl,N,PA.mk λb5 O h2 e5=>⟨O,?_⟩⟩
 let f:iL:=⟨n,BE,o,p,q,s,dp,none,0,0,i,tp⟩
 let a2:bD:=⟨⟨c.bR.toNat,[]⟩,Sc c.tR.toNat,none,[],⟨c.cQ,[],[]⟩⟩
 have d2:b5.heap[g.heap.size]? =some (.cells (vR f c self none none none) 99 (0,0)):=e5;have a0:ai t b5:=(b4.then N).then O;have a1:=c8.then a0;have b6:∃u,br b5 (λP=>∃k,(match k with|0=>P=g.heap.size|1=>I P|2=>Fd P|5=>P=i|6=>M P|_=>False:Prop)) u (recC g.heap.size (vR f c self none none none) f c a2 false):=by
  refine br.join (G:=λk P=>match k with|0=>P=g.heap.size|1=>I P|2=>Fd P|5=>P=i|6=>M P|_=>False) (λk=>?_) (λj a9 P b hj=>?_) λk P a=>?_
  ·match k with
   |0=>exact⟨rfl,d2⟩
   |1=>exact(((d8.af Z λP a v=>h (by have:=J P a;omega) v).ah L).ah a0)
   |2=>exact⟨Fd,((((c4.af K λ_ _ f=>f).af Z λP a v=>h (H P a).1 v).af L λ_ _ f=>f).af a0 λ_ _ f=>f),λP a=>a,rfl⟩
   |3=>intro v;cases v
   |4=>trivial
   |5=>exact⟨_,_,c9.ah (N.then O),λ_ f=>f,λP a=>a.elim⟩
   |6=>exact a5.ah O
   |k+7=>trivial
  ·have x:∀j:Nat,(match j with|0=>P=g.heap.size|1=>I P|2=>Fd P|5=>P=i|6=>M P|_=>False:Prop)->j=(if P<c3.heap.size then 2 else if P<c5.heap.size then 1 else if P<e4.heap.size then 5 else if P<g.heap.size then 6 else 0):=λj b=>by
    rcases j with _|_|_|_|_|_|_|j
    ·have b:P=g.heap.size:=b
     rw[Zq oM,Zq oM,Zq oM,Zq oM]
    ·have:=J P b;rw[Zq oM,Zx oM]
    ·have:=H P b;rw[Zx oM]
    ·exact b.elim
    ·exact b.elim
    ·have b:P=i:=b
     rw[Zq oM,Zq oM,Zx oM]
    ·have h5:=d0 P b;have h6:=d1 P b;rw[Zq oM,Zq oM,Zq oM,Zx oM]
    ·exact b.elim
   rw[x j b,<-x a9 hj]
  ·rcases k with _|_|_|_|_|_|_|k
   ·have a:P=g.heap.size:=a
    omega
   ·have:=J P a;omega
   ·have:=H P a;omega
   ·exact a.elim
   ·exact a.elim
   ·have a:P=i:=a
    omega
   ·have:=d1 P a;omega
   ·exact a.elim
 obtain⟨u,hp⟩:=b6;have b7:∀P,(∃k,(match k with|0=>P=g.heap.size|1=>I P|2=>Fd P|5=>P=i|6=>M P|_=>False:Prop))->w.heap.size<=P:=λP ⟨k,a⟩=>by
  rcases k with _|_|_|_|_|_|_|k
  ·have a:P=g.heap.size:=a
   omega
  ·have:=J P a;omega
  ·have:=H P a;omega
  ·exact a.elim
  ·exact a.elim
  ·have a:P=i:=a
   omega
  ·have:=d0 P a;omega
  ·exact a.elim
 refine PC.ok (wO (h:=f) (z1:=none) (z2:=none) (z3:=none) hp c1 ⟨hT,hL,A.then a1,λP a=>by have:=b7 P a;have:=A.size;omega⟩) ?_;rintro _ e6 ⟨rfl,a6,h',F',y,z,a7⟩;have e7:gI c a2=EG c:=rfl;rw[e7]at z a6⊢;have a8:ai w e6:=a1.new a7.af λP a=>.inr (b7 P a);refine⟨_,rfl,an.df (λl=>Ok.mk ⟨a8,.inl ?_⟩) (λhz=>Ok.mk ⟨a8,.inr ?_⟩)⟩
 ·rw[a4];exact⟨l,rfl⟩
 ·rw[a4]
  exact⟨hz,_,F',rfl,⟨c1,h',y,z⟩,λP a=>(a7.new P a).elim (b7 P) λh5=>by have:=a1.size;omega,a6⟩
end
def JA(P:World):(callMethod (.iface 97 (XL a)) "State" #[XH e,XH q]).run XP P= .ok (.enter 391 #[XL a,XH e,XH q]) P:=kR
def EI(P:World):(callMethod (.iface 97 (XL a)) "Entries" #[]).run XP P= .ok (.enter 389 #[XL a]) P:=kR
def Mp(P:World):(callMethod (.iface 97 (XL a)) "Rows" #[XH e]).run XP P= .ok (.enter 390 #[XL a,XH e]) P:=kR
def BN(P:aM)(a:List aj)(b c:Int):px:=match(cf P a).state b c with
 |none=>kM 14
 |some d=>⟨0,(0,0),d,[],[],false⟩
def vH(b:aM)(c:List aj)(a P:Int):px:=if a<0\/a>=(b.projs.length:Int)then kM 1 else⟨0,(0,0),⟨0,[]⟩,[],(ml (gT b c a) P 32).1,(ml (gT b c a) P 32).2⟩
section
variable {w w' w0 w1 w2:World} {p:Nat} {F E D:XN} {cls:Nat->Nat} {h:iL} {c:cy} {self:Int} {X:bD}
def AD(P:cu w F cls p h c self X):ZG 66 #[XL p] w (Ok λa w'=>a= .iface 97 (XL h.bp)/\w=w'):=
 mM ⟨p,0,rfl,_,ae P.bf rfl,Ok.mk ⟨rfl,rfl⟩⟩
def yd(x:bu w p F c self X):ZG 30 #[XL p,XH e,XH q] w (Ok λy w'=>gY w (BN c.decl X.S.l e q) y w'/\ai w w'):=by
 obtain⟨z,h,cls,n⟩:=x;refine nR (PA.mk λA d S B=>PC.ok (AD (cu.ah n d)) ?_);rintro _ _ ⟨rfl,rfl⟩;have C:=cu.ah n d;have P:cJ A h.bp (λa=>F a/\cls a=4) c.decl c.every.toNat X.S.l:=C.at' 4;refine⟨_,rfl,_,_,JA,PC.ok (HV P) ?_⟩;rintro _ o ⟨i,j,k,G,rfl,l,r,f⟩;have E:=l.aC;have T:=f.size;refine⟨_,_,_,_,_,rfl,PA.mk λU H V I=>PS.mk I sM λW J Y K=>PS.mk K sM λL M Z m=>?_⟩;have b:ai o L:=H.new (J.then M) λa P=>.inr (by have P:a=o.heap.size:=P;omega);have s:=b.get (f.get B id) id;have b0:=b.size;have t:(((cf c.decl X.S.l).state e q).getD EZ).cells.length<=8:=Cb (FA z.decl X.S.l).1 ⟨0,0,0,[],e,q,0,0,0,0⟩;unfold BN
 cases N:(cf c.decl X.S.l).state e q with
 |none=>
  refine an.tt rfl (az (iM (kM 14) none 0 0 none 0 0 none 0 0) s rfl λb1 O b2 Q=>ar (iM (kM 14) none 0 0 none 0 0 none 0 0) Q (Ok.mk ⟨gY.plain rfl rfl rfl,?_⟩));exact((d.then f).then b).new O λa P=>.inr (by have P:a=w.heap.size:=P;omega)
 |some g=>
  rw[N]at l t m;refine an.ff rfl ⟨_,_,_,_,ae m rfl,ae m rfl,az (iM ⟨0,(0,0),g,[],[],false⟩ i j k none 0 0 none 0 0) s rfl λb3 u b4 R=>ar (iM ⟨0,(0,0),g,[],[],false⟩ i j k none 0 0 none 0 0) R (Ok.mk ⟨?_,?_⟩)⟩
  ·refine⟨i,j,k,none,0,0,none,0,0,G,rfl,((l.ah b).af u λa P v=>by have v:a=w.heap.size:=v;have:=r a P;omega).row dC (by have:g.cells.length<=8:=t;show g.cells.length*32<=aI;unfold aI;omega),dy _ _,dy _ _,λa P=>⟨by have:=r a P;omega,by have:=E a P;omega⟩⟩
  ·exact((d.then f).then b).new u λa P=>.inr (by have P:a=w.heap.size:=P;omega)
def Mq(b:aM)(P:List aj)(c:Int):(gT b P c).length<=P.length:=by
 unfold gT;split
 ·simp
 split
 ·simp
 ·rename_i a d
  have f:=JZ b P a (QZ d);have e:=(vQ (a.rows.map (·.2))).length_eq;rw[Q8]at e;show(a.rows.map (·.2)|>.foldr lz []).length<=_;omega
def qg(A:bu w p F c self X):ZG 54 #[XL p,XH e,XH q] w (Ok λf w'=>gY w (vH c.decl X.S.l e q) f w'/\ai w w'):=by
 obtain⟨R,h,cls,B⟩:=A;refine lP (PA.mk λg i S r=>?_);have b:=cu.ah B i;have no:(e<0\/e>=(c.decl.projs.length:Int))->w_ XP 46 (XL w.heap.size) (.agg (l_ (kM 1) none 0 0 none 0 0 none 0 0).toArray) g λs=>nK XP 46 (XL w.heap.size) s λC=>Ok (λf w'=>gY w (vH c.decl X.S.l e q) f w'/\ai w w') (.returned C) s:=λE=>by
  refine az (iM (kM 1) none 0 0 none 0 0 none 0 0) r rfl λT H U I=>ar (iM (kM 1) none 0 0 none 0 0 none 0 0) I (Ok.mk ⟨?_,i.new H λP a=>.inr (by have a:P=w.heap.size:=a;omega)⟩);unfold vH;rw[Zx E];exact gY.plain rfl rfl rfl
 have V:=(show aW g (λP=>F P/\cls P=1) c.decl h.ta h.tn h.pa h.pn from b.at' 1).yp.len;refine an.dec (λj=>no (.inl j)) (λj=>⟨p,0,rfl,_,_,_,ae b.bf rfl,an.dec (λt=>no (.inr oM)) (λt=>PC.ok (AD b) ?_)⟩);rintro _ _ ⟨rfl,rfl⟩;have a:cJ g h.bp (λP=>F P/\cls P=4) c.decl c.every.toNat X.S.l:=b.at' 4;have W:X.S.l.length<=20000000:=a.1.2.2.2;have Y:=Mq c.decl X.S.l e;refine⟨_,rfl,_,_,Mp,PC.ok (KY a) ?_⟩;rintro _ Z ⟨⟨a0,a1,cc,G,rfl,d,k,hG⟩,J⟩;have hn:=d.len dC;have K:=d.jB;refine⟨_,_,_,rfl,PC.ok (Js (d.row dC ba) d.aC K J oM) ?_⟩;rintro _ L ⟨a2,rfl,l,m,n,M,rfl,u,o,v⟩;have N:=u.aC;have a9:=k.size;have b0:=o.size;have b1:(ml (gT c.decl X.S.l e) q 32).1.length<=32:=by unfold ml;rw[Qy];omega
 have O:ai w L:=(i.then k).then o;refine⟨_,_,_,_,rfl,az (iM ⟨0,(0,0),⟨0,[]⟩,[],(ml (gT c.decl X.S.l e) q 32).1,(ml (gT c.decl X.S.l e) q 32).2⟩ none 0 0 none 0 0 l m n) (o.get (k.get r id) id) rfl λb2 x b3 Q=>ar (iM ⟨0,(0,0),⟨0,[]⟩,[],(ml (gT c.decl X.S.l e) q 32).1,(ml (gT c.decl X.S.l e) q 32).2⟩ none 0 0 none 0 0 l m n) Q (Ok.mk ⟨?_,O.new x λP a=>.inr (by have a:P=w.heap.size:=a;omega)⟩)⟩;unfold vH;rw[Zq (by rintro(y|y);exact j y;exact t oM)];refine⟨none,0,0,none,0,0,l,m,n,M,rfl,dy _ _,dy _ _,(u.af x λP a z=>by have z:P=w.heap.size:=z;have:=v P a;omega).row dC (by show(ml (gT c.decl X.S.l e) q 32).1.length*24<=aI;unfold aI;omega),λP a=>⟨by have:=v P a;omega,by have:=N P a;omega⟩⟩
end
def AW{b:Type}{c:b->Bool}:∀{L:List b} {j:Nat} {P:b},L[j]? =some P->c P=true->(L.filter c)[((L.take j).filter c).length]? =some P
 |[],j,P,a,_=>by simp at a
 |x::L,0,P,a,d=>by simp at a;subst a;simp[d]
 |x::L,j+1,P,a,d=>by
  have e:=AW (L:=L) (j:=j) (by simpa using a) d;rw[Zw,List.filter_cons,List.filter_cons];split
  ·simpa using e
  ·exact e
variable{C g7:Nat×Nat}{g o:TypeId}
section
variable {w w' wz A B w1:World} {D:XN} {a:ZH} {n c:Nat} {l:List cC} {O R1 R2 f most:Nat} {own L:List (Bx cC)} {pre:List (List Value)}
def Rw(b P:Int)(a:cC):Bool:=a.ev.aT==b&&a.ev.agg==P
def BZ{e:cC}{a:ZH}{n c:Nat}(i:Row aG 8 w D a n e.ev.aN)(t:∀P,D P->P<w.heap.size):
  ZG 164 #[Dj e a n c] w (Ok λu w'=>∃a n c G,u=Dj e a n c/\Row aG 8 w' G a n e.ev.aN/\(∀P,G P->w.heap.size<=P/\P<w'.heap.size)/\ai w w'):=by
 have v:=i.dq;have x:=i.len;refine xD (PA.mk λw1 m A f=>PA.mk λB g C j=>⟨_,_,_,ae (g.get f id) rfl,PC.ok (bP (i.ah (m.then g)) λP b=>by have:=t P b;omega) ?_⟩);rintro _ E ⟨o,p,q,G,rfl,r,h,k⟩;have f:=h.get (g.get f id) id;have j:=h.get j id;have F:=h.size;refine⟨_,_,_,rfl,PS.mk f sM λH l I y=>?_⟩;refine ar (cs:=fZ e o p q) (km _ _ _ _) y (az (km _ _ _ _) (l.get j (λd=>by have d:w1.heap.size=w.heap.size:=d;omega)) rfl λJ s K z=>ar (km _ _ _ _) z (Ok.mk ⟨o,p,q,G,rfl,?_,?_,?_⟩))
 ·refine(((r.af l λP b d=>?_).af s λP b d=>?_).row (bytes:=8) dC (by rw[<-x];exact v))
  ·have d:P=w.heap.size:=d;have:=k P b;omega
  ·have d:P=w1.heap.size:=d;have:=k P b;omega
 ·intro P b
  have:=k P b;have:=r.aC P b;omega
 ·exact((((m.then g).then h).new l λP b=>.inr (by have b:P=w.heap.size:=b;omega)).new s λP b=>.inr (by have b:P=w1.heap.size:=b;omega))
def ME{d:cC}{f h:Nat}(j:w.heap[f]? =some (.cells #[XH e] g C))(k:w.heap[h]? =some (.cells #[XH q] o g7)):
  ZG 163 #[Dj d a n c,XL f,XL h] w (Ok λl w'=>l= .bool (Rw e q d)/\ai w w'):=by
 refine xC (PA.mk λw1 P m i=>⟨_,ae i rfl,_,ae (P.get j id) rfl,an.mk (λb=>⟨_,ae i rfl,_,ae (P.get k id) rfl,Ok.mk ⟨?_,P⟩⟩) (λb=>Ok.mk ⟨?_,P⟩)⟩)
 ·unfold Rw;rw[b];rfl
 ·unfold Rw;rw[b];rfl
structure MM (wz:World) (O:Nat) (own:List (Bx cC)) (f most:Nat) (pre:List (List Value)) (A:World):Prop where
 af:ak (·=O) wz A
 dq:wz.heap.size+2<=A.heap.size
 nx:∃a n c G,A.heap[O]? =some (.cells #[.slice a n c] 43 (0,0))/\aO wZ 160 G A a n c (((own.take pre.length).drop f).map (·.x))/\(∀b,G b->wz.heap.size+2<=b)/\n<=most
structure SL (wz:World) (O R1 R2:Nat) (own:List (Bx cC)) (f most:Nat) (A:World):Prop where
 af:ak (λb=>b=O\/b=R1\/b=R2) wz A
 r2:A.heap[R2]? =some (.cells #[.bool true] 4 (0,0))
 more:most<(own.drop f).length
 nx:∃a n c G,A.heap[R1]? =some (.cells #[.slice a n c] 43 (0,0))/\aO wZ 160 G A a n c (((own.drop f).take most).map (·.x))/\(∀b,G b->wz.heap.size+2<=b)
def MM.ah(b:MM wz O own f most pre A)(P:ai A B):MM wz O own f most pre B:=by
 obtain⟨d,e,a,n,c,G,g,h,i⟩:=b;exact⟨d.ah P,Xx e P.size,a,n,c,G,P.get g id,h.ah P,i⟩
def MM.dX(o:O<wz.heap.size)(h:MM wz O own f most pre A)(i:oH (wz.heap.size+1) A B):MM wz O own f most pre B:=by
 obtain⟨j,p,a,n,c,G,k,l,g,m⟩:=h;obtain⟨e,q⟩:=i;exact⟨j.new e λb d=>.inr (by have d:b=wz.heap.size+1:=d;omega),oM,a,n,c,G,e.get k (λP=>by have P:O=wz.heap.size+1:=P;omega),l.af e λb d P=>by have P:b=wz.heap.size+1:=P;have:=g b d;omega,g,m⟩
def SL.dX(q:O<wz.heap.size/\R1<wz.heap.size/\R2<wz.heap.size)(h:SL wz O R1 R2 own f most A){k:Nat}(r:wz.heap.size<=k/\k<=wz.heap.size+1)(i:oH k A B):SL wz O R1 R2 own f most B:=by
 obtain⟨j,l,m,a,n,c,G,o,p,g⟩:=h;obtain⟨b,s⟩:=i;exact⟨j.new b λd e=>.inr (by have e:d=k:=e;omega),b.get l (λP=>by have P:R2=k:=P;omega),m,a,n,c,G,b.get o (λP=>by have P:R1=k:=P;omega),p.af b λd e P=>by have P:d=k:=P;have:=g d e;omega,g⟩
def QI{r s t u:Nat}{R:XU}{Rx:XU}(hO:O<wz.heap.size)(Y:wz.heap[r]? =some (.cells #[XH e] g C))(Z:wz.heap[s]? =some (.cells #[XH q] o g7))(h1:r≠O)(h2:s≠O)(v:∃j f,wz.heap[t]? =some (.cells #[.slice a n c] j f))(h3:t≠O)(w:∃j f,wz.heap[u]? =some (.cells #[.func (.func 163) #[] #[XL r,XL s]] j f))(h4:u≠O)(I:Row JU.jq 120 wz D a n L)(hD:∀P,D P->P<wz.heap.size/\P≠O)(J:own=L.filter λP=>Rw e q P.x)(b6:L.length<=20000000)(hR:∀A B,R A->ak (mE wz) A B->R B)(hy:∀pre l A,MM wz O own f most pre A->R A->rL [XH 0,Dj ⟨qu,false,(0,0)⟩ none 0 0] l->(∃P,own[pre.length]? =some P/\l=[XH (pre.length:Int),Dj P.x P.a P.n P.c])->iU XP (wz.heap.size+1) l A λP d=>(P=true/\MM wz O own f most (pre++[l]) d/\R d)\/(P=false/\SL wz O R1 R2 own f most d/\Rx d))(K:MM wz O own f most [] w1)(a4:R w1):
  ZG 237 #[.func (.yield (wz.heap.size+1)) #[] #[],XL t,XL u] w1 (λj d=>(∃a0,j= .returned a0)/\((R d/\∃k:List (List Value),MM wz O own f most k d/\k.length=own.length)\/(SL wz O R1 R2 own f most d/\Rx d))):=by
 obtain⟨e3,f3,v⟩:=v;obtain⟨e4,f4,w⟩:=w;have hn:=I.len;refine tD ⟨_,_,_,ae (K.af.get v h3) rfl,λM a1 x w'=>∃(b:Nat) (pre:List (List Value)),x=b/\b<=n/\M=n-b/\a1=(pre.length:Int)/\pre.length=((L.take b).filter λP=>Rw e q P.x).length/\MM wz O own f most pre w'/\R w',⟨_,0,[],rfl,Qj _,rfl,rfl,rfl,K,a4⟩,?_⟩;rintro M _ _ _ N ⟨b,pre,rfl,hj,rfl,rfl,i,m,Q⟩;refine an.dec (λb7=>?_) (λb8=>?_)
 ·obtain⟨P,h⟩:∃P,L[b]? =some P:=⟨_,Qq oM⟩
  obtain⟨a2,a3,es,ha,a5,a6,y,rfl,-⟩:=(I.af m.af λP h=>(hD P h).2).el b P h;have b3:pre.length<=20000000:=by
   rw[i];have h5:=List.length_filter_le (λP:Bx cC=>Rw e q P.x) (L.take b);have h6:=List.length_take_le b L;omega
  refine⟨a2,a3,ha,oM,oM,bl (es:=fZ P.x P.a P.n P.c) (k:=13) (km _ _ _ _) rfl (λx ht=>by rw[Qx];exact y x ht) (PA.mk λb9 a7 c0 a8=>az (km P.x P.a P.n P.c) a8 rfl λa9 b0 c1 S=>?_)⟩;have T:ai N a9:=a7.new b0 λP h=>.inr (by have h:P=N.heap.size:=h;omega);have z:=m.ah T;refine⟨_,ae (z.af.get w h4) rfl,ar (km P.x P.a P.n P.c) S ⟨_,_,_,rfl,kR,PC.ok (ME (z.af.get Y h1) (z.af.get Z h2)) ?_⟩⟩;rintro _ b1 ⟨rfl,U⟩;have V:=T.then U;have W:=m.ah V;have X:=hR _ _ Q (ai.af V);refine⟨_,rfl,an.not (an.mk (λp=>?_) (λp=>⟨_,oM,b+1,pre,aq oM,oM,rfl,rfl,?_,W,X⟩))⟩
  rotate_left
  ·rw[Qw,h,List.filter_append,i];simp[p]
  refine ar (km P.x P.a P.n P.c) (U.get S id) ⟨_,rfl,(hy pre _ b1 W X ?_ ⟨P,?_,rfl⟩).mono ?_⟩
  ·exact λφ E=>E pre.length P.x.ev.origin P.x.ev.seq P.x.ev.ax P.a P.n P.c P.x.ev.aT P.x.ev.agg P.x.ev.field P.x.ev.op P.x.ev.arg P.x.ev.key P.x.void P.x.Dh.1 P.x.Dh.2
  ·rw[J,i];exact AW h p
  ·rintro b' d (⟨rfl,F,b5⟩|⟨rfl,H,b2⟩)
   ·refine an.ff rfl ⟨_,oM,b+1,pre++[_],aq oM,oM,rfl,?_,?_,F,b5⟩
    ·rw[aq oM];simp
    ·rw[Qw,h,List.filter_append,QX,QX,<-i];simp[p]
   ·exact an.tt rfl ⟨⟨_,rfl⟩,.inr ⟨H,b2⟩⟩
 ·rw[Qz oM]at i
  exact⟨⟨_,rfl⟩,.inl ⟨Q,pre,m,by rw[J];exact i⟩⟩
end
section
variable {w w' wz A B w1:World} {D:XN} {a:ZH} {n c:Nat} {l:List cC}
def Hi{most:Nat}(I:Row wZ 120 w D a n l)(hD:∀P,D P->P<w.heap.size)(hm:most<=1000)(hl:l.length<=20000000)(k1:aK S):
  ZG 109 #[.slice a n c,XH e,XH q,XH S,XH (most:Int)] w (Ok λa6 w'=>∃N,a6= .tuple #[N,.bool (jx l e q S most).2]/\od wZ 160 w (jx l e q S most).1 N w'):=by
 obtain⟨V,c1,hL,e8⟩:=d_.boxes (N:=JU) I;have k5:V.length=l.length:=by rw[<-c1,Q8]
 obtain⟨own,p⟩:∃own,own=V.filter λP=>Rw e q P.x:=⟨_,rfl⟩
 obtain⟨i,hf⟩:∃i:Nat,i=(max S 0).toNat:=⟨_,rfl⟩
 have c7:own.map (·.x)=l.filter λb=>b.ev.aT==e&&b.ev.agg==q:=by rw[p,<-c1,List.filter_map];rfl
 have e9:jx l e q S most=(((own.drop i).take most).map (·.x),decide (most<(own.drop i).length)):=by
  unfold jx;rw[<-c7,<-hf];simp only[List.map_take,List.map_drop,XZ,Q8]
 rw[e9];have h4:own.length<=20000000:=by rw[p];have:=List.length_filter_le (λP:Bx cC=>Rw e q P.x) V;omega
 refine BA (PA.mk λw6 k6 s6 g6=>PA.mk λv k7 s7 g7=>PA.mk λw8 k8 s8 g8=>PA.mk λj k9 s9 g9=>PA.mk λk a0 l0 f3=>PA.mk λm W l3 f4=>PA.mk λf5 O l4 f7=>?_);have a7:=(((k8.then k9).then a0).then W).then O;have c8:=a7.get (show v.heap[w6.heap.size]? =_ from g7) id;have k2:(if 0>(if False then(0:Int)else S)then 0 else S)=(i:Int):=by simp;split<;>omega
 refine⟨_,ae ((((k9.then a0).then W).then O).get g8 id) rfl,?_⟩;have g0:(if 0>S then(0:Int)else S)=(i:Int):=by rw[hf];split<;>omega
 rw[g0];refine PS.mk ((((k9.then a0).then W).then O).get g8 id) sM λE J l5 g1=>?_;have c9:E.heap[v.heap.size]? =some (.cells #[XH (i:Int)] 3 (0,0)):=g1;have d0:ai w f5:=((k6.then k7).then a7)
 have d1:ai w E:=d0.new J λP d=>.inr (by have d:P=v.heap.size:=d;omega);have d2:=J.get ((k7.then a7).get g6 id) (λb=>by have b:w.heap.size=v.heap.size:=b;omega);have d5:=J.get c8 (λb=>by have b:w6.heap.size=v.heap.size:=b;omega);have d6:=J.get (((a0.then W).then O).get g9 id) (λb=>by have b:w8.heap.size=v.heap.size:=b;omega);have d8:=J.get ((W.then O).get f3 id) (λb=>by have b:j.heap.size=v.heap.size:=b;omega);have e1:=J.get (O.get f4 id) (λb=>by have b:k.heap.size=v.heap.size:=b;omega);have e2:=J.get f7 (λb=>by have b:m.heap.size=v.heap.size:=b;omega);refine PC.ok (φ:=λa6 w'=>a6= .func (.func 237) #[] #[XL E.heap.size,.pointer (some ⟨E.heap.size+1,0,none⟩)]/\w'.heap[E.heap.size]? =some (.cells #[.slice a n c] 43 (0,0))/\(∃b ff,w'.heap[E.heap.size+1]? =some (.cells #[.func (.func 163) #[] #[XL w.heap.size,XL w6.heap.size]] b ff))/\ai E w'/\w'.heap.size=E.heap.size+2)
  (yX (PA.mk λw3 k3 s3 g3=>PA.mk λw4 k4 s4 g4=>Ok.mk ⟨by rw[s3],k4.get g3 id,⟨_,_,by rw[<-s3];exact g4⟩,k3.then k4,oM⟩)) ?_
 rintro _ wz ⟨rfl,g2,g5,y,sz⟩;have h:=d1.then y;have a8:=y.get d2 id;have a9:=y.get d5 id;have b0:=y.get d6 id;have b1:=y.get c9 id;have K:=y.get d8 id;have L:=y.get e1 id;have X:=y.get e2 id;have Y:m.heap.size<wz.heap.size:=ay X;have d3:j.heap.size<wz.heap.size:=ay K;have d4:k.heap.size<wz.heap.size:=ay L;have b2:∀P,D P->P<wz.heap.size/\P≠m.heap.size:=λP d=>⟨by have:=hD P d;have:=h.size;omega,λb=>by have:=hD P d;omega⟩
 have e3:∀P∈V,JU.In wz D P:=λP d=>(e8 P d).af h λ_ _ I=>I;have e5:∀{c0:Nat} {P:Bx cC},own[c0]? =some P->P∈V:=λ{c0 P} d=>by
  have:=QZ d;rw[p]at this;exact(List.mem_filter.1 this).1
 refine⟨_,rfl,237,_,rfl,kR,Unit,(),λ_=>MM wz m.heap.size own i most,λN _ A=>N= .ret/\SL wz m.heap.size j.heap.size k.heap.size own i most A,
  λf Q=>∃P,own[f.length]? =some P/\Q=[XH (f.length:Int),Dj P.x P.a P.n P.c],λz=>z.length=own.length,?_,λ_ f A B M t=>M.dX Y t,λN f A B hx t=>⟨hx.1,hx.2.dX ⟨Y,d3,d4⟩ ⟨oM,oM⟩ t⟩,?_,?_,?_,?_,trivial⟩
 ·intro w1 hk hs
  refine⟨ai.af hk,oM,none,0,0,λ_=>False,hk.get X id,?_,λP d=>d.elim,Qj _⟩;simpa using aO.nil w1
 ·rintro _ f A M l6 l7 l8 l9 m0 ta tn tc m1 m2 m3 m4 m5 m6 m7 m8 m9 ⟨P,d,he⟩
  simp only[fZ,aB,List.cons_append,List.nil_append,List.cons.injEq,Value.agg.injEq,Array.mk.injEq,Value.int.injEq,XX,Value.bool.injEq,and_true,true_and]at he;obtain⟨rfl,rfl,rfl,rfl,⟨rfl,rfl,rfl⟩,rfl,rfl,rfl,rfl,rfl,rfl,rfl,rfl,rfl⟩:=he;have n0:f.length<own.length:=(Qv.1 d).1;refine PA.mk λn1 h0 n3 h8=>az (km P.x P.a P.n P.c) h8 rfl λh9 i0 n4 i1=>?_;have c2:ai A h9:=h0.new i0 λP d=>.inr (by have d:P=A.heap.size:=d;omega);refine⟨ai.af c2,λb3 t=>?_⟩;have c3:=(M.ah c2).dX Y t;have i2:=t.1.get i1 (λb=>by have b:A.heap.size=wz.heap.size+1:=b;omega);have n8:=t.2;have Z:=c3.af;have c4:∀Q:List Value,(((own.take (f++[Q]).length).drop i)=if f.length<i then []else((own.take f.length).drop i)++[P]):=λQ=>by
   rw[QX,List.length_singleton,Qw,d];have i3:(own.take f.length).length=f.length:=by rw[Qy];omega
   split
   ·rename_i r
    exact List.drop_eq_nil_of_le (by rw[QX,i3];simp;omega)
   ·rename_i r
    rw[List.drop_append_of_le_length oM];rfl
  obtain⟨o,x,C,F,R,G,u,s,r,h6⟩:=c3;have a1:=s.len dC;rw[Q8,XZ,Qy,X2 oM]at a1;refine⟨_,ae (Z.get b1 (λb=>by have b:v.heap.size=m.heap.size:=b;omega)) rfl,an.dec (λn9=>⟨ak.refl _,?_⟩) (λo0=>⟨_,_,_,ae u rfl,_,ae (Z.get b0 (λb=>by have b:w8.heap.size=m.heap.size:=b;omega)) rfl,an.dec (λi4=>?_) (λi5=>λd7 i6=>?_)⟩)⟩
  ·refine⟨o,x,C,F,R,G,u,?_,r,h6⟩
   rw[c4,Zx oM];rw[List.drop_eq_nil_of_le (by rw[Qy];omega)]at s;exact s
  ·have e6:F=most:=oM
   have b4:=Z.get K (λb=>by have b:j.heap.size=m.heap.size:=b;omega);have b5:=Z.get L (λb=>by have b:k.heap.size=m.heap.size:=b;omega);refine⟨_,_,_,ae u rfl,PS.mk b4 sM λo1 d9 o2 i7=>PS.mk (d9.get b5 (λb=>by have b:k.heap.size=j.heap.size:=b;omega)) sM λi8 e0 o3 i9=>?_⟩;have T:ak (λP=>P=j.heap.size\/P=k.heap.size) b3 i8:=(d9.mono λP _ b=>.inl b).then (e0.mono λP _ b=>.inr b);have j0:(own.drop i).take most=(own.take f.length).drop i:=by
    rw[<-e6,a1,List.drop_take]
   refine⟨T.mono λP _ d=>⟨by rcases d with rfl|rfl<;>omega,by rcases d with rfl|rfl<;>omega⟩,.inl rfl,rfl,(o.mono λP _ b=>.inl b).then (T.mono λP _ b=>.inr b),i9,by rw[XZ];omega,C,F,R,G,e0.get i7 (λb=>by have b:j.heap.size=k.heap.size:=b;omega),?_,r⟩;rw[j0];exact s.af T λP d b=>by have:=r P d;rcases b with rfl|rfl<;>omega
  ·have U:ai b3 d7:=i6.af
   have c5:=(e3 P (e5 d)).af Z λP d b=>(b2 P d).2 b;have e7:Row aG 8 d7 D P.a P.n P.x.ev.aN:=c5.1.ah U;have f0:P.x.ev.Ok:=c5.2;refine⟨λ_=>False,id,_,_,_,ae (U.get u id) rfl,ar (km P.x P.a P.n P.c) (U.get i2 id) (PC.ok (BZ e7 λP d=>by have:=(b2 P d).1;have:=U.size;omega) ?_)⟩;rintro _ o4 ⟨f1,n2,f2,G2,rfl,j1,b6,b7⟩;have o5:=U.size;have o6:=b7.size;refine⟨_,_,_,_,_,_,_,_,_,_,_,_,_,_,_,rfl,b7,PA.mk λo7 b8 o8 j2=>⟨b8,?_⟩⟩;have a2:=(U.then b7).then b8;refine dP (c:=wZ) (x:=P.x) (s.ah a2) OS j2 (D:=G2) ⟨f1,n2,f2,rfl,j1.ah b8,f0⟩ (λP d=>⟨by have:=b6 P d;omega,λb=>by have:=s.aC P (s.self P b);have:=b6 P d;omega⟩) (by rw[Q8,XZ,Qy];unfold aI;omega) (by rw[Q8,XZ,Qy];unfold maxLen;omega) λa' c' o9 F' f6 b9 j3=>⟨_,_,_,rfl,?_⟩
   have g:∀P,aF C=some P->wz.heap.size+2<=P:=λP d=>r P (s.self P d);have j4:¬aF C=some m.heap.size:=λb=>by have:=g _ b;omega
   have p0:=b9.size;have p1:=a2.size;have H:∀P,F' P->wz.heap.size+2<=P:=λP d=>by
    rcases j3 P d with h7|h7|h7
    ·exact r P h7
    ·have:=b6 P h7;omega
    ·omega
   refine PS.mk (b9.get (a2.get u id) j4) sM λj5 e4 p2 j6=>?_;have T:ak (λP=>aF C=some P\/P=m.heap.size) b3 j5:=((ai.af a2).then (b9.mono λP _ b=>.inl b)).then (e4.mono λP _ b=>.inr b);refine⟨T.mono λP _ d=>⟨?_,?_⟩,⟨(o.new (T.mono λP _ b=>b) λP d=>d.elim (λb=>.inr (by have:=g P b;omega)) .inl),oM,a',F+1,c',F',j6,?_,H,oM⟩⟩
   ·rcases d with d|rfl
    ·have:=g P d;omega
    ·omega
   ·rcases d with d|rfl
    ·have:=g P d;omega
    ·omega
   ·rw[c4,Zq oM,Q3]
    exact f6.af e4 λP d b=>by have b:P=m.heap.size:=b;have:=H P d;omega
 ·intro f8 Rx hR _ p3 hy w1 j7 f9
  refine Calls.mono (QI (own:=own) (f:=i) (most:=most) (R:=f8) (Rx:=Rx .ret) (R1:=j.heap.size) (R2:=k.heap.size) Y a8 a9 oM oM ⟨_,_,y.size|>λ_=>g2⟩ oM g5 oM (hL.ah h) b2 p oM hR (λf Q A M j8 t hN=>(hy () f Q A M j8 t hN).mono ?_) j7 f9) ?_
  ·rintro P A' (I|⟨o,N,⟨rfl,x⟩,u⟩)
   ·exact .inl I
   ·exact .inr ⟨o,x,u⟩
  ·rintro b A' ⟨hv,I⟩
   refine⟨hv,?_⟩;rcases I with⟨o,z,x,u⟩|⟨o,x⟩
   ·exact .inl ⟨o,(),z,x,u⟩
   ·exact .inr ⟨.ret,[],⟨rfl,o⟩,x⟩
 ·rintro _ z A M c6 hm
  obtain⟨o,x,C,F,R,G,u,s,r,h6⟩:=M;have a1:=s.len dC;rw[c6,List.take_length]at s;rw[c6,List.take_length,Q8,XZ]at a1;have b4:=o.get K (λb=>by have b:j.heap.size=m.heap.size:=b;omega);have b5:=o.get L (λb=>by have b:k.heap.size=m.heap.size:=b;omega);refine⟨_,_,_,ae u rfl,PS.mk b4 sM λp4 a3 p5 j9=>PS.mk (a3.get b5 (λb=>by have b:k.heap.size=j.heap.size:=b;omega)) sM λp6 a4 p7 k0=>?_⟩;refine⟨a4.get (a3.get hm (λb=>by have b:wz.heap.size=j.heap.size:=b;omega)) (λb=>by have b:wz.heap.size=k.heap.size:=b;omega),λp8 t=>?_⟩;have a5:=t.1;have h1:=a5.get (a4.get j9 (λb=>by have b:j.heap.size=k.heap.size:=b;omega)) (λb=>by have b:j.heap.size=wz.heap.size:=b;omega);have h2:=a5.get k0 (λb=>by have b:k.heap.size=wz.heap.size:=b;omega);refine⟨_,_,_,ae h1 rfl,_,ae h2 rfl,Ok.mk ⟨_,?_,C,F,R,G,rfl,?_,?_,λP d=>by have:=r P d;have:=h.size;omega⟩⟩
  ·rw[Xv (by rw[XZ];omega)]
  ·rw[Qz (by rw[XZ];omega)]
   exact((s.af a3 λP d b=>by have b:P=j.heap.size:=b;have:=r P d;omega).af a4 λP d b=>by have b:P=k.heap.size:=b;have:=r P d;omega).af a5 λP d b=>by have b:P=wz.heap.size:=b;have:=r P d;omega
  ·refine(((h.new o λP d=>.inr (by have d:P=m.heap.size:=d;omega)).new a3 λP d=>.inr (by have d:P=j.heap.size:=d;omega)).new a4 λP d=>.inr (by have d:P=k.heap.size:=d;omega)).new a5 λP d=>.inr (by have d:P=wz.heap.size:=d;have:=h.size;omega)
 ·rintro f A ⟨-,hx⟩ hm
  refine⟨hm,λp9 t=>?_⟩;obtain⟨o,x,h3,C,F,R,G,u,s,r⟩:=hx.dX ⟨Y,d3,d4⟩ ⟨oM,oM⟩ t;refine⟨_,_,_,ae u rfl,_,ae x rfl,Ok.mk ⟨_,by rw[Zy h3],C,F,R,G,rfl,s,?_,λP d=>by have:=r P d;have:=h.size;omega⟩⟩;exact h.new o λP d=>.inr (by rcases d with d|d|d<;>omega)
end
def ye(a:aM)(b:List aj)(c d P:Int):px:=⟨0,(0,0),⟨0,[]⟩,(jx (cf a b).entries c d P 32).1,[],(jx (cf a b).entries c d P 32).2⟩
section
variable {w w' w0 w1 w2:World} {p:Nat} {F E D:XN} {cls:Nat->Nat} {h:iL} {c:cy} {self:Int} {X:bD}
def Ab(s:bu w p F c self X)(t:aK S):ZG 53 #[XL p,XH e,XH q,XH S] w (Ok λu w'=>gY w (ye c.decl X.S.l e q S) u w'/\ai w w'):=by
 obtain⟨I,h,cls,k⟩:=s;refine kU (PA.mk λv b J x=>PC.ok (AD (cu.ah k b)) ?_);rintro _ _ ⟨rfl,rfl⟩;have y:=cu.ah k b;have P:cJ v h.bp (λa=>F a/\cls a=4) c.decl c.every.toNat X.S.l:=y.at' 4;have z:=(uN c.decl X.S.l P.1.2.2.2).1;refine⟨_,rfl,_,_,EI,PC.ok (Dq P) ?_⟩;rintro _ K ⟨L,M,N,G,rfl,l,d,O⟩;refine⟨_,_,_,rfl,PC.ok (Hi (most:=32) (l.row dC ba) l.aC oM z t) ?_⟩;rintro _ A ⟨Q,rfl,f,g,i,B,rfl,m,j,n⟩;have C:=m.aC;have R:=d.size;have T:=j.size;have U:(jx (cf c.decl X.S.l).entries e q S 32).1.length<=32:=by unfold jx;rw[Qy];omega
 have E:ai w A:=(b.then d).then j;refine⟨_,_,_,_,rfl,az (iM (ye c.decl X.S.l e q S) none 0 0 f g i none 0 0) (j.get (d.get x id) id) rfl λV o W H=>ar (iM (ye c.decl X.S.l e q S) none 0 0 f g i none 0 0) H (Ok.mk ⟨?_,E.new o λa P=>.inr (by have P:a=w.heap.size:=P;omega)⟩)⟩;refine⟨none,0,0,f,g,i,none,0,0,B,rfl,dy _ _,(m.af o λa P r=>by have r:a=w.heap.size:=r;have:=n a P;omega).row dC (by show(jx (cf c.decl X.S.l).entries e q S 32).1.length*120<=aI;unfold aI;omega),dy _ _,λa P=>⟨by have:=n a P;omega,by have:=C a P;omega⟩⟩
end
variable{p:Array Value}{b9:Int}{b3:List cG}{g1:List dt}{c:Nat}{f:XN}{Q W:Operand}{c2:ZH}{h:Program}{b8 t:Value}{R:Value->Prop}{b:World}{b2:a_}{e6:cN}{e5:px}
def zU:(do eqGuard .neq 39 Q W (.agg #[XH e,XH q]) (.agg #[XH S,XH b9]);binOp .neq 39 (.agg #[XH e,XH q]) (.agg #[XH S,XH b9]):Sem Value).run XP b= .ok (.bool (!(e==S&&q==b9))) b:=by
 have P:=IY (x:=Q) (y:=W) (a:=e) (b:=q) (c:=S) (d:=b9) (w:=b);rw[Sem.run_bind,run_eqGuard_agg b .eql _ Q W _ _ kR,Result.andThen_ok,run_eql_struct]at P;rw[Sem.run_bind,run_eqGuard_agg b .neq _ Q W _ _ kR,Result.andThen_ok,run_neq_struct];generalize(Op.equalIn 10000 39 (.agg #[XH e,XH q]) (.agg #[XH S,XH b9])).run XP b=a at P⊢
 cases a with
 |ok c d=>simp only[Result.andThen_ok,Result.ok.injEq,Value.bool.injEq]at P⊢;obtain⟨rfl,rfl⟩:=P;exact⟨rfl,rfl⟩
 |_=>simp[Result.andThen]at P
def Sa(a:dt)(b:World):(do eqGuard .neq 269 Q W (.agg (aX a).toArray) (.agg (aX a).toArray);binOp .neq 269 (.agg (aX a).toArray) (.agg (aX a).toArray):Sem Value).run XP b= .ok (.bool false) b:=by
 have e:Tryz.prog.underlying 269=some (.struct (Tryz.prog.fieldsOf 269)):=kR
 have c:Tryz.prog.underlying 3=some (.int .i64):=kR
 have P:(Tryz.prog.fieldsOf 269).toList.map (λd=>(d.name,d.type,d.offset))=[("Group",3,0),("Value",3,1),("Count",3,2)]:=kR
 rw[Sem.run_bind,run_eqGuard_agg b .neq _ Q W _ _ kR,Result.andThen_ok,run_neq_struct,run_equalIn_struct b 9999 _ _ _ e kR];generalize(Tryz.prog.fieldsOf 269).toList=f at P
 match f,P with
 |[d,t,u],P=>
  simp only[QY,List.map_nil,List.cons.injEq,Prod.mk.injEq,and_true]at P;obtain⟨⟨g,h,i⟩,⟨j,k,l⟩,m,n,o⟩:=P;have p:(isAgg 3).run XP b= .ok false b:=cK _ _ _ kR ⟨_,c⟩ b;have q:=run_equalIn_int (P:=XP) b 9998 3 .i64 .i64 a.group a.group c;have r:=run_equalIn_int (P:=XP) b 9998 3 .i64 .i64 a.value a.value c;have s:=run_equalIn_int (P:=XP) b 9998 3 .i64 .i64 a.count a.count c;unfold Op.eqFields Op.eqFields Op.eqFields Op.eqFields;rw[g,h,i,j,k,l,m,n,o];simp[part,p,q,r,s,aX]
 |[],P=>simp at P
 |[_],P=>simp at P
 |[_,_],P=>simp at P
 |_::_::_::_::_,P=>simp at P
section
variable {w w':World} {D E:XN} {a b:ZH} {n m c d:Nat}
def BI(f:Row eO 32 w D a n b3)(h:Row eO 32 w E b m b3):ZG 161 #[.slice a n c,.slice b m d] w (Ok λu w'=>u= .bool true/\ai w w'):=by
 have F:=f.len;have H:=h.len;have v:=f.dq;unfold aI at v;refine xB (an.df (λe=>Zz oM e) (λ_=>?_));refine⟨λj i w'=>∃P:Nat,i=P/\P<=n/\j=n-P/\ai w w',⟨_,0,rfl,Qj _,rfl,ak.refl w⟩,?_⟩;rintro j i _ I ⟨P,rfl,J,rfl,k⟩;refine an.dec (λK x y=>?_) (λ_=>Ok.mk ⟨rfl,k⟩);have g:ai w x:=k.then y.af;obtain⟨l,o,L,M,rfl,_,_,z,p,N,O,Q,rfl,A,_⟩:=(f.ah g).vy (i:=P) oM;obtain⟨q,r,R,S,rfl,_,_,s,t,T,U,V,rfl,B,_⟩:=(h.ah g).vy (i:=P) oM;rw[z]at s;cases s
 refine⟨l,o,rfl,oM,oM,_,p 0 dC,q,r,rfl,oM,oM,_,t 0 dC,an.df (λe=>Zz rfl e) (λ_=>?_)⟩;refine⟨l,o,rfl,oM,oM,_,_,_,p 1 dC,q,r,rfl,oM,oM,_,_,_,t 1 dC,PC.ok (lk A B) ?_⟩;rintro _ W ⟨rfl,C⟩;exact⟨_,rfl,an.not (an.dec (λ_=>⟨_,oM,P+1,aq oM,oM,rfl,g.then C.af⟩) (λe=>Zz rfl e))⟩
def BJ{s:ll}(h:Row eO 32 w D a n s.cells)(i:Row eO 32 w E b m s.cells):ZG 106 #[.agg #[XH s.version,.slice a n c],.agg #[XH s.version,.slice b m d]] w (Ok λj w'=>j= .bool true/\ai w w'):=by
 refine xr (PA.mk λp e q k=>PA.mk λr P t f=>?_);have g:=P.get k id;refine⟨_,ae g rfl,_,ae f rfl,an.dJ (λ_=>?_) (λl=>Zz rfl l)⟩;refine⟨_,_,_,ae g rfl,_,_,_,ae f rfl,PC.ok (BI (h.ah (e.then P)) (i.ah (e.then P))) ?_⟩;rintro _ u ⟨rfl,o⟩;exact⟨_,rfl,Ok.mk ⟨rfl,(e.then P).then o⟩⟩
def xO{C:List cC}(p:Row wZ 120 w D a n C)(F:Row wZ 120 w E b m C):ZG 107 #[.slice a n c,.slice b m d] w (Ok λN w'=>N= .bool true/\ai w w'):=by
 have Y:=p.len;have Z:=F.len;have O:=p.dq;unfold aI at O;refine sV (an.df (λg=>Zz oM g) (λ_=>?_));refine⟨λH i w'=>∃e:Nat,i=e/\e<=n/\H=n-e/\ai w w',⟨_,0,rfl,Qj _,rfl,ak.refl w⟩,?_⟩;rintro H i _ w1 ⟨e,rfl,hj,rfl,I⟩;refine an.dec (λh1 q Q=>?_) (λ_=>Ok.mk ⟨rfl,I⟩);have r:ai w q:=I.then Q.af;obtain⟨h,j,k,es,rfl,R,_,S,J,s,t,u,rfl,T,_⟩:=(p.ah r).vy (i:=e) oM;obtain⟨l,o,a0,fs,rfl,U,_,K,L,v,x,y,rfl,V,_⟩:=(F.ah r).vy (i:=e) oM;rw[S]at K;cases K
 have W:∀P,P<10->q.cell? ⟨h,j+e*13+P,none⟩=(aB k.ev s t u)[P]? :=λP f=>(J P (show P<13 by omega)).trans (XW (show P<10 from f));have X:∀P,P<10->q.cell? ⟨l,o+e*13+P,none⟩=(aB k.ev v x y)[P]? :=λP f=>(L P (show P<13 by omega)).trans (XW (show P<10 from f));refine⟨h,j,rfl,oM,oM,bl (es:=aB k.ev s t u) (k:=10) (aV _ _ _ _) rfl (λP f=>by rw[Qx];exact W P f) ⟨l,o,rfl,oM,oM,bl (es:=aB k.ev v x y) (k:=10) (aV _ _ _ _) rfl (λP f=>by rw[Qx];exact X P f) (PC.ok (qZ T V) ?_)⟩⟩;rintro _ M ⟨rfl,z⟩;have A:∀P,P<13->M.cell? ⟨h,j+e*13+P,none⟩=(fZ k s t u)[P]? :=λP f=>(z.cell (a:=⟨h,j+e*13+P,none⟩) R id).trans (J P f);have B:∀P,P<13->M.cell? ⟨l,o+e*13+P,none⟩=(fZ k v x y)[P]? :=λP f=>(z.cell (a:=⟨l,o+e*13+P,none⟩) U id).trans (L P f);refine⟨_,rfl,an.not (an.dec (λ_=>?_) (λg=>Zz rfl g))⟩;refine⟨h,j,rfl,oM,oM,_,A 10 dC,l,o,rfl,oM,oM,_,B 10 dC,an.not (an.mk (λ_=>?_) (λg=>by simp at g))⟩;refine⟨h,j,rfl,oM,oM,_,_,A 11 dC,A 12 dC,l,o,rfl,oM,oM,_,_,B 11 dC,B 12 dC,_,λw'=>zU,an.mk (λg=>by simp at g) (λ_=>?_)⟩;exact⟨_,oM,e+1,aq oM,oM,rfl,r.then z⟩
def En(g:Row Fz 24 w D a n g1)(l:Row Fz 24 w E b m g1):ZG 108 #[.slice a n c,.slice b m d] w (Ok λq w'=>q= .bool true/\ai w w'):=by
 have B:=g.len;have C:=l.len;have r:=g.dq;unfold aI at r;refine yV (an.df (λh=>Zz oM h) (λ_=>?_));refine⟨λo i w'=>∃P:Nat,i=P/\P<=n/\o=n-P/\ai w w',⟨_,0,rfl,Qj _,rfl,ak.refl w⟩,?_⟩;rintro o i _ F ⟨P,rfl,H,rfl,f⟩;refine an.dec (λI=>?_) (λ_=>Ok.mk ⟨rfl,f⟩);obtain⟨s,t,e,J,rfl,K,_,u,v,rfl,_⟩:=(g.ah f).vy (i:=P) oM;obtain⟨x,y,L,M,rfl,N,_,p,z,rfl,_⟩:=(l.ah f).vy (i:=P) oM;rw[u]at p;cases p
 refine⟨s,t,rfl,oM,oM,bl (es:=aX e) (k:=3) (LP e) rfl (λj k=>by rw[Qx];exact v j k) ⟨x,y,rfl,oM,oM,bl (es:=aX e) (k:=3) (LP e) rfl (λj k=>by rw[Qx];exact z j k) ⟨false,λm=>Sa e _,λO A=>an.mk (λh=>by cases h) λ_=>?_⟩⟩⟩;exact⟨_,oM,P+1,aq oM,oM,rfl,f.then A.af⟩
def zV{l m:World}(n:gY l e5 t w)(o:gY m e5 b8 w):ZG 52 #[t,b8] w (Ok λb8 w'=>b8= .bool true/\ai w w'):=by
 obtain⟨A,B,C,E,F,H,I,J,K,G,rfl,p,q,r,L⟩:=n;obtain⟨M,tn,N,O,Q,R,S,T,U,V,rfl,s,u,v,W⟩:=o;refine u_ (PA.mk λX x Y y=>PA.mk λz g Z b=>?_);have c:=g.get y id;have P:ai w z:=x.then g;refine⟨_,ae c rfl,_,ae b rfl,an.dJ (λ_=>?_) (λe=>Zz rfl e)⟩;refine⟨_,_,ae c rfl,ae c rfl,_,_,ae b rfl,ae b rfl,aE.mk IY ⟨_,rfl,an.mk (λ_=>?_) (λe=>by simp at e)⟩⟩;refine⟨_,_,_,_,ae c rfl,ae c rfl,_,_,_,_,ae b rfl,ae b rfl,PC.ok (BJ (s:=e5.st) (p.ah P) (s.ah P)) ?_⟩;rintro _ w5 ⟨rfl,a⟩;have h:=a.get c id;have i:=a.get b id;refine⟨_,rfl,an.tt rfl ⟨_,_,_,ae h rfl,_,_,_,ae i rfl,PC.ok (xO (q.ah (P.then a)) (u.ah (P.then a))) ?_⟩⟩;rintro _ w6 ⟨rfl,d⟩;have j:=d.get h id;have k:=d.get i id;refine⟨_,rfl,an.tt rfl ⟨_,_,_,ae j rfl,_,_,_,ae k rfl,PC.ok (En (r.ah ((P.then a).then d)) (v.ah ((P.then a).then d))) ?_⟩⟩;rintro _ w7 ⟨rfl,f⟩;exact⟨_,rfl,an.tt rfl ⟨_,ae (f.get j id) rfl,_,ae (f.get k id) rfl,Ok.mk ⟨sM,((P.then a).then d).then f⟩⟩⟩
end
section
variable {w w':World} {D E:XN} {a b:ZH} {n m c:Nat}
def BK(h:Row fm 32 w D a n b2.bg):ZG 77 #[.agg (di b2 a n c).toArray] w (Ok λH w'=>∃p v q e,H= .agg (di b2 p v q).toArray/\aO fm 125 e w' p v q b2.bg/\ai w w'/\∀b,e b->w.heap.size<=b):=by
 have Y:=h.len;have P:=h.dq;unfold aI at P;refine xp (PA.mk λy I Z J=>PA.mk λr z s7 K=>?_);have L:=z.get J id;have A:=I.then z;refine⟨λB k d l i w'=>i=(d:Int)/\d<=n/\B=n-d/\∃e,aO fm 125 e w' k d l (b2.bg.take d)/\ai r w'/\∀b,e b->r.heap.size<=b,
  ⟨_,rfl,Qj _,rfl,λ_=>False,by simpa using aO.nil r,ak.refl _,λ_ h=>h.elim⟩,?_⟩
 rintro B k d l i _ w1 ⟨rfl,hj,rfl,e,m,f,g⟩;have s:=f.get L id;have C:=A.then f;have E:(b2.bg.take d).length=d:=by simp;omega
 refine⟨_,_,_,ae s rfl,an.dec (λM=>?_) (λM=>?_)⟩
 ·obtain⟨b,t,x,es,rfl,_,_,N,o,rfl,O⟩:=(h.ah C).vy (i:=d) oM
  refine⟨_,_,_,ae s rfl,b,t,rfl,oM,oM,_,_,_,_,o 0 dC,o 1 dC,o 2 dC,o 3 dC,Fw m IZ (x:=x) (D:=λ_=>False) ⟨rfl,O⟩ (λ_ h=>h.elim) (by rw[E];unfold aI;omega) (by rw[E];unfold maxLen;omega) λp q Q R S T U _=>?_⟩;refine⟨_,_,_,rfl,n-(d+1),oM,aq oM,oM,rfl,R,?_,f.new T λb P=>.inr (g b (m.self b P)),?_⟩
  ·rw[Qw,N];exact S
  ·intro b P
   have:=f.size;rcases U b P with h|h|h
   ·exact g b h
   ·exact h.elim
   ·omega
 ·obtain rfl:d=n:=oM
  rw[Qz oM]at m;have V:=f.get K id;refine PS.mk s sM λw2 u s2 W=>ar (cs:=di b2 k d l) (eC _ _ _ _) W (az (eC _ _ _ _) (u.get V oM) rfl λQ F s3 X=>ar (eC _ _ _ _) X (Ok.mk ⟨k,d,l,e,rfl,?_,?_,λb P=>by have:=g b P;have:=A.size;omega⟩))
  ·exact(m.af u λb P j=>by have j:b=w.heap.size:=j;have:=g b P;omega).af F λb P j=>by have j:b=y.heap.size:=j;have:=g b P;omega
  ·exact(C.new u λb P=>.inr (by have P:b=w.heap.size:=P;omega)).new F λb P=>.inr (by have P:b=y.heap.size:=P;omega)
def Eo{tn tc W pc:Nat}(o:aW w D I d tn r W):
  ZG 39 #[.agg #[.slice d tn tc,.slice r W pc]] w (Ok λe0 w'=>∃H BE a3 J K a7 G,e0= .agg #[.slice H BE a3,.slice J K a7]/\aW w' G I H BE J K/\(∀b,G b->w.heap.size<=b/\b<w'.heap.size)/\ai w w'):=by
 have g8:=o.aT.len;have b3:=o.aT.dq;have g9:=o.yp.len;have b4:=o.yp.dq;refine yQ (PA.mk λL k4 s4 g4=>PA.mk λh k5 s5 g5=>PA.mk λw6 k6 s6 g6=>?_);have b5:=k4.then k5;have d7:=b5.then k6;have gp:=k6.get (k5.get g4 id) id;have gr:=k6.get g5 id;have z6:=d7.size;refine⟨λm M w'=>∃f:Nat,M=f/\f<=tn/\m=tn-f/\ak (·=h.heap.size) w6 w'/\∃N O X Z,w'.heap[h.heap.size]? =some (.cells #[.slice N O X,.slice none 0 0] 25 (0,0))/\aO jC 130 Z w' N O X (I.types.take f)/\∀b,Z b->w6.heap.size<=b,
  ⟨_,0,rfl,Qj _,rfl,ak.refl _,none,0,0,λ_=>False,g6,aO.nil _,λ_ o=>o.elim⟩,?_⟩
 rintro m _ _ g ⟨f,rfl,hj,rfl,Q,N,O,X,Z,go,v,E⟩;have a4:ai w g:=d7.new Q λb P=>.inr (by have P:b=h.heap.size:=P;have:=b5.size;omega);have zk:=Q.size;have a0:=Q.get gp λc=>by have c:w.heap.size=h.heap.size:=c;omega
 refine⟨_,_,_,ae a0 rfl,an.dec (λj7=>?_) (λj8=>?_)⟩
 ·have h0:f<I.types.length:=oM
  have b6:I.types[f]? =some I.types[f]:=Qq h0;generalize I.types[f]=p at b6;obtain⟨b,A,es,ha,P,j9,e1,fa,fn,fc,rfl,b8⟩:=(o.aT.ah a4).el f p b6;have c0:=e1 0 dC;have h2:jC.k=1:=rfl;rw[h2,Nat.mul_one]at c0;have h3:=b8.len;have b9:=b8.dq;refine PA.mk λk0 h4 k1 h6=>PS.mk h6 sM λa5 h7 k2 h8=>?_;have B:ai g a5:=h4.new h7 λb P=>.inr (by have P:b=g.heap.size:=P;omega);have e2:=B.get a0 id;have d9:=B.size;have e3:=a4.then B;refine⟨λm M w'=>∃k:Nat,M=k/\k<=fn/\m=fn-k/\ak (·=g.heap.size) a5 w'/\∃s t x u,w'.heap[g.heap.size]? =some (.cells #[.slice s t x] 130 (0,0))/\aO nJ 123 u w' s t x (p.take k)/\∀b,u b->a5.heap.size<=b,
   ⟨_,0,rfl,Qj _,rfl,ak.refl _,none,0,0,λ_=>False,h8,aO.nil _,λ_ o=>o.elim⟩,?_⟩
  rintro m _ _ a6 ⟨k,rfl,hk,rfl,i,s,t,x,u,y,j,q⟩;have zx:=i.size;have e4:ai w a6:=e3.new i λb P=>.inr (by have P:b=g.heap.size:=P;have:=a4.size;omega);have b2:=i.get e2 λc=>by have c:w.heap.size=g.heap.size:=c;have:=ay a0;omega
  have b7:a6.cell? ⟨b,A+Int.toNat (f:Int),none⟩=some (.slice fa fn fc):=by
   rw[Qx];refine(i.cell (a:=⟨b,A+f,none⟩) (Qk P d9) λc=>by have c:b=g.heap.size:=c;omega).trans ((B.cell (a:=⟨b,A+f,none⟩) P id).trans ?_);exact c0
  refine⟨_,_,_,ae b2 rfl,b,A,ha,oM,oM,_,_,_,b7,an.dec (λe5=>?_) (λe6=>?_)⟩
  ·intro c1 h9
   have l:ai a6 c1:=h9.af;have j6:=e4.then l;have e7:=l.get y id;have e8:=l.get b2 id;have f0:c1.cell? ⟨b,A+Int.toNat (f:Int),none⟩=some (.slice fa fn fc):=(l.cell (a:=⟨b,A+Int.toNat (f:Int),none⟩) (Qk (Qk P d9) zx) id).trans b7;have i0:k<p.length:=oM
   have c2:p[k]? =some p[k]:=Qq i0;generalize p[k]=F at c2;have f1:ai g c1:=(B.new i λb P=>.inr (by have P:b=g.heap.size:=P;omega)).then l;obtain⟨fb,fo,a8,rfl,-,-,c4,ya,yn,yc,rfl,c5,a9⟩:=(b8.ah f1).el k F c2;have f3:=c5.len;have f5:=c5.dq;refine⟨λ_=>False,id,_,_,_,ae e7 rfl,_,_,_,ae e8 rfl,b,A,ha,oM,oM,_,_,_,f0,fb,fo,rfl,oM,oM,bl (es:=di F ya yn yc) (k:=4) (eC _ _ _ _) rfl (λp ht=>by rw[Qx];exact c4 p ht) (PC.ok (BK c5) ?_)⟩;rintro _ k3 ⟨a,n,cc,Fm,rfl,c6,e9,f2⟩;have f6:=c6.aC;refine⟨_,_,_,_,_,_,rfl,e9,PA.mk λf4 c7 k7 i1=>⟨c7,?_⟩⟩;have a1:ai a6 f4:=(l.then e9).then c7;have k8:=c6.len dC;have f7:Row fm 32 f4 Fm a n F.bg:=(c6.ah c7).row dC (by rw[<-f3];exact f5);refine dP (c:=nJ) (x:=F) (j.ah a1) Nz i1 (D:=Fm) ⟨a,n,cc,rfl,f7,a9⟩ (λb P=>⟨by have:=f6 b P;omega,λc=>by have:=j.aC b (j.self b c);have:=f2 b P;have:=l.size;omega⟩) (by rw[Qy];unfold aI at*;omega) (by rw[Qy];unfold aI at b9;unfold maxLen;omega) λR S i2 z b0 C T=>⟨_,_,_,rfl,?_⟩
   have c9:¬aF s=some g.heap.size:=λc=>by have:=q _ (j.self _ c);omega
   have k9:=a1.size;have i3:=C.size;have zd:=l.size;have e:∀b,z b->a5.heap.size<=b:=λb P=>by
    rcases T b P with Y|Y|Y
    ·exact q b Y
    ·have:=f2 b Y;omega
    ·omega
   refine PS.mk (C.get (a1.get y id) c9) sM λi4 U i5 d0=>⟨_,oM,k+1,aq (by unfold aI at b9;omega),oM,rfl,((i.ah a1).new C λb P=>.inr (q b (j.self b P))).then U,R,t+1,S,z,d0,?_,e⟩
   rw[Qw,c2];exact b0.af U λb P c=>by have c:b=g.heap.size:=c;have:=e b P;omega
  ·rw[Qz oM]at j
   have c3:=i.get (B.get go id) λc=>by have c:h.heap.size=g.heap.size:=c;have:=ay go;omega
   refine⟨_,_,_,ae c3 rfl,_,_,_,ae y rfl,PA.mk λi6 d1 l0 i7=>?_⟩;have b1:ai g i6:=(B.new i λb P=>.inr (by have P:b=g.heap.size:=P;omega)).then d1;refine dP (c:=jC) (x:=p) (v.ah b1) JY i7 (D:=u) ⟨s,t,x,rfl,(j.ah d1).row dC (by rw[<-h3];exact b9)⟩ (λb P=>⟨by have:=j.aC b P;omega,λc=>by have:=v.aC b (v.self b c);have:=q b P;omega⟩) (by rw[Qy];unfold aI at*;omega) (by rw[Qy];unfold aI at b3;unfold maxLen;omega) λR S l3 z f8 d2 T=>⟨_,_,_,rfl,?_⟩
   have i8:¬aF N=some h.heap.size:=λc=>by have:=E _ (v.self _ c);omega
   have l4:=b1.size;have l5:=d2.size;have e:∀b,z b->w6.heap.size<=b:=λb P=>by
    rcases T b P with Y|Y|Y
    ·exact E b Y
    ·have:=q b Y;omega
    ·omega
   refine PS.mk (d2.get (d1.get c3 id) i8) sM λl6 c8 l7 i9=>⟨_,oM,f+1,aq (by unfold aI at b3;omega),oM,rfl,((Q.ah b1).new d2 λb P=>.inr (E b (v.self b P))).then c8,R,O+1,S,z,i9,?_,e⟩
   rw[Qw,b6];exact f8.af c8 λb P c=>by have c:b=h.heap.size:=c;have:=e b P;omega
 ·rw[Qz oM]at v
  have f9:=v.aC;refine⟨λm M w'=>∃f:Nat,M=f/\f<=W/\m=W-f/\ak (·=h.heap.size) g w'/\∃s t x u,w'.heap[h.heap.size]? =some (.cells #[.slice N O X,.slice s t x] 25 (0,0))/\aO tL 128 u w' s t x (I.projs.take f)/\∀b,u b->g.heap.size<=b,
   ⟨_,0,rfl,Qj _,rfl,ak.refl _,none,0,0,λ_=>False,go,aO.nil _,λ_ o=>o.elim⟩,?_⟩
  rintro m _ _ d3 ⟨k,rfl,hk,rfl,i,s,t,x,u,y,j,q⟩;have zx:=i.size;have d4:ai w d3:=a4.new i λb P=>.inr (by have P:b=h.heap.size:=P;have:=b5.size;omega);have d8:=i.get a0 λc=>by have c:w.heap.size=h.heap.size:=c;omega
  refine⟨_,_,_,ae d8 rfl,an.dec (λe5=>?_) (λe6=>?_)⟩
  ·intro j0 j1
   have l:ai d3 j0:=j1.af;have g0:=l.get y id;obtain⟨fb,fo,F,a8,rfl,-,-,j2,c4,rfl,a9⟩:=(o.yp.ah (d4.then l)).vy (i:=k) oM;have V:=λp (ht:p<5)=>c4 p ht;refine⟨λ_=>False,id,_,_,_,ae g0 rfl,_,_,_,ae (l.get d8 id) rfl,fb,fo,rfl,oM,oM,_,_,_,_,_,V 0 dC,V 1 dC,V 2 dC,V 3 dC,V 4 dC,PA.mk λj3 g1 l8 j4=>⟨g1,?_⟩⟩;have a2:ai d3 j3:=l.then g1;refine dP (c:=tL) (x:=F) (j.ah a2) IK j4 (D:=λ_=>False) ⟨rfl,a9⟩ (λb P=>P.elim) (by rw[Qy];unfold aI at*;omega) (by rw[Qy];unfold aI at b4;unfold maxLen;omega) λR S i2 z b0 C T=>⟨_,_,_,rfl,?_⟩
   have c9:¬aF s=some h.heap.size:=λc=>by have:=q _ (j.self _ c);omega
   have l9:=a2.size;have i3:=C.size;have zd:=l.size;have e:∀b,z b->g.heap.size<=b:=λb P=>by
    rcases T b P with Y|Y|Y
    ·exact q b Y
    ·exact Y.elim
    ·omega
   refine PS.mk (C.get (a2.get y id) c9) sM λi4 U i5 d0=>⟨_,oM,k+1,aq (by unfold aI at b4;omega),oM,rfl,((i.ah a2).new C λb P=>.inr (q b (j.self b P))).then U,R,t+1,S,z,d0,?_,e⟩
   rw[Qw,j2];exact b0.af U λb P c=>by have c:b=h.heap.size:=c;have:=e b P;omega
  ·rw[Qz oM]at j
   have g2:=j.aC;have g3:=i.get (Q.get gr λc=>by have c:L.heap.size=h.heap.size:=c;omega) λc=>by have c:L.heap.size=h.heap.size:=c;omega
   have h1:=v.af i λb P c=>by have c:b=h.heap.size:=c;have:=E b P;omega
   refine⟨_,_,_,_,_,_,ae y rfl,ae y rfl,PS.mk g3 sM λm0 d5 m1 j5=>PS.mk j5 sM λm2 d6 m3 g7=>⟨_,_,_,_,_,_,ae g7 rfl,ae g7 rfl,Ok.mk ⟨_,_,_,_,_,_,λb=>Z b\/u b,rfl,⟨?_,?_⟩,?_,?_⟩⟩⟩
   ·exact(((h1.row (bytes:=24) dC (by rw[<-g8];exact b3)).af (d5.then d6) λb P c=>by have c:b=L.heap.size:=c;have:=E b P;omega)).mono λb P=>.inl P
   ·exact(((j.row (bytes:=40) dC (by rw[<-g9];exact b4)).af (d5.then d6) λb P c=>by have c:b=L.heap.size:=c;have:=q b P;omega)).mono λb P=>.inr P
   ·have z4:=k4.size
    rintro b (P|P)
    ·have:=E b P;have:=f9 b P;omega
    ·have:=q b P;have:=g2 b P;omega
   ·exact d4.new (d5.then d6) λb P=>.inr (by have P:b=L.heap.size:=P;have:=k4.size;omega)
def tS{c:cy}{tn t p u:Nat}(v:aW w D c.decl d tn r p):
  ZG 12 #[py c d tn t r p u] w (Ok λx w'=>∃P BE f a e g G,x=py c P BE f a e g/\aW w' G c.decl P BE a e/\(∀b,G b->w.heap.size<=b/\b<w'.heap.size)/\ai w w'):=by
 refine yN (PA.mk λk q I y=>PA.mk λJ l K z=>?_);have m:=l.get y id;refine⟨_,_,_,_,_,_,ae m rfl,ae m rfl,PC.ok (Eo (v.ah (q.then l))) ?_⟩;rintro _ L ⟨P,BE,f,a,e,g,G,rfl,A,n,j⟩;have M:=j.size;refine⟨_,_,_,_,_,_,rfl,PS.mk (j.get m id) sM λN B O C=>PS.mk C sM λQ E R F=>?_⟩;have o:=B.then E;refine ar (tT c P BE f a e g) F (az (tT c P BE f a e g) (o.get (j.get z id) λi=>by have i:k.heap.size=w.heap.size:=i;omega) rfl λS s T H=>ar (tT c P BE f a e g) H (Ok.mk ⟨_,_,_,_,_,_,G,rfl,?_,λb h=>?_,?_⟩))
 ·exact(A.af o λb h i=>by have i:b=w.heap.size:=i;have:=n b h;omega).af s λb h i=>by have i:b=k.heap.size:=i;have:=n b h;omega
 ·have:=n b h;omega
 ·exact(((q.then l).then j).new o λb h=>.inr (by have h:b=w.heap.size:=h;omega)).new s λb h=>.inr (by have h:b=k.heap.size:=h;omega)
end
structure BL where
 kind:Int
 n:Int
 now:Int
 cmd:iQ
 m:cN
section
variable (c:cy) (self:Int)
def Kr(a:bD)(P:BL):Int×bD:=
 if P.kind=0 then((bI c self a P.cmd).1,(bI c self a P.cmd).2.2)else
 if P.kind=1 then(0,(fO c self a P.n (pick P.now 4611686018427387904)).2)else
 if P.kind=2 then(bT c self a P.m).2 else
 if P.kind=3 then(0,(Ho self a (pick P.now 4611686018427387904)).2)else
 if P.kind=4 then Aa c a P.n else
 if P.kind=5 then(0,{a with D:=a.D.Pw P.n})else
 if P.kind=6 then gH c a else(0,a)
end
structure iG (X Y:bD):Prop where
 evs:Y.S.l.length<=X.S.l.length+300\/Y.S.l.length<=16777216
 asked:Y.fr.asked.length<=X.fr.asked.length+1
def iG.refl(P:bD):iG P P:=⟨.inl oM,oM⟩
def Hq{P a:Type}[BEq P][LawfulBEq P](b:P)(c:a):∀(d:List (P×a)),(aH d b c).length<=d.length+1
 |[]=>by simp[aH]
 |(f,g)::e=>by
  unfold aH;split
  ·simp
  ·have:=Hq b c e
   simp;omega
def CS{a d:Type}[BEq a][LawfulBEq a](P:a)(e:d):∀(c:List (a×d)),P∈c.map (·.1)->(aH c P e).map (·.1)=c.map (·.1)
 |[],h=>by simp at h
 |(g,j)::f,h=>by
  unfold aH
  by_cases b:(P==g)=true
  ·rw[Zx b]
   have:=eq_of_beq b;subst this;rfl
  ·rw[Zq b]
   have i:P∈f.map (·.1):=by
    rcases Q2.1 h with h|h
    ·exact Zz (by rw[h];simp) b
    ·exact h
   simp[CS P e f i]
def Hr{P c:Type}[BEq P][LawfulBEq P](a:P):∀(b:List (P×c)),(bV b a).length<=b.length
 |[]=>by simp[bV]
 |(e,f)::d=>by
  unfold bV;split
  ·simp
  ·have:=Hr a d
   simp;omega
def EM(c P:Int)(a:List Int×List (Int×Int))(b:Int)(d:b∈a.2.map (·.1)):(fk c P a b).2.map (·.1)=a.2.map (·.1):=by
 unfold fk;split
 ·exact CS _ _ _ d
 ·rfl
def uz(c P:Int):∀(b:List Int) (a:List Int×List (Int×Int)),(∀x∈b,x∈a.2.map (·.1))->(b.foldl (fk c P) a).2.map (·.1)=a.2.map (·.1)
 |[],a,_=>rfl
 |x::b,a,d=>by
  have e:=EM c P a x (d x (QV ..));rw[List.foldl_cons,uz c P b _ λf g=>by rw[e];exact d f (QJ _ g),e]
def iO.OC(P:iO)(a:Int):(P.OB a).asked.length=P.asked.length:=by
 have c:=uz P.cQ a (P.open.take P.open.length) ([],P.asked) λd b=>by
  have b:=List.mem_of_mem_take b;unfold iO.open at b;exact(List.mergeSort_perm _ _).mem_iff.1 b
 have:=Zj List.length c;rw[Q8,Q8]at this;exact this
def qm(P:Nat):∀(c:List aj) (d:au) (a b:List aj),(g_ P c d a b).2.1.length+(g_ P c d a b).2.2.length<=a.length+b.length+c.length
 |[],d,a,b=>by simp[g_]
 |e::c,d,a,b=>by
  unfold g_;split
  ·have:=qm P c (d.add e).2 (a++[e]) b
   simp at this⊢;omega
  split
  ·have:=qm P c d a b
   simp;omega
  ·have:=qm P c d a (eH P b e).2
   have:=AI P b e;simp;omega
def pQ:∀(a:List aj) (b:au) (P:List aj),(ej a b P).2.length<=P.length+a.length
 |[],b,P=>by simp[ej]
 |e::a,b,P=>by
  unfold ej;split
  ·have:=pQ a (b.add e).2 (P++[e])
   simp at this⊢;omega
  ·have:=pQ a (b.add e).2 P
   simp;omega
def CT:∀(k:Nat) (a:au) (P b:List aj),(uy k a P b).1.length<=P.length+b.length
 |0,a,P,b=>by simp[uy]
 |k+1,a,P,b=>by
  unfold uy;have c:=ux a b;dsimp only;split
  ·simp
  ·have d:=pQ (bt a b).1 a P
   have e:=CT k (ej (bt a b).1 a P).1 (ej (bt a b).1 a P).2 (bt a b).2;omega
def JC(a:cy)(P:bD)(b:List aj):(jV a P b).1.length<=P.waits.length+b.length:=by
 have c:=qm a.buffer.toNat b (dZ a P.S []) [] P.waits;have d:=CT ((g_ a.buffer.toNat b (dZ a P.S []) [] P.waits).2.2.length+1) (g_ a.buffer.toNat b (dZ a P.S []) [] P.waits).1 (g_ a.buffer.toNat b (dZ a P.S []) [] P.waits).2.1 (g_ a.buffer.toNat b (dZ a P.S []) [] P.waits).2.2;simp at c;unfold jV;dsimp only;omega
def Ms(b:cy)(P:au)(a:List aj):(dZ b P a).l.length<=P.l.length+a.length:=by
 have:=au.lF (P.l++a) ⟨b.bR.toNat,[]⟩;unfold dZ;simp at this⊢;omega
def CU(b:cy)(P:bD)(a:List aj):(cR b P a).2.S.l.length<=P.S.l.length+a.length/\(cR b P a).2.fr=P.fr:=by
 unfold cR
 cases P.log with
 |none=>exact⟨by dsimp only;omega,rfl⟩
 |some c=>
  dsimp only;split
  ·exact⟨by dsimp only;omega,rfl⟩
  split
  ·exact⟨by dsimp only;omega,rfl⟩
  ·exact⟨Ms b P.S a,rfl⟩
def sw(b:cy)(a:Int)(P:bD)(c:iQ):iG P (bI b a P c).2.2:=by
 unfold bI
 cases P.log with
 |none=>exact iG.refl P
 |some d=>
  dsimp only;split
  ·exact iG.refl P
  split
  ·have:=CU b P [(lX b.decl P.S (cf b.decl P.S.l) a b.start c).1]
   simp at this;split
   ·exact⟨.inl be,by dsimp only;rw[this.2];omega⟩
   ·exact⟨.inl be,by dsimp only;rw[this.2];omega⟩
  ·exact iG.refl P
def lq(c:cy)(d:Int)(P:bD)(a:cN)(j:P.waits.length<=256)(k:c.chunk<=32):iG P (bT c d P a).2.2:=by
 unfold bT
 cases P.log with
 |none=>exact iG.refl P
 |some l=>
  dsimp only;split
  ·exact iG.refl P
  rename_i h;split
  ·exact iG.refl P
  split
  ·rename_i i
   have m:a.events.length<=32:=by
    rcases Nat.lt_or_ge 32 a.events.length with g|g
    ·exfalso
     apply h;unfold eW;rw[Zx i];intro b;split at b
     ·cases b
     ·unfold eG at b
      split at b
      ·cases b
      ·rw[Zx (.inr oM)]at b;cases b
    ·exact g
   unfold nj;have n:=JC c P a.events;dsimp only;split
   ·exact⟨.inl be,by dsimp only;omega⟩
   ·have e:=CU c {P with waits:=(jV c P a.events).2} (jV c P a.events).1
    dsimp only at e;split
    ·exact⟨.inl be,by dsimp only;rw[e.2];omega⟩
    ·exact⟨.inl be,by dsimp only;rw[e.2];omega⟩
  ·have f:(P.fr.xS a.bB a.vec P.S.vec).asked.length<=P.fr.asked.length+1:=by
    unfold iO.xS;dsimp only;split
    ·have:=Hr a.bB P.fr.asked;omega
    ·omega
   split
   ·exact⟨.inl be,f⟩
   split
   ·exact⟨.inl be,f⟩
   ·exact⟨.inl be,f⟩
def z_(d:cy)(P:Int)(b:bD)(a c:Int):iG b (fO d P b a c).2:=by
 unfold fO;split
 ·exact iG.refl b
 ·exact⟨.inl be,Hq _ _ _⟩
def Jd(P:Int)(b:bD)(a:Int):iG b (Ho P b a).2:=by
 unfold Ho;exact⟨.inl be,by dsimp only;rw[iO.OC];omega⟩
def wx(a:cy)(P:bD):(gI a P).2.fr=P.fr:=by
 unfold gI;dsimp only;split<;>rfl
def BM(a:cy)(P:bD):iG P (gH a P).2:=by
 unfold gH
 cases P.log with
 |none=>exact iG.refl P
 |some b=>
  dsimp only;split
  ·exact⟨.inl be,by dsimp only;omega⟩
  ·exact⟨.inl be,by dsimp only;omega⟩
structure BL.Ok (x:BL):Prop where
 kind:aK x.kind
 n:aK x.n
 now:aK x.now
 cmd:x.cmd.Ok
def lZ(P:BL)(a:ZH)(b c:Nat)(d:ZH)(e f:Nat):List Value:=[XH P.kind,XH P.n,XH P.now]++fv P.cmd++bH P.m a b c d e f
abbrev Sb(P:BL)(a:ZH)(b c:Nat)(d:ZH)(e f:Nat):Value:=.agg (lZ P a b c d e f).toArray
def Rj(P:BL)(a:ZH)(b c:Nat)(d:ZH)(e f:Nat):gN XP 67 (lZ P a b c d e f)=true:=kR
def zW(P:px)(a:ZH)(b c:Nat)(d:ZH)(e f:Nat)(g:ZH)(h i:Nat):Pd (fp XP 46) (.agg (l_ P a b c d e f g h i).toArray)=true:=kR
def Kp(P:cy)(a:ZH)(tn b:Nat)(c:ZH)(d e:Nat):Pd (fp XP 29) (py P a tn b c d e)=true:=kR
def PL:jh BL where
 k:=15
 rep:=λm D h cs=>∃P a d b c e,cs=lZ h P a d b c e/\Row aG 8 m D P a h.m.vec/\Row fY 96 m D b c h.m.events/\h.Ok
 af:=λ⟨P,a,d,b,c,e,f,i,j,k⟩ n g=>⟨P,a,d,b,c,e,f,i.af n g,j.af n g,k⟩
 mono:=λ⟨P,a,d,b,c,e,f,i,j,k⟩ g=>⟨P,a,d,b,c,e,f,i.mono g,j.mono g,k⟩
 len:=λ⟨P,a,d,b,c,e,f,_⟩=>by rw[f];rfl
 one:=λ⟨P,a,d,b,c,e,f,_⟩ o l=>by
  rw[f]at l;simp only[lZ,fv,bH,List.cons_append,List.nil_append,Q2,List.not_mem_nil,or_false]at l;rcases l with rfl|rfl|rfl|rfl|rfl|rfl|rfl|rfl|rfl|rfl|rfl|rfl|rfl|rfl|rfl<;>rfl
def Kq{es:List Value}(f:gN h g es=true)(i:b.heap[a]? =some (.cells p o C))(j:∀P,P<es.length->p[c+P]? =es[P]?)(k:R (.agg es.toArray)):nK h g (.pointer (some ⟨a,c,none⟩)) b R:=
 bl f rfl (λP d=>by
  have e:=j P d;rw[Qq d]at e⊢;exact ae i e) k
variable{g8:List BL}
section
variable {w w' w0 w1 w2:World} {p:Nat} {F E D Dv:XN} {c:cy} {self:Int} {X:bD} {va ea:ZH} {vn vc en ec:Nat}
def Gy:ZG 56 #[XH e] w (Ok λP w'=>P= XH (pick e 4611686018427387904)/\w=w'):=by
 refine Im (PC.ok (NT bb) ?_);rintro _ _ ⟨rfl,rfl⟩;exact⟨_,rfl,Ok.mk ⟨rfl,rfl⟩⟩
def I_(i:Row aG 8 w D va vn e6.vec)(e:Row fY 96 w E ea en e6.events):
  ZG 27 #[iY e6 va vn vc ea en ec] w (Ok λf w'=>(∃c:Bool,f= .bool c/\(c=false->∀P∈e6.events,P.aN.length<=100))/\ai w w'):=by
 refine DJ (PA.mk λw1 a j d=>⟨_,_,_,ae d rfl,an.dec (λ_=>Ok.mk ⟨⟨_,rfl,sM⟩,a⟩) (λ_=>⟨_,_,_,ae d rfl,PC.ok (Ja (e.ah a)) ?_⟩)⟩);rintro _ _ ⟨rfl,rfl⟩;refine⟨_,rfl,Ok.mk ⟨⟨_,rfl,λb P g=>?_⟩,a⟩⟩;have b:=Xy b;exact Nat.le_of_not_lt λh=>b (.inl ⟨P,g,h⟩)
def Jb{tn n k o:Nat}(h:aW w D I d tn r k):ZG 28 #[.agg #[.slice d tn n,.slice r k o]] w (Ok λp w'=>(∃e:Bool,p= .bool e)/\ai w w'):=by
 have A:=h.aT.len;have q:=h.aT.dq;unfold aI at q;refine DK (PA.mk λw1 P B a=>⟨_,_,_,ae a rfl,an.dec (λ_=>Ok.mk ⟨⟨_,rfl⟩,P⟩) (λ_=>⟨_,_,_,ae a rfl,an.dec (λ_=>Ok.mk ⟨⟨_,rfl⟩,P⟩) (λ_=>?_)⟩)⟩);refine⟨λf i w'=>∃b:Nat,i=b/\b<=tn/\f=tn-b/\w1=w',⟨_,0,rfl,Qj _,rfl,rfl⟩,?_⟩;rintro f _ _ _ ⟨b,rfl,C,rfl,rfl⟩;refine⟨_,_,_,ae a rfl,an.dec (λE=>?_) (λ_=>Ok.mk ⟨⟨_,rfl⟩,P⟩)⟩;obtain⟨e,j,F,H,rfl,J,-,K,s,L,l,M,rfl,m⟩:=(h.aT.ah P).vy (i:=b) oM;have g:=s 0 dC;have t:jC.k=1:=rfl;rw[t,Nat.mul_one]at g;have u:=m.dq;unfold aI at u;refine⟨_,_,_,ae a rfl,e,j,rfl,oM,oM,_,_,_,g,an.dec (λ_=>Ok.mk ⟨⟨_,rfl⟩,P⟩) (λ_=>?_)⟩;refine⟨λf i w'=>∃c:Nat,i=c/\c<=l/\f=l-c/\w1=w',⟨_,0,rfl,Qj _,rfl,rfl⟩,?_⟩;rintro f _ _ _ ⟨c,rfl,N,rfl,rfl⟩;refine⟨_,_,_,ae a rfl,e,j,rfl,oM,oM,_,_,_,g,an.dec (λO=>?_) (λ_=>⟨_,oM,b+1,aq oM,oM,rfl,rfl⟩)⟩;obtain⟨v,x,Q,y,rfl,-,-,R,z,S,T,U,rfl,-,-⟩:=m.vy (i:=c) oM;exact⟨_,_,_,ae a rfl,e,j,rfl,oM,oM,_,_,_,g,v,x,rfl,oM,oM,_,_,_,z 3 dC,an.dec (λ_=>Ok.mk ⟨⟨_,rfl⟩,P⟩) (λ_=>⟨_,oM,c+1,aq oM,oM,rfl,rfl⟩)⟩
def Jc{tn v q x l y:Nat}(z:aW w D c.decl d tn r q)(n:Row PL 152 w E c2 l g8):
  ZG 9 #[py c d tn v r q x,.slice c2 l y] w (Ok λA w'=>(∃f:Bool,A= .bool f/\(f=false->g8.length<=100/\∀b∈g8,∀h∈b.m.events,h.aN.length<=100))/\ai w w'):=by
 have T:=n.len;have B:=n.dq;unfold aI at B;refine DH (PA.mk λw1 m U C=>?_);refine⟨λo w'=>ai w1 w'/\(g8.length<=100->∀b∈g8,∀h∈b.m.events,h.aN.length<=100),⟨λs o a w'=>∃P:Nat,a=P/\P<=l/\s=l-P/\ai w1 w'/\∀b∈g8.take P,∀h∈b.m.events,h.aN.length<=100,⟨_,0,rfl,Qj _,rfl,ak.refl _,sM⟩,?_⟩,?_⟩
 ·rintro s o _ _ w2 ⟨P,rfl,V,rfl,i,j⟩
  refine an.dec (λW=>an.dec (λF=>?_) (λF=>⟨i,λH=>oM⟩)) (λX=>⟨i,λ_=>by rw[Qz oM]at j;exact j⟩);obtain⟨f,k,I,Y,rfl,J,-,K,t,va,vn,vc,ea,en,ec,rfl,L,M,-⟩:=(n.ah (m.then i)).vy (i:=P) oM;refine⟨f,k,rfl,oM,oM,bl (es:=bH I.m va vn vc ea en ec) (k:=5) (iF _ _ _ _ _ _ _) rfl (λa Z=>by
   rw[Qx];have:=t (10+a) (show 10+a<15 by omega);rw[show k+P*15+10+a=k+P*PL.k+(10+a) by show _=k+P*15+_;omega,this];rcases a with _|_|_|_|_|a<;>first|rfl|omega) (PC.ok (I_ L M) ?_)⟩
  rintro _ N ⟨⟨O,rfl,Q⟩,e⟩;refine⟨_,rfl,an.mk (λ_=>Ok.mk ⟨⟨_,rfl,sM⟩,(m.then i).then e⟩) (λR=>?_)⟩;refine⟨f,k,rfl,oM,oM,_,_,_,(e.cell (a:=⟨f,_,none⟩) J id).trans (by rw[Qx];exact t 14 dC),_,oM,P+1,aq oM,oM,rfl,i.then e,?_⟩;rw[Qw,K];intro b g;rcases Q6.1 g with g|g
  ·exact j b g
  ·simp at g;subst g;exact Q R
 ·rintro o _ N ⟨e,j⟩
  have u:=e.get C id;refine⟨_,_,_,_,_,_,ae u rfl,ae u rfl,PC.ok (Jb (z.ah (m.then e))) ?_⟩;rintro _ w4 ⟨⟨O,rfl⟩,S⟩;have p:=(m.then e).then S;refine⟨_,rfl,an.mk (λ_=>Ok.mk ⟨⟨_,rfl,sM⟩,p⟩) (λ_=>an.dec (λ_=>Ok.mk ⟨⟨_,rfl,sM⟩,p⟩) (λH=>Ok.mk ⟨⟨_,rfl,λ_=>⟨oM,j oM⟩⟩,p⟩))⟩
def Gz(q:Row aG 8 w D va vn e6.vec)(r:Row fY 96 w E ea en e6.events)(I:∀b∈e6.events,b.aN.length<=100):
  ZG 57 #[iY e6 va vn vc ea en ec] w (Ok λJ w'=>∃c d s e f t G,J=iY e6 c d s e f t/\Row aG 8 w' G c d e6.vec/\Row fY 96 w' G e f e6.events/\(∀P,G P->w.heap.size<=P/\P<w'.heap.size)/\ai w w'):=by
 have K:=q.len;have L:=q.dq;have M:=r.len;have N:=r.dq;refine Bl (PA.mk λw1 O Z Q=>PA.mk λw2 y s2 R=>?_);have z:=O.then y;have A:=y.get Q id;refine⟨_,_,_,ae A rfl,PC.ok (q_ (q.ah z)) ?_⟩;rintro _ w3 ⟨h,i,j,S,rfl,B,k,l⟩;have z3:=k.size;have T:=B.aC;refine⟨_,_,_,rfl,PS.mk (k.get A id) (by simp[bH]) λU u s4 C=>⟨_,_,_,ae C rfl,?_⟩⟩;have F:ai w U:=(z.then k).new u λP a=>.inr (by have a:P=w.heap.size:=a;omega);refine PC.ok (zY (r.ah F) I) ?_;rintro _ w5 ⟨m,n,o,V,rfl,H,g,v⟩;have z5:=g.size;have W:=H.aC;refine⟨_,_,_,rfl,PS.mk (g.get C id) (by simp[bH]) λw6 p s6 X=>ar (iF e6 h i j m n o) X (az (iF e6 h i j m n o) (p.get (g.get (u.get (k.get R id) oM) id) oM) rfl λw7 x s7 Y=>ar (iF e6 h i j m n o) Y (Ok.mk ⟨h,i,j,m,n,o,λP=>S P\/V P,rfl,?_,?_,?_,?_⟩))⟩
 ·refine Row.mono ?_ λP a=>Or.inl a
  exact((((B.af u λP a b=>by have b:P=w.heap.size:=b;have:=l P a;omega).ah g).af p λP a b=>by have b:P=w.heap.size:=b;have:=l P a;omega).af x λP a b=>by have b:P=w1.heap.size:=b;have:=l P a;omega).row dC (by rw[<-K];exact L)
 ·refine Row.mono ?_ λP a=>Or.inr a
  exact oZ.row (((H.af p λP a b=>by have b:P=w.heap.size:=b;have:=v P a;omega).af x λP a b=>by have b:P=w1.heap.size:=b;have:=v P a;omega).row dC (by rw[<-M];exact N))
 ·rintro P (a|a)
  ·have:=l P a;have:=T P a;omega
  ·have:=v P a;have:=W P a;omega
 ·exact(((F.then g).new p λP a=>.inr (by have a:P=w.heap.size:=a;omega)).new x λP a=>.inr (by have a:P=w1.heap.size:=a;omega))
def bu.waits(d:bu w p F c self X):X.waits.length<=256:=by
 obtain⟨g,e,P,f⟩:=d;obtain⟨h,D,a,-,-⟩:=(show LQ w (λb=>F b/\P b=5) e.wp c.buffer.toNat X.waits from f.at' 5)
 exact Xx a.1.2.le a.1.1
def bu.ok(P:bu w p F c self X):ky c self:=P.1
def cz.after(P:ai w w1)(a:cz F w1 f w2):cz F w f w2:=⟨(ai.af P).then a.af,λb c=>(a.new b c).imp id λd=>by have:=P.size;omega⟩
def zZ(m:bu w p F c self X)(Q:Env w0 w F){a:BL}(n:a.Ok)(R:Row aG 8 w Dv va vn a.m.vec)(S:Row fY 96 w E ea en a.m.events)(T:∀U∈a.m.events,U.aN.length<=100)(B:X.S.l.length<=18000000)(V:X.fr.asked.length<=1000):
  ZG 20 #[XL p,Sb a va vn vc ea en ec] w (Ok λW w'=>∃P,W= XH (Kr c self X a).1/\bu w' p P c self (Kr c self X a).2/\cz F w P w'/\iG X (Kr c self X a).2):=by
 have C:=m.aC;have Y:=m.waits;have Z:=m.ok.Ep;refine DI (PA.mk λw1 b s1 h=>⟨_,ae h rfl,?_⟩);have f:=m.ah b;have o:=Q.ah b;unfold Kr;refine an.dJ (λr=>?_) (λr=>?_)
 ·rw[Zx r]
  refine Kq (es:=fv a.cmd) (vX a.cmd) h (λj s=>by rcases j with _|_|_|_|_|_|_|j<;>first|rfl|exact Zz s (by simp[fv])) (PC.ok (kC f o n.cmd oM) ?_);rintro _ w2 ⟨P,⟨sa,sn,sc,xa,xn,xc,ra,rn,rc,G,rfl,-,-,-,-⟩,a2,a0⟩;refine⟨_,_,_,_,_,_,_,_,_,_,_,_,_,_,rfl,Ok.mk ⟨P,?_,a2,cz.after b a0,sw c self X a.cmd⟩⟩
  by_cases k:(bI c self X a.cmd).1≠0
  ·rw[Zx k]
  ·rw[Zq k];have k:(bI c self X a.cmd).1=0:=Classical.not_not.1 k;rw[k]
 rw[Zq r];refine an.dJ (λt=>?_) (λt=>?_)
 ·rw[Zx t]
  intro w2 d2;have i:ai w1 w2:=d2.af;have H:=i.get h id;refine⟨F,λu=>by have:=C _ u;omega,_,ae H rfl,_,ae H rfl,PC.ok Gy ?_⟩;rintro _ _ ⟨rfl,rfl⟩;refine⟨_,rfl,ak.refl _,PC.ok (tU (f.ah i) n.n) ?_⟩;rintro _ l ⟨P,⟨I,J,K,L,M,rfl,-⟩,e,d⟩;exact⟨_,_,_,rfl,d.af,Ok.mk ⟨P,rfl,e,cz.after (b.then i) d,z_ c self X _ _⟩⟩
 rw[Zq t];refine an.dJ (λv=>?_) (λv=>?_)
 ·rw[Zx v]
  refine Kq (es:=bH a.m va vn vc ea en ec) (iF _ _ _ _ _ _ _) h (λj s=>by rcases j with _|_|_|_|_|j<;>first|rfl|exact Zz s (by simp[bH])) (PC.ok (Gz (R.ah b) (S.ah b) T) ?_);rintro _ w2 ⟨a1,a3,a4,a5,a6,a7,G,rfl,a8,a9,N,i⟩;have z1:=b.size;have O:∀g,G g->g<w2.heap.size/\¬F g:=λg q=>⟨(N g q).2,λu=>by have:=C g u;have:=N g q;omega⟩
  refine bE (Tl _ _ _ _ _ _ _) ⟨rfl,PC.ok (pA (f.ah i) (o.ah i) a8 O a9 O B) ?_⟩;rintro _ l ⟨v1,P,rfl,⟨I,J,K,L,M,rfl,-⟩,e,d⟩;exact⟨_,_,_,_,rfl,Ok.mk ⟨P,rfl,e,cz.after (b.then i) d,lq c self X a.m Y Z.2⟩⟩
 rw[Zq v];refine an.dJ (λx=>?_) (λx=>?_)
 ·rw[Zx x]
  refine⟨_,ae h rfl,PC.ok Gy ?_⟩;rintro _ _ ⟨rfl,rfl⟩;refine⟨_,rfl,PC.ok (NU f V) ?_⟩;rintro _ l ⟨P,⟨I,J,K,L,M,rfl,-⟩,e,d⟩;exact⟨_,_,_,rfl,Ok.mk ⟨P,rfl,e,cz.after b d,Jd self X _⟩⟩
 rw[Zq x];refine an.dJ (λy=>?_) (λy=>?_)
 ·rw[Zx y]
  refine⟨_,ae h rfl,PC.ok (LR f o n.n) ?_⟩;rintro _ l ⟨P,rfl,e,d,b0⟩;refine⟨_,rfl,Ok.mk ⟨P,rfl,e,cz.after b d,.inr b0,?_⟩⟩;unfold Aa;rw[wx];exact Qj _
 rw[Zq y];refine an.dJ (λz=>?_) (λz=>?_)
 ·rw[Zx z]
  refine⟨_,ae h rfl,PC.ok (NV f n.n) ?_⟩;rintro _ l ⟨P,rfl,e,d⟩;exact⟨rfl,Ok.mk ⟨P,rfl,e,cz.after b d,⟨.inl be,by dsimp only;omega⟩⟩⟩
 rw[Zq z];refine an.dJ (λA=>?_) (λA=>?_)
 ·rw[Zx A]
  refine PC.ok (GA f o B) ?_;rintro _ l ⟨P,rfl,e,d⟩;exact⟨_,rfl,Ok.mk ⟨P,rfl,e,cz.after b d,BM c X⟩⟩
 ·rw[Zq A]
  exact Ok.mk ⟨F,rfl,f,⟨ai.af b,λg q=>.inl q⟩,iG.refl X⟩
end
end Go.Proofs.YtblabbpipmodgaaGreatDoor
namespace Go.aw
open Go Go.WideShapes
variable{L:Bool}{f8:List MemPlace}{a:Nat}{h:Program}{J j:Type}{g:TypeId}{t:Value}{b:World}
def Gv{P:TypeId×Value->j}{i:Reach}{e:DataW j}{f:jh J}{k:Array Field}(l:h.underlying g=some (.struct k))(m:Reads h f g)(n:Value.okWide h b i a g t)(o:DataW.Trod P h b 0 (λ_=>true) L g t e f8)(p:iB h g e):∃d cs,t= .agg cs/\f.rep b (In b) d cs.toList:=by
 obtain⟨cs,rfl,-⟩:=okWide_struct l n;obtain⟨c,q⟩:=o;obtain⟨d,r⟩:=m j P b L c cs.toList _ q p;exact⟨d,cs,rfl,r⟩
end Go.aw
namespace Go.Proofs.YtblabbpipmodgaaGreatDoor
section
open Go.aw
structure Un (c:cy):Prop where
 bR:aK c.bR
 tR:aK c.tR
 bN:aK c.bN
 chunk:aK c.chunk
 buffer:aK c.buffer
 cQ:aK c.cQ
 every:aK c.every
 start:aK c.start
def Tk:jh aM where
 k:=2
 rep:=λi D j cs=>∃P tn c a b d,cs=[.slice P tn c,.slice a b d]/\aW i D j P tn a b
 af:=λ⟨P,tn,c,a,b,d,e,f⟩ k g=>⟨P,tn,c,a,b,d,e,f.af k g⟩
 mono:=λ⟨P,tn,c,a,b,d,e,f⟩ g=>⟨P,tn,c,a,b,d,e,f.mono g⟩
 len:=λ⟨P,tn,c,a,b,d,e,_⟩=>by rw[e];rfl
 one:=λ⟨P,tn,c,a,b,d,e,_⟩ l h=>by rw[e]at h;simp at h;rcases h with rfl|rfl<;>rfl
def Uo:jh cy where
 k:=10
 rep:=λk D f cs=>∃P tn c a b d,cs=gu f P tn c a b d/\aW k D f.decl P tn a b/\Un f
 af:=λ⟨P,tn,c,a,b,d,e,g,h⟩ l i=>⟨P,tn,c,a,b,d,e,g.af l i,h⟩
 mono:=λ⟨P,tn,c,a,b,d,e,g,h⟩ i=>⟨P,tn,c,a,b,d,e,g.mono i,h⟩
 len:=λ⟨P,tn,c,a,b,d,e,_,_⟩=>by rw[e];rfl
 one:=λ⟨P,tn,c,a,b,d,e,_,_⟩ m j=>by rw[e]at j;simp[gu]at j;rcases j with rfl|rfl|rfl|rfl|rfl|rfl|rfl|rfl|rfl|rfl<;>rfl
def Up:jh iQ:=flat 7 fv iQ.Ok (λ_=>rfl) (λa b P=>by simp[fv]at P;rcases P with rfl|rfl|rfl|rfl|rfl|rfl|rfl<;>rfl)
def Uq:jh cN where
 k:=5
 rep:=λl D h cs=>∃P a d b c e,cs=bH h P a d b c e/\Row aG 8 l D P a h.vec/\Row fY 96 l D b c h.events
 af:=λ⟨P,a,d,b,c,e,f,i,j⟩ m g=>⟨P,a,d,b,c,e,f,i.af m g,j.af m g⟩
 mono:=λ⟨P,a,d,b,c,e,f,i,j⟩ g=>⟨P,a,d,b,c,e,f,i.mono g,j.mono g⟩
 len:=λ⟨P,a,d,b,c,e,f,_,_⟩=>by rw[f];rfl
 one:=λ⟨P,a,d,b,c,e,f,_,_⟩ n k=>by rw[f]at k;simp[bH]at k;rcases k with rfl|rfl|rfl|rfl|rfl<;>rfl
def IT:Reads XP fm 125:=λy f z A a cs B g C=>by
 obtain⟨h,E,_,rfl,i,j,P⟩:=DataW.trod_struct (Tryz.underlying125) g;have k:Tryz.prog.cellsOf 125=4:=kR
 have l:cs.length=4:=i.trans k;have m:Tryz.prog.cellsOf 3=1:=kR
 match cs,l with
 |[F,H,I,J],_=>
 match h,j with
 |[K,L,M,N],_=>
  have b:=P 0 _ rfl;have c:=P 1 _ rfl;have d:=P 2 _ rfl;have e:=P 3 _ rfl;simp only[m,List.drop_zero,List.drop_succ_cons,Zw,List.take_zero,List.take_nil,ZJ,ZZ]at b c d e;obtain⟨n,o,-,p⟩:=DataW.trod_int Tryz.underlying3 b;obtain⟨z1,q,-,r⟩:=DataW.trod_int Tryz.underlying3 c;obtain⟨s,t,-,u⟩:=DataW.trod_int Tryz.underlying3 d;obtain⟨v,w,-,x⟩:=DataW.trod_int Tryz.underlying3 e
  cases o;cases q;cases t;cases w
  exact⟨⟨n,z1,s,v⟩,rfl,aJ p,aJ r,aJ u,aJ x⟩
def LI:Reads XP nJ 123:=λK f L M a cs N g h=>by
 obtain⟨i,O,_,rfl,j,k,P⟩:=DataW.trod_struct (Tryz.underlying123) g;have l:Tryz.prog.cellsOf 123=4:=kR
 have m:cs.length=4:=j.trans l;have n:Tryz.prog.cellsOf 3=1:=kR
 have o:Tryz.prog.cellsOf 4=1:=kR
 have p:Tryz.prog.cellsOf 121=1:=kR
 match cs,m with
 |[Q,R,S,T],_=>
 match i,k with
 |[U,V,W,q],_=>
  have b:=P 0 _ rfl;have c:=P 1 _ rfl;have d:=P 2 _ rfl;have e:=P 3 _ rfl;simp only[n,o,p,List.drop_zero,List.drop_succ_cons,Zw,List.take_zero,List.take_nil,ZJ,ZZ]at b c d e;obtain⟨r,s,-,t⟩:=DataW.trod_int Tryz.underlying3 b;obtain⟨z1,u,-,v⟩:=DataW.trod_int Tryz.underlying3 c;obtain⟨w,x,-⟩:=DataW.trod_bool Tryz.underlying4 d;have y:iB XP 121 q.1:=by
   intro z A;refine h z ?_;have B:Tryz.prog.underlying 123=_:=Tryz.underlying123;simp only[DataW.weights,B,QY,List.map_nil,DataW.weightsEach,Q6];right;right;right;left;exact A
  obtain⟨C,E,F,H,I,-,-,J⟩:=open_row (bytes:=32) Tryz.underlying121 kR dC kR (IT) e y
  cases s;cases u;cases x;cases I
  exact⟨⟨r,z1,w,H⟩,C,E,F,rfl,J,aJ t,aJ v⟩
def LJ:Reads XP jC 130:=λw b x y P cs z c d=>by
 obtain⟨e,A,_,rfl,f,g,h⟩:=DataW.trod_struct (Tryz.underlying130) c;have i:Tryz.prog.cellsOf 130=1:=kR
 have j:cs.length=1:=f.trans i;have k:Tryz.prog.cellsOf 126=1:=kR
 match cs,j with
 |[B],_=>
 match e,g with
 |[l],_=>
  have a:=h 0 _ rfl;simp only[k,List.drop_zero,List.drop_succ_cons,Zw,List.take_zero,List.take_nil,ZJ,ZZ]at a;have m:iB XP 126 l.1:=by
   intro n o;refine d n ?_;have p:Tryz.prog.underlying 130=_:=Tryz.underlying130;simp only[DataW.weights,p,QY,List.map_nil,DataW.weightsEach,Q6];left;exact o
  obtain⟨q,r,s,t,u,-,-,v⟩:=open_row (bytes:=48) Tryz.underlying126 kR dC kR (LI) a m
  cases u
  exact⟨t,q,r,s,rfl,v⟩
def IU:Reads XP tL 128:=λC g E F a cs H h I=>by
 obtain⟨i,J,_,rfl,j,k,P⟩:=DataW.trod_struct (Tryz.underlying128) h;have l:Tryz.prog.cellsOf 128=5:=kR
 have m:cs.length=5:=j.trans l;have n:Tryz.prog.cellsOf 3=1:=kR
 match cs,m with
 |[K,L,M,N,O],_=>
 match i,k with
 |[Q,R,S,T,U],_=>
  have b:=P 0 _ rfl;have c:=P 1 _ rfl;have d:=P 2 _ rfl;have e:=P 3 _ rfl;have f:=P 4 _ rfl;simp only[n,List.drop_zero,List.drop_succ_cons,Zw,List.take_zero,List.take_nil,ZJ,ZZ]at b c d e f;obtain⟨o,p,-,q⟩:=DataW.trod_int Tryz.underlying3 b;obtain⟨z1,r,-,s⟩:=DataW.trod_int Tryz.underlying3 c;obtain⟨t,u,-,v⟩:=DataW.trod_int Tryz.underlying3 d;obtain⟨w,x,-,y⟩:=DataW.trod_int Tryz.underlying3 e;obtain⟨z,A,-,B⟩:=DataW.trod_int Tryz.underlying3 f
  cases p;cases r;cases u;cases x;cases A
  exact⟨⟨o,z1,t,w,z⟩,rfl,aJ q,aJ s,aJ v,aJ y,aJ B⟩
def IV:Reads XP Tk 25:=λH h I J c cs K i d=>by
 obtain⟨j,L,_,rfl,k,l,e⟩:=DataW.trod_struct (Tryz.underlying25) i;have m:Tryz.prog.cellsOf 25=2:=kR
 have n:cs.length=2:=k.trans m;have o:Tryz.prog.cellsOf 22=1:=kR
 have p:Tryz.prog.cellsOf 23=1:=kR
 match cs,n with
 |[M,N],_=>
 match j,l with
 |[q,r],_=>
  have f:=e 0 _ rfl;have g:=e 1 _ rfl;simp only[o,p,List.drop_zero,List.drop_succ_cons,Zw,List.take_zero,List.take_nil,ZJ,ZZ]at f g;have s:iB XP 22 q.1:=by
   intro P a;refine d P ?_;have b:Tryz.prog.underlying 25=_:=Tryz.underlying25;simp only[DataW.weights,b,QY,List.map_nil,DataW.weightsEach,Q6];left;exact a
  obtain⟨t,u,v,w,x,-,-,y⟩:=open_row (bytes:=24) Tryz.underlying22 kR dC kR (LJ) f s;have z:iB XP 23 r.1:=by
   intro P a;refine d P ?_;have b:Tryz.prog.underlying 25=_:=Tryz.underlying25;simp only[DataW.weights,b,QY,List.map_nil,DataW.weightsEach,Q6];right;left;exact a
  obtain⟨A,B,C,z1,E,-,-,F⟩:=open_row (bytes:=40) Tryz.underlying23 kR dC kR (IU) g z
  cases x;cases E
  exact⟨⟨w,z1⟩,t,u,v,A,B,C,rfl,⟨y,F⟩⟩
def LK:Reads XP Uo 29:=λl a m n b cs a0 o p=>by
 obtain⟨q,n2,_,rfl,r,s,P⟩:=DataW.trod_struct (Tryz.underlying29) o;have t:Tryz.prog.cellsOf 29=10:=kR
 have u:cs.length=10:=r.trans t;have v:Tryz.prog.cellsOf 3=1:=kR
 have w:Tryz.prog.cellsOf 25=2:=kR
 match cs,u with
 |[v0,v1,v2,v3,v4,v5,v6,v7,v8,v9],_=>
 match q,s with
 |[y0,y1,y2,y3,y4,y5,y6,y7,x],_=>
  have c:=P 0 _ rfl;have d:=P 1 _ rfl;have e:=P 2 _ rfl;have f:=P 3 _ rfl;have g:=P 4 _ rfl;have h:=P 5 _ rfl;have i:=P 6 _ rfl;have j:=P 7 _ rfl;have k:=P 8 _ rfl;simp only[v,w,List.drop_zero,List.drop_succ_cons,Zw,List.take_zero,List.take_nil,ZJ,ZZ]at c d e f g h i j k;obtain⟨y,z,-,A⟩:=DataW.trod_int Tryz.underlying3 c;obtain⟨z1,B,-,C⟩:=DataW.trod_int Tryz.underlying3 d;obtain⟨E,F,-,H⟩:=DataW.trod_int Tryz.underlying3 e;obtain⟨I,J,-,K⟩:=DataW.trod_int Tryz.underlying3 f;obtain⟨L,M,-,N⟩:=DataW.trod_int Tryz.underlying3 g;obtain⟨O,Q,-,R⟩:=DataW.trod_int Tryz.underlying3 h;obtain⟨S,T,-,U⟩:=DataW.trod_int Tryz.underlying3 i;obtain⟨V,W,-,X⟩:=DataW.trod_int Tryz.underlying3 j;have Y:iB XP 25 x.1:=by
   intro Z hq;refine p Z ?_;have hu:Tryz.prog.underlying 29=_:=Tryz.underlying29;simp only[DataW.weights,hu,QY,List.map_nil,DataW.weightsEach,Q6];right;right;right;right;right;right;right;right;left;exact hq
  obtain⟨z8,r8⟩:=IV l a m n _ _ _ k Y
  cases z;cases B;cases F;cases J;cases M;cases Q;cases T;cases W
  obtain⟨ta,tn,tc,pa,pn,pc,he,hd⟩:=r8
  cases he
  exact⟨⟨y,z1,E,I,L,O,S,V,z8⟩,ta,tn,tc,pa,pn,pc,rfl,hd,aJ A,aJ C,aJ H,aJ K,aJ N,aJ R,aJ U,aJ X⟩
def Cy:Reads XP Up 49:=λL i M N a cs O j Q=>by
 obtain⟨k,R,_,rfl,l,m,P⟩:=DataW.trod_struct (Tryz.underlying49) j;have n:Tryz.prog.cellsOf 49=7:=kR
 have o:cs.length=7:=l.trans n;have p:Tryz.prog.cellsOf 3=1:=kR
 match cs,o with
 |[S,T,U,V,W,X,Y],_=>
 match k,m with
 |[Z,y1,y2,y3,y4,y5,y6],_=>
  have b:=P 0 _ rfl;have c:=P 1 _ rfl;have d:=P 2 _ rfl;have e:=P 3 _ rfl;have f:=P 4 _ rfl;have g:=P 5 _ rfl;have h:=P 6 _ rfl;simp only[p,List.drop_zero,List.drop_succ_cons,Zw,List.take_zero,List.take_nil,ZJ,ZZ]at b c d e f g h;obtain⟨q,r,-,s⟩:=DataW.trod_int Tryz.underlying3 b;obtain⟨z1,t,-,u⟩:=DataW.trod_int Tryz.underlying3 c;obtain⟨v,w,-,x⟩:=DataW.trod_int Tryz.underlying3 d;obtain⟨y,z,-,A⟩:=DataW.trod_int Tryz.underlying3 e;obtain⟨B,C,-,E⟩:=DataW.trod_int Tryz.underlying3 f;obtain⟨F,H,-,w5⟩:=DataW.trod_int Tryz.underlying3 g;obtain⟨I,J,-,K⟩:=DataW.trod_int Tryz.underlying3 h
  cases r;cases t;cases w;cases z;cases C;cases H;cases J
  exact⟨⟨q,z1,v,y,B,F,I⟩,rfl,aJ s,aJ u,aJ x,aJ A,aJ E,aJ K⟩
def LM:Reads XP Uq 60:=λS k T U d cs V l e=>by
 obtain⟨m,W,_,rfl,n,o,P⟩:=DataW.trod_struct (Tryz.underlying60) l;have p:Tryz.prog.cellsOf 60=5:=kR
 have q:cs.length=5:=n.trans p;have r:Tryz.prog.cellsOf 3=1:=kR
 have s:Tryz.prog.cellsOf 27=1:=kR
 have t:Tryz.prog.cellsOf 50=1:=kR
 match cs,q with
 |[X,Y,Z,v3,v4],_=>
 match m,o with
 |[y0,y1,y2,u,v],_=>
  have f:=P 0 _ rfl;have g:=P 1 _ rfl;have h:=P 2 _ rfl;have i:=P 3 _ rfl;have j:=P 4 _ rfl;simp only[r,s,t,List.drop_zero,List.drop_succ_cons,Zw,List.take_zero,List.take_nil,ZJ,ZZ]at f g h i j;obtain⟨w,x,-,w0⟩:=DataW.trod_int Tryz.underlying3 f;obtain⟨z1,y,-,w1⟩:=DataW.trod_int Tryz.underlying3 g;obtain⟨z,A,-,w2⟩:=DataW.trod_int Tryz.underlying3 h;have B:iB XP 27 u.1:=by
   intro a b;refine e a ?_;have c:Tryz.prog.underlying 60=_:=Tryz.underlying60;simp only[DataW.weights,c,QY,List.map_nil,DataW.weightsEach,Q6];right;right;right;left;exact b
  obtain⟨C,E,F,H,I,-,-,J⟩:=open_row (bytes:=8) Tryz.underlying27 kR dC kR (Cs Tryz.underlying3) i B;have K:iB XP 50 v.1:=by
   intro a b;refine e a ?_;have c:Tryz.prog.underlying 60=_:=Tryz.underlying60;simp only[DataW.weights,c,QY,List.map_nil,DataW.weightsEach,Q6];right;right;right;right;left;exact b
  obtain⟨L,M,N,O,Q,-,-,R⟩:=open_row (bytes:=96) Tryz.underlying50 kR dC kR (Ny) j K
  cases x;cases y;cases A;cases I;cases Q
  exact⟨⟨w,z1,z,H,O⟩,C,E,F,L,M,N,rfl,J,R⟩
def Gw:Reads XP PL 67:=λe P f g h cs a0 q i=>by
 obtain⟨r,n2,_,rfl,s,t,a⟩:=DataW.trod_struct (Tryz.underlying67) q;have u:Tryz.prog.cellsOf 67=15:=kR
 have v:cs.length=15:=s.trans u;have w:Tryz.prog.cellsOf 3=1:=kR
 have x:Tryz.prog.cellsOf 49=7:=kR
 have y:Tryz.prog.cellsOf 60=5:=kR
 match cs,v with
 |[v0,v1,v2,v3,v4,v5,v6,v7,v8,v9,a1,a2,a3,a4,a5],_=>
 match r,t with
 |[y0,y1,y2,z,A],_=>
  have j:=a 0 _ rfl;have k:=a 1 _ rfl;have l:=a 2 _ rfl;have m:=a 3 _ rfl;have n:=a 4 _ rfl;simp only[w,x,y,List.drop_zero,List.drop_succ_cons,Zw,List.take_zero,List.take_nil,ZJ,ZZ]at j k l m n;obtain⟨B,C,-,E⟩:=DataW.trod_int Tryz.underlying3 j;obtain⟨z1,F,-,H⟩:=DataW.trod_int Tryz.underlying3 k;obtain⟨I,J,-,K⟩:=DataW.trod_int Tryz.underlying3 l;have L:iB XP 49 z.1:=by
   intro b c;refine i b ?_;have d:Tryz.prog.underlying 67=_:=Tryz.underlying67;simp only[DataW.weights,d,QY,List.map_nil,DataW.weightsEach,Q6];right;right;right;left;exact c
  obtain⟨M,N⟩:=Cy e P f g _ _ _ m L;have O:iB XP 60 A.1:=by
   intro b c;refine i b ?_;have d:Tryz.prog.underlying 67=_:=Tryz.underlying67;simp only[DataW.weights,d,QY,List.map_nil,DataW.weightsEach,Q6];right;right;right;right;left;exact c
  obtain⟨Q,R⟩:=LM e P f g _ _ _ n O
  cases C;cases F;cases J
  obtain⟨o,S⟩:=N;obtain⟨T,U,V,W,X,Y,p,Z,he⟩:=R;simp only[fv,bH,List.cons.injEq,and_true]at o p;obtain⟨rfl,rfl,rfl,rfl,rfl,rfl,rfl⟩:=o;obtain⟨rfl,rfl,rfl,rfl,rfl⟩:=p;exact⟨⟨B,z1,I,M,Q⟩,T,U,V,W,X,Y,rfl,Z,he,aJ E,aJ H,aJ K,S⟩
end
section
open Go.aw
variable{V p:Array Value}{g0 y:FuncId}{e:Int}{u:List Int}{a4 g4 h6:List PanicEntry->XU}{a:Nat}{d r:ZH}{K a3:Prop}{t:Value}{a8 b k:World}{I:aM}{l:aj}{B:au}{d2:bD}{e4:cy}{e5:px}
def au.le_top:∀b∈B.l,b.ax<=B.top:=by
 have:∀(a:List aj) (P:Int),P<=a.foldl (λP c=>max P c.ax) P/\∀b∈a,b.ax<=a.foldl (λP c=>max P c.ax) P:=by
  intro a
  induction a with
  |nil=>intro P;simp
  |cons c a e=>
   intro P;obtain⟨g,f⟩:=e (max P c.ax);rw[List.foldl_cons];refine⟨oM,λb d=>?_⟩;rcases Q2.1 d with rfl|d
   ·omega
   ·exact f b d
 exact(this B.l 0).2
def LO(b:∀c∈u,0<=c):gU u []=u:=by
 unfold gU mB;apply List.ext_getElem
 ·simp
 ·intro P e d
  have a:P<u.length:=d;have f:=b u[P] (XY a);simp only[List.getElem_map,List.getElem_range];rw[Ek (xs:=u) (i:=(P:Int)) (x:=u[P]) oM (by simp[a]),Gx (xs:=[]) sM];omega
def au.Cl.PQ(b:B.Cl)(d:l∈B.l)(e:a<B.n):l.aN.getD a 0<=(B.sK a:Int):=by
 rcases oE.1 (b.iw l d a e)with i|⟨f,g,-⟩
 ·omega
 ·obtain⟨h,P⟩:=au.get_some g
  have c:=b.le f h;unfold aR at P;simp only[Prod.mk.injEq]at P;rw[P.1,P.2,Qx]at c;exact c
def au.Cl.next(d:B.Cl)(i:a<B.n)(s:B.l.length<=20000000)(e:l.origin=a)(f:l.seq=(B.sK a:Int)+1)(j:∀P∈B.l,P.ax<l.ax)(t:1<=l.ax)(h:l.aN=B.vec)(u:0<=l.agg)(v:0<=l.key)(w:1<=l.op/\l.op<=5)(x:0<=l.aT/\l.aT<8)(y:0<=l.field/\l.field<8):
  B.add l=(0,⟨B.n,B.l++[l]⟩):=by
 have z:=B.El a;have m:cD l B.n=0:=by
  unfold cD;rw[Zq,Zq,Zq oM,Zq oM]
  ·rw[e,Qx,h,B.ix i,f]
   have:ny ((B.sK a:Int)+1-1)=B.sK a:=by
    show IntKind.wrap .i64 _=_;rw[wrap_i64 bb];omega
   rw[this];simp
  ·rw[e,f,h,B.bq]
   simp only[not_or];refine⟨oM,oM,oM,oM,sM,?_⟩;simp[au.vec]
 have n:B.get (aR l)=none:=by
  cases b:B.get (aR l)with
  |none=>rfl
  |some P=>
   obtain⟨o,g⟩:=au.get_some b;have p:=d.le P o;unfold aR at g;simp only[Prod.mk.injEq]at g;rw[g.1,g.2,e,Qx,f]at p;omega
 have q:∀c,c<B.n->B.iw l c=true:=λc k=>by
  rw[oE,h,B.ix k]
  by_cases A:B.sK c=0
  ·exact .inl oM
  ·obtain⟨P,b,r⟩:=d.has c (B.sK c) k oM (Int.le_refl _)
   refine .inr ⟨P,?_,j P b,λC E=>?_⟩
   ·rw[<-r];exact d.ok.get b
   ·obtain⟨-,-,-,-,-,-,F,-⟩:=lL (d.ok.TQ P b)
    rw[B.ix oM];exact d.PQ b oM
 rw[au.Ke m n (by rw[e,Qx,B.ix i,f]) q,mz];intro P b;have:=j P b;unfold dO;simp;omega
def IX(f:cO I=0){a b c arg:Int}(P:iE I a b c arg=0):1<=c/\c<=5/\0<=a/\a<8/\0<=b/\b<8:=by
 obtain⟨h,-,-⟩:=jA f;obtain⟨k,l,m,n⟩:=uM h;have d:=P;unfold iE at P
 cases e:I.AZ a b with
 |none=>rw[e]at P;simp at P
 |some o=>
  rw[e]at P;simp only at P;obtain⟨p,q,r,s,i,t,u,v⟩:=aM.pw e;have j:=(Em f d (cells:=cP (I.at a)) (by simp[cP])).2.2.2;rw[i]at j;split at P
  ·simp at P
  ·rename_i g
   simp only[Bool.or_eq_true,not_or,Bool.not_eq_true,Bool.not_eq_eq_eq_not,Bool.not_true,Bool.not_false]at g;have:=bh.1 (by simpa using g.1:within c 1 5=true);omega
def Ur[Decidable K][Decidable a3]{b c d a:aj×Bool×Int}(P:(if K then b else if a3 then c else d)=a)(e:b.2.2≠0)(f:c.2.2≠0)(g:a.2.2=0):d=a:=by
 by_cases h:K
 ·rw[Zx h]at P;rw[P]at e;exact Zz g e
 rw[Zq h]at P
 by_cases i:a3
 ·rw[Zx i]at P;rw[P]at f;exact Zz g f
 rw[Zq i]at P;exact P
structure R_ (c:cy) (me:Int) (X:bD) (x:iQ):Prop where
 no:(bI c me X x).1≠0->(bI c me X x).2.2.S=X.S
 TO:(bI c me X x).1=0->(bI c me X x).2.2.S.l.length=X.S.l.length->x.key≠0/\(bI c me X x).2.2.S=X.S
 new:(bI c me X x).1=0->(bI c me X x).2.2.S.l.length≠X.S.l.length->∃e:aj,(bI c me X x).2.2.S.l=X.S.l++[e]/\aR e=(bI c me X x).2.1/\aR e=(me,(X.S.sK me.toNat:Int)+1)/\
  (x.key≠0->bI c me (bI c me X x).2.2 x=(0,aR e,(bI c me X x).2.2))
def PR{x:iQ}(r:ky e4 e)(u:d2.S.Cl)(B:d2.S.n=e4.bR.toNat)(C:d2.S.l.length<=20000000):R_ e4 e d2 x:=by
 obtain⟨Z,a6⟩:=r.NS;obtain⟨a7,a8,a9⟩:=r.bR;obtain⟨l,s⟩:∃l:Nat,e=l:=⟨e.toNat,oM⟩
 have v:l<d2.S.n:=oM
 cases n:d2.log with
 |none=>
  have b:bI e4 e d2 x=(15,(0,0),d2):=by unfold bI;rw[n]
  refine⟨λ_=>by rw[b],λa=>?_,λa=>?_⟩<;>(rw[b]at a;simp at a)
 |some a0=>
 obtain⟨P,d⟩:∃P,lX e4.decl d2.S (cf e4.decl d2.S.l) e e4.start x=P:=⟨_,rfl⟩
 have b:bI e4 e d2 x=(if P.2.2≠0 then(P.2.2,(0,0),d2)else if P.2.1 then(if(cR e4 d2 [P.1]).1≠0 then((cR e4 d2 [P.1]).1,(0,0),(cR e4 d2 [P.1]).2)else(0,aR P.1,(cR e4 d2 [P.1]).2))else(0,aR P.1,d2)):=by
  unfold bI;rw[n,<-d]
 have b0:=d;rw[lY]at d
 by_cases f:P.2.2≠0
 ·rw[Zx f]at b
  refine⟨λ_=>by rw[b],λa=>?_,λa=>?_⟩<;>(rw[b]at a;exact Zz a f)
 rw[Zq f]at b;have f:P.2.2=0:=Classical.not_not.1 f
 by_cases g:ez e4.decl x≠0
 ·rw[Zx g]at d;rw[<-d]at f;exact Zz f g
 rw[Zq g]at d;have g:ez e4.decl x=0:=Classical.not_not.1 g
 cases j:d2.S.keyed x.key with
 |some E=>
  rw[j]at d;simp only at d;subst d;have b:bI e4 e d2 x=(0,aR E,d2):=by rw[b];rfl
  refine⟨λa=>Zz (by rw[b]) a,λ_ _=>⟨?_,by rw[b]⟩,λ_ a=>Zz (by rw[b]) a⟩;intro F;unfold au.keyed at j;have:=List.find?_some j;rw[F]at this;simp at this
 |none=>
  rw[j]at d;simp only at d;have d:=Ur d sM sM f;have H:P.2.1=true:=by rw[<-d]at f⊢;simpa using f
  rw[Zx H]at b
  by_cases c:(cR e4 d2 [P.1]).1≠0
  ·rw[Zx c]at b
   have m:(cR e4 d2 [P.1]).2.S=d2.S:=by
    unfold cR at c⊢;rw[n]at c⊢;dsimp only at c⊢;split
    ·rfl
    rename_i k;rw[Zq k]at c;split
    ·rfl
    rename_i o;rw[Zq o]at c;exact Zz rfl c
   refine⟨λ_=>by rw[b];exact m,λa=>?_,λa=>?_⟩<;>(rw[b]at a;exact Zz a c)
  rw[Zq c]at b;have I:∃w,(cR e4 d2 [P.1]).2.log=some w/\(cR e4 d2 [P.1]).2.S=dZ e4 d2.S [P.1]:=by
   unfold cR at c⊢;rw[n]at c⊢;dsimp only at c⊢;split
   ·rename_i k;rw[Zx k]at c;exact Zz k c
   rename_i k;rw[Zq k]at c;split
   ·rename_i o;rw[Zx o]at c;exact Zz o c
   ·exact⟨_,rfl,rfl⟩
  obtain⟨w,J,K⟩:=I;have i:(aQ x e d2.S.vec (max d2.S.top e4.start)).1=0:=by rw[<-d]at f;exact f
  have h:P.1=(aQ x e d2.S.vec (max d2.S.top e4.start)).2:=by rw[<-d]
  have L:∀p∈d2.S.vec,0<=p:=λp q=>by
   unfold au.vec at q;obtain⟨a1,-,rfl⟩:=Xk.1 q;omega
  have y:eI d2.S.vec e=d2.S.sK l:=by
   rw[Ek (x:=(d2.S.sK l:Int)) oM (by rw[s,Qx];exact d2.S.jt v)];omega
  unfold aQ at i h;dsimp only at i h
  by_cases z:e<0\/(d2.S.vec.length:Int)<=e\/max d2.S.top e4.start<0
  ·rw[Zx z]at i;cases i
  rw[Zq z]at i h
  by_cases A:eI d2.S.vec e=9223372036854775807\/max d2.S.top e4.start=9223372036854775807
  ·rw[Zx A]at i;cases i
  rw[Zq A]at h;dsimp only at h;unfold ez at g;split at g
  ·cases g
  rename_i M;obtain⟨N,O,Q,R,S,T⟩:=IX r.decl g;have U:d2.S.add P.1=(0,⟨d2.S.n,d2.S.l++[P.1]⟩):=by
   have b1:=d2.S.zR;rw[h];exact u.next v C s (by dsimp only;rw[y]) (λp q=>by have:=au.le_top p q;dsimp only;omega) be (LO L) be be ⟨N,O⟩ ⟨Q,R⟩ ⟨S,T⟩
  have m:(cR e4 d2 [P.1]).2.S=⟨d2.S.n,d2.S.l++[P.1]⟩:=by
   rw[K,zS u B];show(d2.S.add P.1).2=_;rw[U]
  have V:aR P.1=(e,(d2.S.sK e.toNat:Int)+1):=by rw[h];unfold aR;dsimp only;rw[y,s,Qx]
  refine⟨λa=>Zz (by rw[b]) a,λ_ a=>?_,λ_ _=>⟨P.1,by rw[b];exact Zj au.l m,by rw[b],V,λW=>?_⟩⟩
  ·rw[b]at a
   have a:(cR e4 d2 [P.1]).2.S.l.length=d2.S.l.length:=a;rw[m]at a;simp at a
  ·rw[b]
   dsimp only;generalize b2:(cR e4 d2 [P.1]).2=t at*;have X:t.S.keyed x.key=some P.1:=by
    rw[m];unfold au.keyed at j⊢;rw[List.find?_append,j];simp only[Option.none_or];have:P.1.key=x.key:=by rw[h]
    simp[this,W]
   have Y:lX e4.decl t.S (cf e4.decl t.S.l) e e4.start x=(P.1,false,0):=by
    rw[lY,Zq (by unfold ez;rw[Zq M];simpa using g),X]
   unfold bI;rw[J];simp only;rw[Y];simp
def gY.ah(e:gY b e5 t k)(P:ai k a8):gY b e5 t a8:=by
 obtain⟨f,g,h,i,j,l,m,n,o,G,p,q,r,s,a⟩:=e;exact⟨f,g,h,i,j,l,m,n,o,G,p,q.ah P,r.ah P,s.ah P,λc d=>⟨(a c d).1,by have:=(a c d).2;have:=P.size;omega⟩⟩
def Ks{x:px}(o:∀P,ai b P->ZG y p P (Ok λc a=>gY P x c a/\ai P a))(q:∀P,ai b P->ZG g0 V P (Ok λc a=>gY P x c a/\ai P a)){f:XU}{r:XU}(e:∀a,ai b a->f a):
  PC XP y p b (λc P=>Ci (fp XP 46) λx=>c=x/\PC XP g0 V P (λg h=>Ci (fp XP 46) λi=>g=i/\PC XP 52 #[x,i] h (λs d=>∃j:Bool,s= .bool j/\an (!j) (r d) (f d)) a4) g4) h6:=by
 refine PC.ok (o b (ak.refl _)) ?_;rintro c P ⟨k,l⟩;have t:=k;obtain⟨u,v,w,z,A,B,C,E,F,G,rfl,-⟩:=k;refine bE (zW x u v w z A B C E F) ⟨rfl,PC.ok (q P l) ?_⟩;rintro g h ⟨m,n⟩;have H:=m;obtain⟨I,tn,J,K,L,M,N,O,Q,S,rfl,-⟩:=m;refine bE (zW x I tn J K L M N O Q) ⟨rfl,PC.ok (zV (t.ah n) H) ?_⟩;rintro _ d ⟨rfl,R⟩;exact⟨_,rfl,an.ff rfl (e d ((l.then n).then R))⟩
section
variable {w w' w0:World} {p q:Nat} {F G D:XN} {c e:cy} {self other:Int} {X Y:bD}
def GB(l:bu w p F c self X)(m:bu w q G e other Y)(n:c.decl=e.decl)(o:X.S.l=Y.S.l){tn A s B:Nat}(v:aW w D I d tn r s):
  ZG 19 #[XL p,XL q,.agg #[.slice d tn A,.slice r s B]] w (Ok λC w'=>C= .bool true/\ai w w'):=by
 have E:=v.aT.dq;have H:=v.yp.dq;unfold aI at E H;refine zh (PA.mk λb x N y=>?_);have step:∀{P:Nat},P<1000000000000000->IntKind.wrap .i64 ((P:Int)-1+1)=((P+1:Nat):Int)-1:=λ{P} z=>by
  rw[wrap_i64 bb];omega
 refine⟨λg k w'=>∃P:Nat,k=(P:Int)-1/\P<=tn+2/\g=tn+2-P/\ai b w',⟨_,0,rfl,Qj _,rfl,ak.refl _⟩,?_⟩;rintro g _ _ O ⟨P,rfl,z,rfl,t⟩;refine⟨_,_,_,ae (t.get y id) rfl,an.dec (λJ=>?_) (λQ=>?_)⟩
 ·refine⟨λg k w'=>∃h:Nat,k=h/\h<=4/\g=4-h/\ai b w',⟨_,0,rfl,Qj _,rfl,t⟩,?_⟩
  rintro g _ _ K ⟨h,rfl,R,rfl,i⟩;have f:=x.then i;refine an.dec (λS=>?_) (λ_=>⟨_,oM,P+1,step oM,oM,rfl,i⟩);refine Ks (x:=BN c.decl X.S.l ((P:Int)-1) h) (λb a=>yd ((l.ah f).ah a)) (λb a=>by rw[n,o];exact yd ((m.ah f).ah a)) λL j=>?_;refine Ks (x:=ye c.decl X.S.l ((P:Int)-1) h h) (λb a=>Ab (((l.ah f).ah j).ah a) bb) (λb a=>by rw[n,o];exact Ab (((m.ah f).ah j).ah a) bb) λM u=>?_;exact⟨_,oM,h+1,aq oM,oM,rfl,(i.then j).then u⟩
 ·refine⟨λg k w'=>∃P:Nat,k=(P:Int)-1/\P<=s+2/\g=s+2-P/\ai b w',⟨_,0,rfl,Qj _,rfl,t⟩,?_⟩
  rintro g _ _ K ⟨P,rfl,z,rfl,i⟩;have f:=x.then i;refine⟨_,_,_,ae (i.get y id) rfl,an.dec (λJ=>?_) (λ_=>Ok.mk ⟨rfl,f⟩)⟩;refine Ks (x:=vH c.decl X.S.l ((P:Int)-1) (-9223372036854775808)) (λb a=>qg ((l.ah f).ah a)) (λb a=>by rw[n,o];exact qg ((m.ah f).ah a)) λL j=>?_;refine Ks (x:=vH c.decl X.S.l ((P:Int)-1) 2) (λb a=>qg (((l.ah f).ah j).ah a)) (λb a=>by rw[n,o];exact qg (((m.ah f).ah j).ah a)) λM u=>?_;exact⟨_,oM,P+1,step oM,oM,rfl,(i.then j).then u⟩

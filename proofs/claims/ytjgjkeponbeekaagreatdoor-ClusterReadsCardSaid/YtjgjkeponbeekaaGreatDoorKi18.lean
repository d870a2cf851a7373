import Derived.Test.YtjgjkeponbeekaaGreatDoorKi17
set_option maxHeartbeats 4000000
set_option linter.all false
set_option maxRecDepth 20000
namespace Go.Proofs.YtjgjkeponbeekaaGreatDoor
open Go.au
section
variable {w w' w0 w1 w2:World} {p:Nat} {F E Dv:XN} {cls:Nat->Nat} {h:jk} {c:bQ} {self:Int} {X:bh} {m:bS} {va ea:ZH} {vn vc en ec:Nat}
def Nx(hr:bP w p F c self X)(he:Env w0 w F){V:eu}(a6:X.log=some V)(c4:Row jo 96 w E ea en m.events)(N:∀n,E n->n<w.heap.size/\¬F n)(a7:m.events.length<=1000)(hl:X.S.l.length<=18000000):
  ZG 119 #[XL p,gQ m va vn vc ea en ec] w (Ok λa5 w'=>∃O d,a5= .tuple #[O,XH (nz c self X m).2.1]/\eZ w d (nz c self X m).1 O w'/\bP w' p d c self (nz c self X m).2.2/\bL F w d w'):=by
 obtain⟨f,h,cls,Q⟩:=hr;have R:=Q.aB;refine mU (PA.mk λS q s8 T=>?_);obtain⟨P,U⟩:∃P,P=kN c X m.events:=⟨_,rfl⟩
 have y:∀{z},(if P.1=[]then([yJ X.S self m.bt],0,{X with waits:=P.2})else
   if(fD c {X with waits:=P.2} P.1).1≠0 then([],(fD c {X with waits:=P.2} P.1).1,{(fD c {X with waits:=P.2} P.1).2 with waits:=[]})else([yJ (fD c {X with waits:=P.2} P.1).2.S self m.bt],0,(fD c {X with waits:=P.2} P.1).2))=z->nz c self X m=z:=λ{z} b=>by rw[<-b,U];rfl
 refine⟨λw'=>∃d e,bP w' p d c self e/\bL F w d w'/\(∀n,d n->F n\/S.heap.size<=n)/\w'.heap[w.heap.size]? =some (.cells (dw m va vn vc ea en ec).toArray 127 (0,0))/\nz c self X m=([yJ e.S self m.bt],0,e),?_,?_⟩
 ·refine⟨_,_,_,ae T rfl,PC.ok (Ny (cx.ah Q q) f (c4.ah q) (λn a=>⟨by have:=(N n a).1;omega,(N n a).2⟩) a7 hl) ?_⟩
  rw[<-U];rintro _ W ⟨Y,on,oc,Lo,A,b0,Do,rfl,B,Z,c5,b2,g,r,c6,e1⟩;have hn:=B.len dC;have c7:Lo.length=P.1.length:=by rw[<-Z,Q8]
  have b3:=eh.unbox B c5 λn a=>⟨(r n a).1,(r n a).2.1⟩
  rw[RC,Z]at b3;have b4:Row jo 96 W (λn=>aF Y=some n\/Do n) Y on P.1:=b3.row dC ba;have C:bL F w A W:=⟨(ai.af q).then g.af,λn a=>(g.new n a).imp id λh1=>oM⟩
  have H:∀n,A n->F n\/S.heap.size<=n:=g.new;have b5:=g.af.get T λb=>by have:=R _ b;omega
  have c8:=(he.ah q).gC g;refine⟨_,_,_,rfl,an.dec (λe0=>?_) (λhz=>?_)⟩
  rotate_left
  ·have b6:P.1=[]:=QW oM
   exact⟨A,{X with waits:=P.2},⟨f,h,b0,b2⟩,C,H,b5,y (Zx b6)⟩
  have b7:P.1≠[]:=λs=>by rw[s,ZQ]at c7;omega
  refine PC.ok (HU b2 f c8 (V:=V) a6 b4 (λn a=>a.elim (λs=>⟨B.aB n s,λb=>(c6 n s).2 b.1⟩) λb=>⟨(r n b).1,(r n b).2.2⟩) (by show X.S.l.length+_<=_;omega)) ?_;rintro _ c9 ⟨rfl,j,F2,a1,t,I,-⟩;have a0:=C.trans I;have e2:=C.af.size;refine⟨_,rfl,an.dF (λb8=>?_) (λh0=>?_)⟩
  ·obtain⟨a2,Db,a,hM,hD⟩:=(show Na c9 (λn=>F2 n/\a1 n=5) j.wp c.buffer.toNat (fD c {X with waits:=P.2} P.1).2.waits from t.at' 5)
   refine⟨p,0,rfl,_,ae (t.at' 0).2 rfl,PC.ok (tL a) ?_⟩;rintro _ e3 ⟨rfl,a3,d0⟩;obtain⟨F3,k,J,l,-⟩:=t.gC bE (k:=5) (G':=a2) (C2:=lj p (j.cells c self) j c {(fD c {X with waits:=P.2} P.1).2 with waits:=[]} (fD c {X with waits:=P.2} P.1).2.S.l) ⟨d0.mono λn _ a=>hM n a,λn a=>.inl (hM n a)⟩ a3.Nz ⟨a2,_,a3,λ_ h=>h,λn a=>a.elim⟩ λa4 G hj hc=>by
    rcases a4 with _|_|_|_|_|_|_|a4<;>first|exact hc|exact Zz rfl hj
   refine⟨rfl,Ok.mk ?_⟩;rw[y ((Zq b7).trans (Zx b8))];exact⟨_,F3,rfl,eZ.nil _ _ _,⟨f,j,k,J⟩,a0.trans l⟩
  ·refine⟨F2,(fD c {X with waits:=P.2} P.1).2,⟨f,j,a1,t⟩,a0,λn a=>(I.new n a).elim (H n) λK=>.inr (by have:=g.af.size;omega),I.af.get b5 λb=>?_,y ((Zq b7).trans (Zq (by simpa using h0)))⟩
   rcases H _ b with K|K
   ·have:=R _ K;omega
   ·omega
 ·rintro _ d1 ⟨d,e,d2,L,e4,d3,d4⟩ b9 d5
  obtain⟨-,h',o,M⟩:=d2;have u:ai d1 b9:=d5.af;have i:=cx.ah M u;refine⟨p,0,rfl,_,ae i.bg rfl,p,0,rfl,_,ae i.bg rfl,_,ae (u.get d3 id) rfl,PC.ok (HM (i.at' 3).1) ?_⟩;rintro _ d6 ⟨a8,n2,c2,G,rfl,c1,hG,v⟩;have c3:=c1.aB;have e5:=L.af.size;have z2:=u.size;have d7:=v.size;refine⟨_,_,_,_,_,_,_,_,_,rfl,PA.mk λd8 x e6 d9=>?_⟩;have hm:a_ b9 [yJ e.S self m.bt] (.slice (XM d6.heap.size) 1 1) d8:=a_.one (D:=G) d9 ⟨(c1.ah x).row dC (by show e.S.vec.length*8<=aK;rw[e.S.bM];have:e.S.n<=64:=(i.at' 3).1.1.n;unfold aK;omega),cT _ _⟩ (λn a=>⟨hG n a,by have:=c3 n a;omega,by have:=c3 n a;omega⟩) d7 (v.then x);rw[d4];exact Ok.mk ⟨_,d,rfl,hm.out i.aB oM,⟨f,h',o,cx.ah i (v.then x)⟩,((L.af.ah u).ah v).ah x,L.new⟩
end
section
variable {w w' w0 w1 w2:World} {p:Nat} {F E Dv:XN} {cls:Nat->Nat} {h:jk} {c:bQ} {self:Int} {X:bh} {m:bS} {va ea:ZH} {vn vc en ec:Nat}
def iY.OF(n:iY c self):1<=c.chunk/\c.chunk<=32:=by
 have:=n.right;unfold eT within at this;simp only[QK,Zk]at this;omega
def GN(hr:bP w p F c self X)(he:Env w0 w F)(V:Row aJ 8 w Dv va vn m.vec)(f3:∀n,Dv n->n<w.heap.size/\¬F n)(c8:Row jo 96 w E ea en m.events)(hE:∀n,E n->n<w.heap.size/\¬F n)(hl:X.S.l.length<=18000000):
  ZG 76 #[XL p,gQ m va vn vc ea en ec] w (Ok λW w'=>∃q e,W= .tuple #[q,XH (cg c self X m).2.1]/\eZ w e (cg c self X m).1 q w'/\bP w' p e c self (cg c self X m).2.2/\bL F w e w'):=by
 have b0:=hr;obtain⟨x,h,cls,f⟩:=hr;have I:=f.aB;obtain⟨f5,h9,i0⟩:=x.aD;have i1:=x.OF;refine lb (PA.mk λw8 Y s8 g8=>?_);have h8:=cx.ah f Y;have no:∀{w1:World} {g:Int},ai w w1->cg c self X m=([],g,X)->Ok (λW w'=>∃q e,W= .tuple #[q,XH (cg c self X m).2.1]/\eZ w e (cg c self X m).1 q w'/\bP w' p e c self (cg c self X m).2.2/\bL F w e w') (.returned (.tuple #[.slice none 0 0,XH g])) w1:=λ{w1 g} J Z=>by
  rw[Z];exact Ok.mk ⟨_,F,rfl,eZ.nil _ _ _,b0.ah J,ai.af J,λn P=>.inl P⟩
 refine⟨p,0,rfl,_,ae h8.bg rfl,fh Tryz.underlying101 ⟨_,rfl,?_⟩⟩;have c9:DL w (λn=>F n/\cls n=2) h.dp h.lp X.D X.log:=f.at' 2
 cases y:X.log with
 |none=>
  obtain⟨Fd,-,-,i⟩:=c9;rw[y]at i;have i:h.lp=none:=i;rw[i];exact an.tt rfl (no Y (by unfold cg;rw[y]))
 |some a8=>
 obtain⟨a9,a0,a6,-⟩:=DL.Nw (y▸c9) (he.sub λn P=>P.1) λn P=>I n P.1;have K:∀{r},(if fr m c.aD.toNat c.chunk≠0 then([],fr m c.aD.toNat c.chunk,X)else if m.ns≠self then([],1,X)else if m.kind=3 then nz c self X m else
   if m.kind≠4 then(lr X.S self m c.chunk,0,{X with fK:=X.fK.yK m.bt m.vec X.S.vec})else
   if X.S.missing m.vec c.chunk=[]then([],0,{X with fK:=X.fK.yK m.bt m.vec X.S.vec})else([⟨3,self,m.bt,[],X.S.missing m.vec c.chunk⟩],0,{X with fK:=X.fK.yK m.bt m.vec X.S.vec}))=r->cg c self X m=r:=λ{r} k=>by rw[<-k];unfold cg;rw[y]
 rw[a0];refine an.ff rfl λf6 d0=>?_;have L:ai w f6:=Y.then d0.af;have d1:=cx.ah f L;have d2:=(d0.af (S:=λ_=>False)).get g8 id;refine ar (dV m va vn vc ea en ec) d2 ⟨p,0,rfl,_,ae d1.bg rfl,p,0,rfl,_,ae d1.bg rfl,?_⟩;rw[f5];refine PC.ok (Nq (V.ah L) (c8.ah L) oM) ?_;rintro _ i2 ⟨rfl,d3⟩;have a1:=L.then d3;have f8:=cx.ah f a1;have d4:=d3.get d2 id;refine⟨_,rfl,an.dF (λs=>no a1 (K (Zx s))) (λs=>⟨_,ae d4 rfl,p,0,rfl,_,ae f8.bg rfl,λg0 d5=>?_⟩)⟩;have j:ai w g0:=a1.then d5.af;have i3:=cx.ah f j;have b8:=(d5.af (S:=λ_=>False)).get d4 id;have b9:¬fr m c.aD.toNat c.chunk≠0:=by simpa using s
 refine an.dF (λM=>no j (K ((Zq b9).trans (Zx M)))) (λM=>⟨_,ae b8 rfl,an.dE (λi=>?_) (λi=>λd6 d7=>?_)⟩)
 ·have Z:=K (((Zq b9).trans (Zq (by simpa using M))).trans (Zx i))
  have d8:m.events.length<=1000:=by
   have b:=s;unfold fr at b;simp only at b;rw[Zx i]at b;split at b
   ·cases b
   ·unfold eR at b
    split at b
    ·cases b
    split at b
    ·cases b
    ·omega
  refine ar (dV m va vn vc ea en ec) b8 (PC.ok (Nx (b0.ah j) (he.ah j) y (c8.ah j) (λn P=>⟨by have:=(hE n P).1;have:=j.size;omega,(hE n P).2⟩) d8 hl) ?_);rintro _ i4 ⟨q,e,rfl,b1,g1,b2⟩;have g2:=b1;obtain⟨a2,n2,c2,a7,D,rfl,o2,o3,o4,o5,o6⟩:=b1;refine⟨_,_,_,_,rfl,Ok.mk ?_⟩;have c0:=j.size;rw[Z];exact⟨_,e,rfl,⟨a2,n2,c2,a7,D,rfl,o2,o3,o4,λn P=>⟨by have:=(o5 n P).1;omega,(o5 n P).2⟩,λn P=>⟨by have:=(o6 n P).1;omega,(o6 n P).2⟩⟩,g1,(ai.af j).then b2.af,λn P=>(b2.new n P).imp id λb=>oM⟩
 ·have c1:ai w d6:=j.then d7.af
  have N:=cx.ah f c1;have c4:=(d7.af (S:=λ_=>False)).get b8 id;have d9:dA d6 h.tp (λn=>F n/\cls n=6) X.fK:=N.at' 6;have e_:=(N.at' 3).1;have nS:¬(F p/\cls p=6):=λg=>by have:=g.2;rw[f.HT.2]at this;cases this
  have e0:¬(F w.heap.size/\cls w.heap.size=6):=λg=>by have:=I _ g.1;omega
  refine⟨λn=>F n/\cls n=6,p,0,rfl,nS,_,ae N.bg rfl,e0,_,ae c4 rfl,e0,_,_,_,ae c4 rfl,p,0,rfl,_,ae N.bg rfl,PC.ok (nx e_) ?_⟩;rintro _ g3 ⟨a2,n2,c2,G,rfl,e1,z,hG⟩;have hN:X.S.n<=64:=e_.1.n;have g4:Row aJ 8 g3 G a2 n2 X.S.vec:=e1.row dC (by rw[X.S.bM];unfold aK;omega);have i5:=c1.size;have i6:=z.size;have A:=c1.then z;refine⟨_,_,_,rfl,ai.af z,PC.ok (HV (d9.ah z) ((V.ah A).sP) g4.sP λ_=>cR.2 λn P k=>?_) ?_⟩
  ·have:=hG n (e1.self n P);have:=I n k.1;omega
  rintro _ c5 ⟨G6,rfl,a3,b3⟩;obtain⟨O,d,B,a,-⟩:=(cx.ah f A).gC bE (k:=6) (G':=G6) (C2:=lj p (h.cells c self) h c {X with fK:=X.fK.yK m.bt m.vec X.S.vec} X.S.l) b3 a3.aB a3 λa4 G hj s=>by
   rcases a4 with _|_|_|_|_|_|_|a4<;>first|exact s|exact Zz rfl hj
  have l:bL F w O c5:=⟨(ai.af A).then a.af,λn P=>(a.new n P).imp id λb=>by have:=A.size;omega⟩
  have Q:=a.af.get (z.get c4 id) λk=>by have:=I _ k;omega
  have b4:=(V.ah A).af a.af λn P=>(f3 n P).2;have i7:=l.af.size;have c6:=λ{r} k=>K (r:=r) (((Zq b9).trans (Zq (by simpa using M))).trans ((Zq i).trans k));refine⟨_,rfl,b3.af,_,ae Q rfl,an.dF (λR=>λe2 g5=>?_) (λR=>λe3 g6=>?_)⟩
  ·have C:ai c5 e2:=g5.af
   have t:=cx.ah B C;have i8:=C.size;refine⟨p,0,rfl,_,ae t.bg rfl,p,0,rfl,_,ae t.bg rfl,ar (dV m va vn vc ea en ec) (C.get Q id) ⟨p,0,rfl,_,ae t.bg rfl,PC.ok (HW (t.at' 3).1 (show X.S.l.length<=20000000 by omega) (b4.ah C)) ?_⟩⟩;rintro _ g7 c7;obtain⟨a5,S,c3,rfl⟩:=c7.sl;have b5:ai e2 g7:=by obtain⟨_,_,_,_,_,_,_,_,_,_,_,J⟩:=c7;exact J
   refine⟨_,_,_,rfl,Ok.mk ?_⟩;rw[c6 (Zx R)];exact⟨_,O,rfl,c7.out t.aB oM,⟨x,h,d,cx.ah t b5⟩,(l.af.ah C).ah b5,l.new⟩
  ·have o:ai c5 e3:=g6.af
   have H:=cx.ah B o;have i9:=o.size;refine⟨p,0,rfl,_,ae H.bg rfl,_,_,_,ae (o.get Q id) rfl,p,0,rfl,_,ae H.bg rfl,PC.ok (xF (H.at' 3).1 (by show X.S.l.length<=_;omega) (b4.ah o)) ?_⟩;rintro _ e4 ⟨a5,S,c3,G3,rfl,T,u,g9⟩;have e5:=T.len dC;have b6:=T.aB;have e6:=cx.ah H u;have j0:=u.size;have d8:(X.S.missing m.vec c.chunk).length<=32:=by
    unfold aw.missing;rw[Qy];omega
   change aO jo 63 G3 e4 a5 S c3 (X.S.missing m.vec c.chunk)at T
   refine⟨_,_,_,rfl,an.dec (λh7=>λe7 h0=>?_) (λhz=>Ok.mk ?_)⟩
   ·have e8:X.S.missing m.vec c.chunk≠[]:=λg=>by
     have b7:S=(X.S.missing m.vec c.chunk).length:=e5;rw[g,ZQ]at b7;omega
    have v:ai e4 e7:=h0.af;have e9:=cx.ah e6 v;have j1:=v.size;refine⟨p,0,rfl,_,ae e9.bg rfl,_,ae (v.get (u.get (o.get Q id) id) id) rfl,PA.mk λh2 U j2 h6=>Ok.mk ?_⟩;have hm:a_ e3 [⟨3,self,m.bt,[],X.S.missing m.vec c.chunk⟩] (.slice (XM e7.heap.size) 1 1) h2:=a_.one (m:=⟨3,self,m.bt,[],X.S.missing m.vec c.chunk⟩) (va:=none) (vn:=0) (vc:=0) (D:=G3) h6 ⟨cT _ _,((T.ah v).ah U).row dC ba⟩ (λn P=>⟨g9 n P,by have:=b6 n P;omega,by have:=b6 n P;omega⟩) oM ((u.then v).then U);rw[c6 ((Zq (by simpa using R)).trans (Zq e8))];exact⟨_,O,rfl,hm.out H.aB oM,⟨x,h,d,cx.ah e9 U⟩,(((l.af.ah o).ah u).ah v).ah U,l.new⟩
   ·have f2:X.S.missing m.vec c.chunk=[]:=QW (by
     have b7:S=(X.S.missing m.vec c.chunk).length:=e5;omega)
    rw[c6 ((Zq (by simpa using R)).trans (Zx f2))];exact⟨_,O,rfl,eZ.nil _ _ _,⟨x,h,d,e6⟩,(l.af.ah o).ah u,l.new⟩
end
variable{e:Int}
section
variable {w w' w0 w1 w2:World} {p:Nat} {F E Dv:XN} {cls:Nat->Nat} {h:jk} {c:bQ} {self:Int} {X:bh}
def Mt(O:bP w p F c self X)(t:Env w0 w F)(Q:aH e):
  ZG 52 #[XL p,XH e] w (Ok λR w'=>∃r,R= XH (vI c X e).1/\bP w' p r c self (vI c X e).2/\bL F w r w'/\(vI c X e).2.S.l.length<=16777216):=by
 obtain⟨B,h,cls,s⟩:=O;have b8:=s.aB;have b9:=s.HT;have u:aT w F cls (recC p (wS h c self h.lp (XM h.sp) (XM h.bp)) {h with lp:=none} c {X with log:=none} false):=
  ⟨λk=>by
   have d:=s.at' k;rcases k with _|_|_|_|_|_|_|k<;>first|exact d|trivial|(intro S;cases S)|(obtain⟨Fd,g,v,T⟩:=d;exact⟨Fd,g,v,rfl⟩),s.aB⟩
 obtain⟨Fd,U,m,-⟩:=(show DL w (λn=>F n/\cls n=2) h.dp none X.D none from u.at' 2)
 refine mS ⟨p,0,rfl,_,ae (u.at' 0).2 rfl,PC.ok (J_ U Q) ?_⟩;rintro _ V ⟨C,rfl,E,H⟩;obtain⟨W,Y,x,o,-⟩:=u.gC gy (k:=2) (G':=C) (C2:=recC p (wS h c self h.lp (XM h.sp) (XM h.bp)) {h with lp:=none} c {X with log:=none,D:=X.D.AI e} false) ⟨H.af.mono λn _ P=>m n P,λn P=>(H.new n P).imp (m n) id⟩ (λn P=>E.aB n P) ⟨C,E,λn P=>P,rfl⟩ λa G i d=>by
  rcases a with _|_|_|_|_|_|_|a<;>first|exact d|exact Zz rfl i
 obtain⟨I,Db,P,J,hD⟩:=(show Na V (λn=>W n/\Y n=5) h.wp c.buffer.toNat X.waits from x.at' 5)
 refine⟨rfl,p,0,rfl,_,ae (x.at' 0).2 rfl,PC.ok (tL P) ?_⟩;rintro _ c1 ⟨rfl,K,Z⟩;obtain⟨j,f,b,l,-⟩:=x.gC gy (k:=5) (G':=I) (C2:=recC p (wS h c self h.lp (XM h.sp) (XM h.bp)) {h with lp:=none} c {X with log:=none,D:=X.D.AI e,waits:=[]} false) ⟨Z.mono λn _ P=>J n P,λn P=>.inl (J n P)⟩ K.Nz ⟨I,_,K,λ_ h=>h,λn P=>P.elim⟩ λa G i d=>by
  rcases a with _|_|_|_|_|_|_|a<;>first|exact d|exact Zz rfl i
 refine⟨rfl,p,0,rfl,_,ae (b.at' 0).2 rfl,PC.ok (HX (b.at' 6)) ?_⟩;rintro _ y ⟨rfl,a3,L⟩;have z:aT y j f (recC p (wS h c self h.lp (XM h.sp) (XM h.bp)) {h with lp:=none} c {X with log:=none,D:=X.D.AI e,waits:=[],fK:=⟨X.fK.cP,[],[]⟩} false):=b.same gy (k:=6) L a3 λa G i d=>by
  rcases a with _|_|_|_|_|_|_|a<;>first|exact d|exact Zz rfl i
 have M:bL F w j y:=by
  have g:=o.trans l;exact⟨g.af.new (L.mono λn _ P=>P.1) λn P=>g.new n P,g.new⟩
 have a5:=t.gC M;have b3:=DL.uL (show DL y (λn=>j n/\f n=2) h.dp none (X.D.AI e) none from z.at' 2) (a5.sub λn P=>P.1);refine⟨rfl,p,0,rfl,_,ae (z.at' 0).2 rfl,PC.ok (MB t.laid b3) ?_⟩;rintro _ c2 ⟨rfl,a0,b4⟩;obtain⟨G2,b5,a6,b6,-⟩:=DL.LR (Y:=λ_=>False) (a0.mono λn P=>P.elim id False.elim) b4;obtain⟨c3,b7,a7,a1,-⟩:=z.gC gy (k:=2) (G':=G2) (C2:=recC p (wS h c self h.lp (XM h.sp) (XM h.bp)) {h with lp:=none} c {X with log:=none,D:=zZ (X.D.AI e),waits:=[],fK:=⟨X.fK.cP,[],[]⟩} false) a6 b6 (by
   obtain⟨Fd,g,v,T⟩:=b5;exact⟨Fd,g,v,rfl⟩) λa G i d=>by
  rcases a with _|_|_|_|_|_|_|a<;>first|exact d|exact Zz rfl i
 have N:=M.trans a1;refine⟨rfl,PC.ok (xG (h:={h with lp:=none}) (z1:=h.lp) (z2:=XM h.sp) (z3:=XM h.bp) a7 B (t.gC N)) ?_⟩;rintro _ c4 ⟨rfl,a8,h',r,q,A,a9⟩;exact⟨_,rfl,Ok.mk ⟨r,rfl,⟨B,h',q,A⟩,N.trans a9,a8⟩⟩
def OJ(r:bP w p F c self X)(s:aH e):
  ZG 57 #[XL p,XH e] w (Ok λt w'=>∃k,t= .tuple #[]/\bP w' p k c self {X with D:=X.D.OL e}/\bL F w k w'):=by
 obtain⟨u,h,cls,f⟩:=r;obtain⟨Fd,v,g,a⟩:=(show DL w (λn=>F n/\cls n=2) h.dp h.lp X.D X.log from f.at' 2)
 refine nN ⟨p,0,rfl,_,ae f.bg rfl,PC.ok (MP s v) ?_⟩;rintro _ l ⟨rfl,x,i⟩;have y:cx l F cls p h c self {X with D:=X.D.OL e}:=aT.same f bE (k:=2) (i.af.mono λn _ P=>g n P) (by
  refine⟨Fd,x,g,?_⟩;show match X.log with
   |none=>h.lp=none
   |some j=>j.bI≠[]/\∃b d,h.lp=some ⟨b,0,none⟩/\iA l h.dp b d j/\∀n,d n->(F n/\cls n=2)/\¬Fd n
  cases m:X.log with
  |none=>rw[m]at a;exact a
  |some j=>
   rw[m]at a;obtain⟨z,b,d,A,B,o⟩:=a;exact⟨z,b,d,A,B.af i.af λn P=>(o n P).2,o⟩) λq G C E=>by
  rcases q with _|_|_|_|_|_|_|q<;>first|exact E|exact Zz rfl C
 exact⟨rfl,Ok.mk ⟨F,rfl,⟨u,h,cls,y⟩,i.af.mono λn _ P=>(g n P).1,λn P=>.inl P⟩⟩
def Cz{V:eu}{D:al}{l:List aj}{size:Int}(P:(ck V D l size).no=0):(ck V D l size).V.bI≠[]:=by
 revert P
 unfold ck;split
 ·rename_i n;intro h;exact Zz h n
 split
 ·rename_i n;intro h;exact Zz h n
 ·exact Bp
def GS(R:bP w p F c self X)(A:Env w0 w F)(hl:X.S.l.length<=18000000):
  ZG 53 #[XL p] w (Ok λa2 w'=>∃S,a2= XH (fL c X).1/\bP w' p S c self (fL c X).2/\bL F w S w'):=by
 have a6:=R;obtain⟨T,h,cls,m⟩:=R;have a8:=m.aB;refine lf ⟨p,0,rfl,_,ae m.bg rfl,fh Tryz.underlying101 ⟨_,rfl,?_⟩⟩;have U:DL w (λn=>F n/\cls n=2) h.dp h.lp X.D X.log:=m.at' 2
 cases k:X.log with
 |none=>
  obtain⟨Fd,-,-,g⟩:=U;rw[k]at g;have g:h.lp=none:=g;rw[g];have o:fL c X=(15,X):=by unfold fL;rw[k]
  rw[o];exact an.tt rfl (Ok.mk ⟨F,rfl,a6,bL.refl _ _⟩)
 |some a=>
 obtain⟨y,d,B,-⟩:=DL.Nw (k▸U) (A.sub λn P=>P.1) λn P=>a8 n P.1;have C:∀{i},(if(ck a X.D X.S.l c.bN).no≠0 then((ck a X.D X.S.l c.bN).no,{X with D:=(ck a X.D X.S.l c.bN).D})else(0,{X with D:=(ck a X.D X.S.l c.bN).D,log:=some (ck a X.D X.S.l c.bN).V}))=i->fL c X=i:=λ{i} E=>by rw[<-E];unfold fL;rw[k]
 rw[d];refine an.ff rfl λw9 d9=>?_;have V:ai w w9:=d9.af;have l:=cx.ah m V;have W:=m.HT;have H:¬(F p/\cls p=2):=λq=>by have:=q.2;rw[W.2]at this;cases this
 refine⟨λn=>F n/\cls n=2,p,0,rfl,H,_,ae l.bg rfl,p,0,rfl,H,_,ae l.bg rfl,p,0,rfl,_,ae l.bg rfl,p,0,rfl,H,_,ae l.bg rfl,PC.ok (qP (l.at' 3).1 oM) ?_⟩;rintro _ r ⟨b6,b7,cc,G,rfl,Y,I,hG⟩;have z:=cx.ah l I;have s:=V.then I;have a9:=Y.aB;obtain⟨Z,f,-,J⟩:=DL.Nw (show DL r (λn=>F n/\cls n=2) h.dp h.lp X.D (some a)from k▸z.at' 2) ((A.ah s).sub λn P=>P.1) λn P=>z.aB n P.1;have E:Z=y:=by rw[d]at f;cases f;rfl
 subst E;refine⟨_,_,_,rfl,ai.af I,?_⟩;rw[d];refine PC.ok (Hl A.laid J (Y.row dC ba) a9 oM) ?_;have a0:=Cz (V:=a) (D:=X.D) (l:=X.S.l) (size:=c.bN);generalize ck a X.D X.S.l c.bN=i at C a0;rintro _ a3 ⟨K,a4,b0,a5,⟨t,rfl,b1⟩|⟨t,q3,rfl,b2⟩⟩
 ·obtain⟨Fd,h1,h2,g,h4⟩:=b1
  have L:∀n,¬(n<r.heap.size/\¬(F n/\cls n=2))->(F n/\cls n=2)\/r.heap.size<=n:=λn P=>by
   rcases Nat.lt_or_ge n r.heap.size with M|M
   ·exact .inl (Classical.byContradiction λh8=>P ⟨M,h8⟩)
   ·exact .inr M
  have a1:ak (λn=>F n/\cls n=2) r a3:=a5.mono λn b8 P=>(L n P).resolve_right oM;obtain⟨N,j,e,u,-⟩:=z.eg bE (k:=2) (G':=λn=>Fd n\/K n) (C2:=lj p (h.cells c self) h c {X with D:=i.D} X.S.l) a1 (λn P=>P.elim (λv=>L n λh6=>(g n v).2 (.inl h6)) λv=>L n (b0 n v).2) (λn P=>P.elim (h1.aB n) (a4.aB n)) (by
    refine⟨Fd,h1,λn P=>.inl P,?_⟩;show match X.log with
     |none=>h.lp=none
     |some a=>a.bI≠[]/\∃y Fl,h.lp=some ⟨y,0,none⟩/\iA a3 h.dp y Fl a/\∀n,Fl n->(Fd n\/K n)/\¬Fd n
    rw[k];exact⟨B,Z,K,d,a4,λn P=>⟨.inr P,λhd=>(g n hd).2 (.inr P)⟩⟩) λx G O o=>by
   rcases x with _|_|_|_|_|_|_|x<;>first|exact o|exact Zz rfl O
  refine⟨_,_,rfl,a1,an.dE (λQ=>Zz Q t) (λ_=>Ok.mk ?_)⟩;rw[C (Zx t)];exact⟨N,rfl,⟨T,h,j,e⟩,(ai.af s).then u.af,λn P=>(u.new n P).imp id λv=>by have:=s.size;omega⟩
 ·obtain⟨G2,b3,u,b4,hY⟩:=DL.FJ b2 a5 (a0 t)
  obtain⟨N,j,e,b,-⟩:=z.gC bE (k:=2) (G':=G2) (C2:=lj p (h.cells c self) {h with lp:=XM q3} c {X with D:=i.D,log:=some i.V} X.S.l) u b4 b3 λx G O o=>by
   rcases x with _|_|_|_|_|_|_|x<;>first|exact o|exact Zz rfl O
  refine⟨_,_,rfl,u.af,an.dE (λ_=>⟨p,0,rfl,PS.mk (e.at' 0).2 sM λb9 a7 c0 b5=>Ok.mk ?_⟩) (λQ=>Zz rfl Q)⟩;rw[C (Zq (by simpa using t))];exact⟨N,rfl,⟨T,{h with lp:=XM q3},j,cx.store e a7 b5⟩,((ai.af s).then b.af).then (a7.mono λn _ q=>by have q:n=p:=q;rw[q];exact W.1),λn P=>(b.new n P).imp id λv=>by have:=s.size;omega⟩
end
variable{N r:Int}{c5:List bd}{d u:ZH}{R:aM}
section
variable {w w' w0 w1 w2:World} {p:Nat} {F E D:XN} {c:bQ} {self:Int}
def dW(c:bQ)(n:ZH)(tn P:Nat)(a:ZH)(b d:Nat):List Value:=[XH c.aD,XH c.uL,XH c.bN,XH c.chunk,XH c.buffer,XH c.cP,XH c.every,XH c.start,.slice n tn P,.slice a b d]
abbrev vJ(c:bQ)(n:ZH)(tn P:Nat)(a:ZH)(b d:Nat):Value:=.agg (dW c n tn P a b d).toArray
def GV(c:bQ)(n:ZH)(tn P:Nat)(a:ZH)(b d:Nat):gM XP 27 (dW c n tn P a b d)=true:=kR
def ox:ZG 69 #[XH e,XH r,XH N] w (Ok λn w'=>n= .bool (within e r N)/\w=w'):=by
 refine tW (an.dec (λP=>Ok.mk ⟨?_,rfl⟩) (λP=>Ok.mk ⟨?_,rfl⟩))
 ·simp[within];omega
 ·simp[within];omega
def NA{tn z A B:Nat}:ZG 41 #[vJ c d tn z u A B,XH self] w (Ok λj w'=>j= .bool (eT c self)/\ai w w'):=by
 refine xZ (PA.mk λw1 s I P=>?_);have J:∀{k l m:Int} {o:Bool->Prop} {t:List PanicEntry->XU},o (within k l m)->∃p v x,(Value.func (.func 69) #[] #[])= .func (.func p) v x/\enters XP p=true/\PC XP p (v++ #[XH k,XH l,XH m]++x) w1 (λC E=>∃(y:Bool),C= .bool y/\E=w1/\o y) t:=λ{k l m o t} q=>by
  refine⟨_,_,_,rfl,kR,PC.ok ox ?_⟩;rintro _ _ ⟨rfl,rfl⟩;exact⟨_,rfl,rfl,q⟩
 have no:eT c self=false->Ok (λj w'=>j= .bool (eT c self)/\ai w w') (.returned (.bool false)) w1:=λF=>Ok.mk ⟨by rw[F],s⟩;have a:eT c self=(within c.aD 1 64&&(within self 0 (c.aD-1)&&(within c.uL 64 262144&&(decide (c.bN>=1)&&(decide (c.every>=1)&&(within c.chunk 1 32&&(within c.buffer 1 256&&(within c.cP 1 1048576&&decide (c.start>=0))))))))):=by
  unfold eT;simp only[Bool.and_assoc]
 refine⟨_,ae P rfl,_,_,_,rfl,kR,PC.ok ox ?_⟩;rintro _ _ ⟨rfl,rfl⟩;refine⟨_,rfl,an.mk (λn=>⟨_,ae P rfl,_,_,_,rfl,kR,PC.ok ox ?_⟩) (λn=>no (by rw[a,n];rfl))⟩;have H:IntKind.wrap .i64 (c.aD-1)=c.aD-1:=wrap_i64 (by have:=bq.1 n;unfold aH;omega);rw[H];rintro _ _ ⟨rfl,rfl⟩;refine⟨_,rfl,an.mk (λb=>⟨_,ae P rfl,_,_,_,rfl,kR,PC.ok ox ?_⟩) (λb=>no (by rw[a,n,b];rfl))⟩;rintro _ _ ⟨rfl,rfl⟩;refine⟨_,rfl,an.mk (λe=>⟨_,ae P rfl,an.mk (λf=>⟨_,ae P rfl,an.mk (λg=>⟨_,ae P rfl,_,_,_,rfl,kR,PC.ok ox ?_⟩) (λg=>no (by rw[a,n,b,e,f,g];rfl))⟩) (λf=>no (by rw[a,n,b,e,f];rfl))⟩) (λe=>no (by rw[a,n,b,e];rfl))⟩;rintro _ _ ⟨rfl,rfl⟩;refine⟨_,rfl,an.mk (λh=>⟨_,ae P rfl,_,_,_,rfl,kR,PC.ok ox ?_⟩) (λh=>no (by rw[a,n,b,e,f,g,h];rfl))⟩;rintro _ _ ⟨rfl,rfl⟩;refine⟨_,rfl,an.mk (λi=>⟨_,ae P rfl,_,_,_,rfl,kR,PC.ok ox ?_⟩) (λi=>no (by rw[a,n,b,e,f,g,h,i];rfl))⟩;rintro _ _ ⟨rfl,rfl⟩;refine⟨_,rfl,an.mk (λr=>⟨_,ae P rfl,Ok.mk ⟨by rw[a,n,b,e,f,g,h,i,r];rfl,s⟩⟩) (λr=>no (by rw[a,n,b,e,f,g,h,i,r];rfl))⟩
def Qb{n P:Nat}(a:R.types[n]? =some c5)(c:P<c5.length):R.Cy (n:Int) (P:Int)=c5[P]? :=by
 have d:=(Qv.1 a).1;have b:R.at (n:Int)=c5:=by
  unfold aM.at;rw[Zx (bq.2 ⟨oM,oM⟩),Qx,QQ,a];rfl
 unfold aM.Cy;rw[b,Zx (by simp only[QK,bq];exact⟨⟨oM,oM⟩,oM,oM⟩),Qx]
end
section
variable {w w' w0 w1 w2:World} {p:Nat} {F E D:XN} {c:bQ} {self:Int}
def KB{tn tc L pc:Nat}(g:bb w D R d tn u L)(hD:∀n,D n->n<w.heap.size):
  ZG 43 #[.agg #[.slice d tn tc,.slice u L pc]] w (Ok λc4 w'=>∃t Pk a2 c v j G,c4= .agg #[.slice t Pk a2,.slice c v j]/\bb w' G R t Pk c v/\(∀n,G n->w.heap.size<=n/\n<w'.heap.size)/\ai w w'):=by
 have f5:=g.aS.len;have b8:=g.aS.dP;have f6:=g.Ed.len;have f8:=g.Ed.dP;refine vP (PA.mk λM k4 s4 g4=>PA.mk λw5 k5 s5 g5=>⟨_,_,_,ae (k5.get g4 id) rfl,?_⟩);have x:=k4.then k5;refine yU (aO.nil (c:=AM) (e:=138) w5) Pj (g.Ed.ah x) (λn P=>⟨by have:=hD n P;omega,λa=>by cases a⟩) (by rw[ZQ];unfold aK at*;omega) (by rw[ZQ];unfold aK at*;unfold maxLen;omega) λc j e Fp d1 k8 j6 d2=>⟨_,_,_,rfl,PA.mk λj7 g0 j8 g1=>PS.mk g1 sM λj9 g2 k0 g3=>PS.mk g3 sM λr g6 k1 g7=>?_⟩
 rw[List.nil_append,Xz]at d1;have a9:=d1.alone;have b9:∀n,aF c=some n->w5.heap.size<=n/\n<e.heap.size:=λn P=>⟨(d2 n P).elim False.elim id,a9.aB n P⟩
 have z8:=k8.size;have y:ai w5 e:=k8.mono λn _ a=>by cases a
 have z:ai e r:=(g0.new g2 λn P=>.inr (by have P:n=e.heap.size:=P;omega)).new g6 λn P=>.inr (by have P:n=e.heap.size:=P;omega);have b0:ai w r:=(x.then y).then z;have gp:=z.get (y.get (k5.get g4 id) id) id;have gr:=z.get (y.get g5 id) id;have b1:r.heap[e.heap.size]? =some (.cells #[.slice none 0 0,.slice c (0+L) j] 25 (0,0)):=g7;rw[Xz]at b1;have k2:=z.size;refine⟨_,_,_,ae gp rfl,λA a3 w'=>∃h:Nat,a3=h/\h<=tn/\A=tn-h/\ak (·=e.heap.size) r w'/\∃N O oc Q,w'.heap[e.heap.size]? =some (.cells #[.slice N O oc,.slice c L j] 25 (0,0))/\aO mB 118 Q w' N O oc (R.types.take h)/\∀n,Q n->r.heap.size<=n,
  ⟨_,0,rfl,Qj _,rfl,ak.refl _,none,0,0,λ_=>False,b1,aO.nil _,λ_ g=>g.elim⟩,?_⟩
 rintro A _ _ S ⟨h,rfl,hj,rfl,s,N,O,oc,Q,T,l,B⟩;have U:ai w S:=b0.new s λn P=>.inr (by have P:n=e.heap.size:=P;have:=x.size;have:=y.size;omega);have zk:=s.size;have b2:=s.get gp λa=>by have a:w.heap.size=e.heap.size:=a;have:=k4.size;omega
 refine an.dec (λk3=>?_) (λk6=>?_)
 ·have g8:h<R.types.length:=oM
  have V:R.types[h]? =some R.types[h]:=Qq g8;generalize R.types[h]=m at V;obtain⟨n,d5,es,ha,P,k7,d6,fa,fn,fc,rfl,W⟩:=(g.aS.ah U).el h m V;have c0:=d6 0 dC;have g9:mB.k=1:=rfl;rw[g9,Nat.mul_one]at c0;have h0:=W.len;have c2:=W.dP;refine⟨n,d5,ha,oM,oM,fa,fn,fc,by rw[Qx];exact c0,PA.mk λk9 h3 l0 h4=>PS.mk h4 sM λi h6 l3 h7=>PA.mk λl4 d3 l5 h8=>PS.mk h8 sM λC d4 l6 h9=>?_⟩;have p:ai S C:=((h3.new h6 λn P=>.inr (by have P:n=S.heap.size:=P;omega)).then d3).new d4 λn P=>.inr (by have P:n=i.heap.size:=P;omega);have d7:=d4.get (d3.get h7 id) oM;have e3:=p.get b2 id;have l7:=p.size;have e4:=U.then p;refine⟨_,_,_,ae d7 rfl,λA a3 w'=>∃f:Nat,a3=f/\f<=fn/\A=fn-f/\ak (·=i.heap.size) C w'/\∃E F X Y,w'.heap[i.heap.size]? =some (.cells #[.slice E F X] 118 (0,0))/\aO rl 121 Y w' E F X (m.take f)/\∀n,Y n->C.heap.size<=n,
   ⟨_,0,rfl,Qj _,rfl,ak.refl _,none,0,0,λ_=>False,h9,aO.nil _,λ_ g=>g.elim⟩,?_⟩
  rintro A _ _ d8 ⟨f,rfl,hk,rfl,q,E,F,X,Y,gx,o,H⟩;have zx:=q.size;have b3:ai w d8:=e4.new q λn P=>.inr (by have P:n=i.heap.size:=P;have:=U.size;omega);have b4:=q.get e3 λa=>by have a:w.heap.size=i.heap.size:=a;have:=ax b2;omega
  refine an.dec (λj4=>?_) (λj5=>?_)
  ·have d9:f<m.length:=oM
   have I:m[f]? =some m[f]:=Qq d9;have a4:=Qb V d9;rw[I]at a4;obtain⟨fb,fo,e6,-,-,-,-,ya,yn,yc,rfl,-,b5⟩:=(W.ah p).el f m[f] I;generalize m[f]=J at I a4 b5;refine⟨_,_,_,_,_,_,ae b4 rfl,ae b4 rfl,PC.ok (oy (g.ah b3) λn P=>by have:=hD n P;have:=b3.size;omega) ?_⟩;rw[a4];rintro _ e0 ⟨e1,Z,a0,cc,Fm,rfl,c3,e2⟩;have e8:=c3.aB;have l8:=e1.size;refine bO (HY J Z a0 cc) ⟨_,rfl,PA.mk λl9 i0 m0 i1=>az (fO J Z a0 cc) i1 rfl λi2 i3 m1 a7=>?_⟩;have a5:ai e0 i2:=i0.new i3 λn P=>.inr (by have P:n=e0.heap.size:=P;omega);have b6:=e1.then a5;have e9:=b6.get gx id;refine⟨_,_,_,ae e9 rfl,_,_,_,_,_,_,ae a7 rfl,ae a7 rfl,ae a7 rfl,ae a7 rfl,PA.mk λi4 e5 m2 i5=>?_⟩;have a1:=b6.then e5;have f0:=(c3.ah a5).ah e5;have m3:=c3.len dC;have a8:Row ix 32 i4 Fm Z a0 J.bl:=f0.row dC (by
    obtain⟨_,_,_,_,_,_,_,_,_,_,hq,a8,_⟩:=(W.ah p).el f J I;have h1:=a8.dP;have h2:=a8.len;rw[<-h2];exact h1)
   refine eY (c:=rl) (x:=J) (o.ah a1) SE i5 (D:=Fm) ⟨Z,a0,cc,rfl,a8,b5⟩ (λn P=>⟨by have:=e8 n P;have:=a5.size;omega,λa=>by have:=o.aB n (o.self n a);have:=e2 n P;omega⟩) (by rw[Qy];unfold aK at*;omega) (by rw[Qy];unfold aK at c2;unfold maxLen;omega) λa' c' m4 K f1 c5 c6=>⟨_,_,_,rfl,?_⟩
   have i6:¬aF E=some i.heap.size:=λa=>by have:=H _ (o.self _ a);omega
   have m5:=a1.size;have m6:=c5.size;have b:∀n,K n->C.heap.size<=n:=λn P=>by
    rcases c6 n P with k|k|k
    ·exact H n k
    ·have:=e2 n k;omega
    ·omega
   refine PS.mk (c5.get (a1.get gx id) i6) sM λm7 e7 m8 i7=>⟨_,oM,f+1,aq (by unfold aK at c2;omega),oM,rfl,((q.ah a1).new c5 λn P=>.inr (H n (o.self n P))).then e7,a',F+1,c',K,i7,?_,b⟩
   rw[Qw,I];exact f1.af e7 λn P a=>by have a:n=i.heap.size:=a;have:=b n P;omega
  ·rw[Qz oM]at o
   have i8:ak (·=i.heap.size) C d8:=q;have b7:=q.get (p.get T id) λa=>by have a:e.heap.size=i.heap.size:=a;have:=ax T;omega
   refine⟨_,_,_,ae b7 rfl,_,_,_,ae gx rfl,PA.mk λi9 c7 m9 j0=>?_⟩;have a6:ai S i9:=(p.new q λn P=>.inr (by have P:n=i.heap.size:=P;omega)).then c7;refine eY (c:=mB) (x:=m) (l.ah a6) Oh j0 (D:=Y) ⟨E,F,X,rfl,(o.ah c7).row dC (by rw[<-h0];exact c2)⟩ (λn P=>⟨by have:=o.aB n P;omega,λa=>by have:=l.aB n (l.self n a);have:=H n P;omega⟩) (by rw[Qy];unfold aK at*;omega) (by rw[Qy];unfold aK at b8;unfold maxLen;omega) λa' c' n0 K f2 c8 c6=>⟨_,_,_,rfl,?_⟩
   have j1:¬aF N=some e.heap.size:=λa=>by have:=B _ (l.self _ a);omega
   have n1:=a6.size;have n2:=c8.size;have b:∀n,K n->r.heap.size<=n:=λn P=>by
    rcases c6 n P with k|k|k
    ·exact B n k
    ·have:=H n k;omega
    ·omega
   refine PS.mk (c8.get (c7.get b7 id) j1) sM λn3 c1 n4 j2=>⟨_,oM,h+1,aq (by unfold aK at b8;omega),oM,rfl,((s.ah a6).new c8 λn P=>.inr (B n (l.self n P))).then c1,a',O+1,c',K,j2,?_,b⟩
   rw[Qw,V];exact f2.af c1 λn P a=>by have a:n=e.heap.size:=a;have:=b n P;omega
 ·rw[Qz oM]at l
  have z5:=y.size;have f4:=s.get gr λa=>by have a:M.heap.size=e.heap.size:=a;omega
  have f7:=((a9.ah z).af s λn P a=>by have a:n=e.heap.size:=a;have:=b9 n P;omega)
  refine⟨_,_,_,_,_,_,ae T rfl,ae T rfl,PS.mk f4 sM λn8 c9 n9 j3=>PS.mk j3 sM λo0 d0 o1 f3=>⟨_,_,_,_,_,_,ae f3 rfl,ae f3 rfl,Ok.mk ⟨_,_,_,_,_,_,λn=>Q n\/aF c=some n,rfl,⟨?_,?_⟩,?_,?_⟩⟩⟩
  ·exact(((l.row (bytes:=24) dC (by rw[<-f5];exact b8)).af (c9.then d0) λn P a=>by have a:n=M.heap.size:=a;have:=B n P;omega)).mono λn P=>.inl P
  ·exact(((f7.row (bytes:=40) dC (by rw[<-f6];exact f8)).af (c9.then d0) λn P a=>by have a:n=M.heap.size:=a;have:=b9 n P;omega)).mono λn P=>.inr P
  ·rintro n (P|P)
   ·have:=B n P;have:=l.aB n P;have:=x.size;have:=b0.size;omega
   ·have:=b9 n P;have:=x.size;omega
  ·exact U.new (c9.then d0) λn P=>.inr (by have P:n=M.heap.size:=P;have:=k4.size;omega)
end
variable{a:Nat}{j:Type}
section
variable {w w':World} {D D' S:XN} {d:aM} {ta pa:ZH} {tn tc pn pc:Nat}
def sx(n:bd):Bool:=if n.kind==4 then !within n.bl.length 1 16 else decide (0<n.bl.length)
def Bv(n:List bd):Bool:=!within n.length 1 8||n.any sx
def Iq{n:j->Bool}{P:List j}{b:j}(c:P[a]? =some b)(d:(P.take a).any n=false)(e:n b=false):(P.take (a+1)).any n=false:=by
 rw[Qw,c,List.any_append,d];simp[e]
def KL{P:j->Bool}{b:List j}{n:j}(c:b[a]? =some n)(d:P n=true):b.any P=true:=List.any_eq_true.2 ⟨n,QZ c,d⟩
def ft{e:Type}{f:e->Int}:∀{P:List e} {a:Nat} {b:e},P[a]? =some b->cj f (P.take a)=0->cj f (P.take (a+1))=f b
 |[],a,b,n,_=>by simp at n
 |y::P,0,b,n,_=>by simp at n;subst n;simp[cj];intro n;exact n.symm
 |y::P,a+1,b,n,c=>by
  simp only[Zw,cj]at c⊢;split at c
  ·rename_i d;simp at d;exact Zz c d
  ·rename_i d;rw[Zq d];exact ft (by simpa using n) c
def oB{a:Type}{P:a->Int}:∀{l:List a} {j:Nat},cj P (l.take j)≠0->cj P l=cj P (l.take j)
 |[],j,n=>by simp at n⊢
 |y::l,0,n=>by simp[cj]at n
 |y::l,j+1,n=>by
  simp only[Zw,cj]at n⊢;split
  ·rfl
  ·rename_i b;rw[Zq b]at n;exact oB n
def Ir(b:bb w D d ta tn pa pn):ZG 66 #[.agg #[.slice ta tn tc,.slice pa pn pc]] w (Ok λc w'=>c= .bool (qG d)/\ai w w'):=by
 have r:=b.aS.len;have s:=b.aS.dP;have hp:=b.Ed.len;unfold aK at s;refine B_ (PA.mk λY t s1 u=>⟨_,_,_,ae u rfl,PC.ok bU ?_⟩);rintro _ _ ⟨rfl,rfl⟩;refine⟨_,rfl,an.not (an.mk (λg=>⟨_,_,_,ae u rfl,an.dec (λZ=>Ok.mk ⟨?_,t⟩) (λZ=>⟨_,_,_,ae u rfl,λh j w'=>∃P:Nat,j=P/\P<=tn/\h=tn-P/\(d.types.take P).any Bv=false/\ai Y w',⟨_,0,rfl,Qj _,rfl,sM,ak.refl _⟩,?_⟩)⟩) (λg=>Ok.mk ⟨?_,t⟩))⟩
 ·unfold qG;rw[<-r,g,Zx be]
 rotate_left
 ·unfold qG;rw[<-r,g];rfl
 have v:qG d=d.types.any Bv:=by unfold qG Bv sx;rw[<-r,g,Zq be]
 rintro h j _ w2 ⟨P,rfl,hj,rfl,x,K⟩;have k:=t.then K;refine an.dec (λa8=>?_) (λa9=>?_)
 rotate_left
 ·rw[Qz oM]at x
  exact Ok.mk ⟨by rw[v,x],k⟩
 obtain⟨y,z,A,es,rfl,_,_,B,e,a2,f,c1,rfl,C⟩:=((b.ah k).aS).yP (i:=P) oM;have L:=C.len;have a0:=C.dP;unfold aK at a0;have M:=e 0 dC;simp only[mB,Nat.mul_one,Nat.add_zero]at M;refine⟨y,z,rfl,oM,oM,_,_,_,M,PA.mk λw3 k3 s3 g3=>PS.mk g3 sM λl k4 s4 N=>⟨_,_,_,ae N rfl,PC.ok bU ?_⟩⟩;rintro _ _ ⟨rfl,rfl⟩;have m:ai w2 l:=k3.new k4 λy s=>.inr oM;have E:Bv A=true->Ok (λc w'=>c= .bool (qG d)/\ai w w') (.returned (.bool true)) l:=λn=>Ok.mk ⟨by rw[v,KL B n],k.then m⟩;refine⟨_,rfl,an.not (an.mk (λF=>⟨_,_,_,ae N rfl,λh j w'=>∃i:Nat,j=i/\i<=f/\h=f-i/\(A.take i).any sx=false/\ai l w',⟨_,0,rfl,Qj _,rfl,sM,ak.refl _⟩,?_⟩) (λF=>E (by unfold Bv;rw[<-L,F];rfl)))⟩;rintro m' t' _ w5 ⟨i,rfl,hi,rfl,H,o⟩;have a3:=(k.then m).then o;refine an.dec (λa6=>?_) (λa7=>?_)
 rotate_left
 ·rw[Qz oM]at H
  exact⟨_,oM,P+1,aq oM,oM,rfl,Iq B x (by unfold Bv;rw[<-L,F,H];rfl),(K.then m).then o⟩
 obtain⟨b2,a1,p,b0,rfl,_,_,O,a4,Q,R,S,rfl,T,b1,b3⟩:=((C.ah m).ah o).yP (i:=i) oM;have U:=T.len;have a5:=T.dP;unfold aK at a5;refine⟨b2,a1,rfl,oM,oM,bw (fO p Q R S) rfl a4 (PA.mk λw6 k6 s6 g6=>az (fO p Q R S) g6 rfl λI k7 s7 J=>⟨_,ae J rfl,?_⟩)⟩;have V:ai w5 I:=k6.new k7 λy s=>.inr oM;have W:sx p=true->Ok (λc w'=>c= .bool (qG d)/\ai w w') (.returned (.bool true)) I:=λn=>Ok.mk ⟨by rw[v,KL B (by unfold Bv;rw[KL O n];simp)],a3.then V⟩;have next:sx p=false->∃X,X<f-i/\∃q:Nat,IntKind.wrap .i64 ((i:Int)+1)=q/\q<=f/\X=f-q/\(A.take q).any sx=false/\ai l I:=λn=>
  ⟨_,oM,i+1,aq oM,oM,rfl,Iq O H n,o.then V⟩
 refine an.dE (λa=>⟨_,_,_,ae J rfl,PC.ok bU ?_⟩) (λa=>an.not (an.dE (λe=>Zz e a) (λ_=>⟨_,_,_,ae J rfl,an.dec (λb=>W ?_) (λb=>next ?_)⟩)))
 ·rintro _ _ ⟨rfl,rfl⟩
  refine⟨_,rfl,an.not (an.mk (λn=>an.not (an.dE (λ_=>next ?_) (λe=>Zz a e))) (λn=>W ?_))⟩
  ·unfold sx;rw[a,<-U,n];rfl
  ·unfold sx;rw[a,<-U,n];rfl
 ·unfold sx;rw[Zq (by simpa using a)];simp only[Zk];omega
 ·unfold sx;rw[Zq (by simpa using a)];simp only[decide_eq_false_iff_not];omega
def FL(hT:eD w)(f:bb w D d ta tn pa pn)(hD:∀P,D P->P<w.heap.size):
  ZG 40 #[.agg #[.slice ta tn tc,.slice pa pn pc]] w (Ok λB w'=>B= XH (cN d)/\ai w w'):=by
 have hl:=f.aS.len;have e:=f.aS.dP;have b1:=f.Ed.len;have a6:=f.Ed.dP;unfold aK at e a6;refine Ad (PA.mk λw1 U s1 C=>⟨_,_,_,_,_,_,ae C rfl,ae C rfl,PC.ok (Ir (f.ah U)) ?_⟩);rintro _ w2 ⟨rfl,V⟩;have W:=U.then V;have X:=V.get C id;refine⟨_,rfl,an.mk (λt=>Ok.mk ⟨by unfold cN;rw[t];rfl,W⟩) (λt=>⟨_,_,_,ae X rfl,λj a w'=>∃n:Nat,a=n/\n<=tn/\j=tn-n/\cj (λa=>cj (eX a) a) (d.types.take n)=0/\ai w2 w',⟨_,0,rfl,Qj _,rfl,rfl,ak.refl _⟩,?_⟩)⟩;rintro j a _ Y ⟨n,rfl,hj,rfl,u,E⟩;have v:=W.then E;have Z:=E.get X id;have F:∀{w':World},ai w w'->∀n b,d.types[n]? =some b->cj (λa=>cj (eX a) a) (d.types.take n)=0->∀x:Int,cj (eX b) b=x->x≠0->Ok (λB w'=>B= XH (cN d)/\ai w w') (.returned (XH x)) w':=by
  intro w' a2 n b y h0 x hr h;have k:=ft y h0;rw[hr]at k;have h2:=oB (l:=d.types) (j:=n+1) (by rw[k];exact h);refine Ok.mk ⟨?_,a2⟩;unfold cN;rw[t,h2,k];simp[h]
 refine an.dec (λb2=>?_) (λb3=>⟨_,_,_,ae Z rfl,λj a w'=>∃i:Nat,a=i/\i<=pn/\j=pn-i/\cj (lG d) (d.projs.take i)=0/\ai Y w',⟨_,0,rfl,Qj _,rfl,rfl,ak.refl _⟩,?_⟩)
 ·obtain⟨P,H,I,es,rfl,_,_,y,hc,b4,n1,c1,rfl,z⟩:=((f.ah v).aS).yP (i:=n) oM
  have b5:=z.len;have a7:=z.dP;unfold aK at a7;have a0:=hc 0 dC;simp only[mB,Nat.mul_one,Nat.add_zero]at a0;refine⟨P,H,rfl,oM,oM,_,_,_,a0,PA.mk λw4 o s4 g4=>PS.mk g4 sM λJ K s5 A=>⟨_,_,_,ae A rfl,λj a w'=>∃i:Nat,a=i/\i<=n1/\j=n1-i/\cj (eX I) (I.take i)=0/\ai J w',⟨_,0,rfl,Qj _,rfl,rfl,ak.refl _⟩,?_⟩⟩;have a8:ai Y J:=o.new K λP e=>.inr oM;rintro m' t' _ L ⟨i,rfl,hi,rfl,c,l⟩;have p:=a8.then l;refine an.dec (λa3=>?_) (λa9=>?_)
  ·obtain⟨M,N,b,b0,rfl,_,_,m,O,Q,R,S,rfl,hM,b6,b7⟩:=(z.ah p).yP (i:=i) oM
   refine⟨M,N,rfl,oM,oM,bw (fO b Q R S) rfl O (PA.mk λw7 g s7 g7=>az (fO b Q R S) g7 rfl λw8 q s8 g8=>⟨_,_,_,ae (q.get (g.get (l.get A id) id) (by have:=l.size;omega)) rfl,ar (fO b Q R S) g8 (PC.ok (FR (hT.ah ?_) (z.ah ?_) (hM.ah ?_)) ?_)⟩)⟩
   ·exact(v.then p).then (g.new q λP e=>.inr oM)
   ·exact p.then (g.new q λP e=>.inr oM)
   ·exact g.new q λP e=>.inr oM
   ·rintro _ w9 ⟨rfl,k9⟩
    have a4:ai L w9:=ak.then (g.new q λP e=>.inr oM) k9;refine⟨_,rfl,an.dF (λh=>?_) (λT=>⟨_,oM,i+1,aq oM,oM,rfl,by rw[ft m c];exact T,l.then a4⟩)⟩;have k:=ft m c;exact F ((v.then p).then a4) n I y u _ (by rw[oB (j:=i+1) (by rw[k];exact h),k]) h
  ·rw[Qz oM]at c
   refine⟨_,oM,n+1,aq oM,oM,rfl,by rw[ft y u];exact c,E.then p⟩
 ·rw[Qz oM]at u
  rintro m' t' _ w4 ⟨i,rfl,hi,rfl,c,o⟩;have r:=v.then o;have a1:cN d=cj (lG d) d.projs:=by unfold cN;rw[t,u];simp
  refine an.dec (λa3=>?_) (λa9=>?_)
  ·obtain⟨M,N,b,b0,rfl,_,_,m,O,rfl,_⟩:=((f.ah r).Ed).yP (i:=i) oM
   refine⟨M,N,rfl,oM,oM,bw (ph b) rfl O (PA.mk λJ K s5 A=>az (ph b) A rfl λL l s6 g6=>?_)⟩;have s:ai w4 L:=K.new l λP e=>.inr oM;have a5:=s.get (o.get Z id) id;refine⟨_,_,_,_,_,_,ae a5 rfl,ae a5 rfl,ar (ph b) g6 (PC.ok (FT (f.ah (r.then s)) λP e=>by have:=hD P e;have:=(r.then s).size;omega) ?_)⟩;rintro _ w7 ⟨rfl,g⟩;refine⟨_,rfl,an.dF (λh=>Ok.mk ⟨?_,(r.then s).then g⟩) (λT=>⟨_,oM,i+1,aq oM,oM,rfl,by rw[ft m c];exact T,(o.then s).then g⟩)⟩;rw[a1,oB (j:=i+1) (by rw[ft m c];exact h),ft m c]
  ·rw[Qz oM]at c
   exact Ok.mk ⟨by rw[a1,c],r⟩
end
def cA(n:bQ)(P:Int):Int×bh:=
 if cN n.decl≠0 then(cN n.decl,(FK n).2)else if eT n P=false then(1,(FK n).2)else FK n
def T_(a:World)(P:bQ)(n:Int)(b:Value)(c:World):Prop:=ai a c/\
 (((cA P n).1≠0/\b= .tuple #[.pointer none,XH (cA P n).1])\/
  ((cA P n).1=0/\∃d e,b= .tuple #[XL d,XH 0]/\bP c d e P n (cA P n).2/\(∀f,e f->a.heap.size<=f)/\(cA P n).2.S.l.length<=16777216))
section
variable {w w' w0 w1 w2:World} {p:Nat} {F E D:XN} {c:bQ} {self:Int}
def Rr(hT:eD w0)(hL:Laid w0)(A:ai w0 w){tn Q B R:Nat}(hd:bb w D c.decl d tn u B)(hD:∀n,D n->n<w.heap.size)(hs:aH c.bN)(d4:aH c.every)(d5:aH c.start):
  ZG 19 #[vJ c d tn Q u B R,XH self] w (Ok (T_ w c self)):=by
 refine BX (PA.mk λf5 C f6 E=>⟨_,_,_,_,_,_,ae E rfl,ae E rfl,PC.ok (FL (hT.ah (A.then C)) (hd.ah C) λn P=>by have:=hD n P;omega) ?_⟩);rintro _ d6 ⟨rfl,b8⟩;have a3:=C.then b8;have b9:d6.heap[w.heap.size]? =some (.cells (dW c d tn Q u B R).toArray 27 (0,0)):=b8.get E id;refine⟨_,rfl,an.dF (λj=>Ok.mk ⟨a3,.inl ?_⟩) (λS=>ar (GV c d tn Q u B R) b9 (PC.ok NA ?_))⟩
 ·have:cA c self=(cN c.decl,(FK c).2):=by unfold cA;rw[Zx j]
  rw[this];exact⟨j,rfl⟩
 rintro _ T ⟨rfl,c1⟩;have F:=a3.then c1;have U:=c1.get b9 id;refine⟨_,rfl,an.not (an.mk (λl=>?_) (λl=>Ok.mk ⟨F,.inl ?_⟩))⟩
 rotate_left
 ·have:cA c self=(1,(FK c).2):=by unfold cA;rw[Zq (by simpa using S),Zx l]
  rw[this];exact⟨show(1:Int)≠0 by decide,rfl⟩
 have a4:cA c self=FK c:=by unfold cA;rw[Zq (by simpa using S),Zq (by rw[l];simp)]
 have c2:iY c self:=⟨l,S,hs,d4,d5⟩
 have c3:=l;unfold eT within at c3;simp only[QK,Zk]at c3;refine⟨_,ae U rfl,PC.ok (sE (A.then F) oM oM) ?_⟩;rintro _ c4 ⟨dp,rfl,d7,V⟩;obtain⟨Fd,c5,-,d8,-⟩:=d7;have H:∀n,Fd n->T.heap.size<=n/\n<c4.heap.size:=λn P=>⟨Nat.le_of_not_lt (d8 n P).2,c5.aB n P⟩
 have W:=F.then V;have X:=V.get U id;refine⟨_,_,rfl,an.dF (λj=>Zz rfl j) (λ_=>⟨_,_,_,_,_,_,ae X rfl,ae X rfl,PC.ok (KB (hd.ah W) λn P=>by have:=hD n P;have:=W.size;omega) ?_⟩)⟩;rintro _ c6 ⟨m,Pk,o,p,q,r,I,rfl,d9,J,K⟩;have c7:=W.then K;have e0:=K.get X id;have f8:=C.size;have g1:=F.size;have g2:=V.size;have g3:=K.size;have g4:=ax E;have e9:w.heap.size<T.heap.size:=ax U;refine⟨_,_,_,_,_,_,rfl,PS.mk e0 (by simp[dW]) λg5 e1 g6 e2=>PS.mk e2 (by simp[dW]) λY e3 g7 e4=>λs c8=>?_⟩;have Z:ak (λn=>n=w.heap.size) c6 Y:=e1.then e3;have L:ai Y s:=c8.af;have g8:s.heap.size=Y.heap.size:=by rw[c8.heap]
 have b:s.heap[w.heap.size]? =some (.cells (dW c m Pk o p q r).toArray 27 (0,0)):=L.get e4 id;have c9:ai w s:=(c7.new Z λn P=>.inr (by have P:n=w.heap.size:=P;omega)).then L;have g:∀{n:Nat},T.heap.size<=n->n≠w.heap.size:=λ{n} P=>by omega
 refine⟨λ_=>False,id,_,_,_,_,_,_,_,_,_,_,_,_,_,_,ae b rfl,ae b rfl,ae b rfl,ae b rfl,ae b rfl,ae b rfl,ae b rfl,ae b rfl,ae b rfl,ae b rfl,_,ae b rfl,id,_,ae b rfl,PC.ok (IU oM) ?_⟩;rintro _ e5 ⟨h,rfl,d0,f2,f3,b4⟩;refine⟨_,rfl,b4,PC.ok HZ ?_⟩;rintro _ f ⟨tp,M,rfl,a5,N,d1⟩;have g9:=b4.size;have h2:=N.size;have d2:=a5.aB;refine⟨_,rfl,N,PA.mk λb5 O h3 e6=>⟨O,?_⟩⟩
 let e:jk:=⟨m,Pk,o,p,q,r,dp,none,0,0,h,tp⟩
 let a2:bh:=⟨⟨c.aD.toNat,[]⟩,TL c.uL.toNat,none,[],⟨c.cP,[],[]⟩⟩
 have d3:b5.heap[f.heap.size]? =some (.cells (wS e c self none none none) 105 (0,0)):=e6;have a0:ai s b5:=(b4.then N).then O;have a1:=c9.then a0;have b6:∃t,aT b5 (λn=>∃k,(match k with|0=>n=f.heap.size|1=>I n|2=>Fd n|5=>n=h|6=>M n|_=>False:Prop)) t (recC f.heap.size (wS e c self none none none) e c a2 false):=by
  refine aT.join (G:=λk n=>match k with|0=>n=f.heap.size|1=>I n|2=>Fd n|5=>n=h|6=>M n|_=>False) (λk=>?_) (λi a9 n a hj=>?_) λk n P=>?_
  ·match k with
   |0=>exact⟨rfl,d3⟩
   |1=>exact(((d9.af Z λn P v=>g (by have:=J n P;omega) v).ah L).ah a0)
   |2=>exact⟨Fd,((((c5.af K λ_ _ e=>e).af Z λn P v=>g (H n P).1 v).af L λ_ _ e=>e).af a0 λ_ _ e=>e),λn P=>P,rfl⟩
   |3=>intro v;cases v
   |4=>trivial
   |5=>exact⟨_,_,d0.ah (N.then O),λ_ e=>e,λn P=>P.elim⟩
   |6=>exact a5.ah O
   |k+7=>trivial
  ·have x:∀i:Nat,(match i with|0=>n=f.heap.size|1=>I n|2=>Fd n|5=>n=h|6=>M n|_=>False:Prop)->i=(if n<c4.heap.size then 2 else if n<c6.heap.size then 1 else if n<e5.heap.size then 5 else if n<f.heap.size then 6 else 0):=λi a=>by
    rcases i with _|_|_|_|_|_|_|i
    ·have a:n=f.heap.size:=a
     rw[Zq oM,Zq oM,Zq oM,Zq oM]
    ·have:=J n a;rw[Zq oM,Zx oM]
    ·have:=H n a;rw[Zx oM]
    ·exact a.elim
    ·exact a.elim
    ·have a:n=h:=a
     rw[Zq oM,Zq oM,Zx oM]
    ·have h5:=d1 n a;have h6:=d2 n a;rw[Zq oM,Zq oM,Zq oM,Zx oM]
    ·exact a.elim
   rw[x i a,<-x a9 hj]
  ·rcases k with _|_|_|_|_|_|_|k
   ·have P:n=f.heap.size:=P
    omega
   ·have:=J n P;omega
   ·have:=H n P;omega
   ·exact P.elim
   ·exact P.elim
   ·have P:n=h:=P
    omega
   ·have:=d2 n P;omega
   ·exact P.elim
 obtain⟨t,hp⟩:=b6;have b7:∀n,(∃k,(match k with|0=>n=f.heap.size|1=>I n|2=>Fd n|5=>n=h|6=>M n|_=>False:Prop))->w.heap.size<=n:=λn ⟨k,P⟩=>by
  rcases k with _|_|_|_|_|_|_|k
  ·have P:n=f.heap.size:=P
   omega
  ·have:=J n P;omega
  ·have:=H n P;omega
  ·exact P.elim
  ·exact P.elim
  ·have P:n=h:=P
   omega
  ·have:=d1 n P;omega
  ·exact P.elim
 refine PC.ok (xG (h:=e) (z1:=none) (z2:=none) (z3:=none) hp c2 ⟨hT,hL,A.then a1,λn P=>by have:=b7 n P;have:=A.size;omega⟩) ?_;rintro _ e7 ⟨rfl,a6,h',F',y,z,a7⟩;have e8:ie c a2=FK c:=rfl;rw[e8]at z a6⊢;have a8:ai w e7:=a1.new a7.af λn P=>.inr (b7 n P);refine⟨_,rfl,an.dF (λj=>Ok.mk ⟨a8,.inl ?_⟩) (λhz=>Ok.mk ⟨a8,.inr ?_⟩)⟩
 ·rw[a4];exact⟨j,rfl⟩
 ·rw[a4]
  exact⟨hz,_,F',rfl,⟨c2,h',y,z⟩,λn P=>(a7.new n P).elim (b7 n) λh5=>by have:=a1.size;omega,a6⟩
end
def KC(n:World):(callMethod (.iface 103 (XL a)) "State" #[XH e,XH r]).run XP n= .ok (.enter 402 #[XL a,XH e,XH r]) n:=kR
def FM(n:World):(callMethod (.iface 103 (XL a)) "Entries" #[]).run XP n= .ok (.enter 400 #[XL a]) n:=kR
def NB(n:World):(callMethod (.iface 103 (XL a)) "Rows" #[XH e]).run XP n= .ok (.enter 401 #[XL a,XH e]) n:=kR
def Tq(n:aM)(P:List aj)(a b:Int):gE:=match(cm n P).state a b with
 |none=>bu 14
 |some c=>⟨0,(0,0),c,[],[],false⟩
def zW(a:aM)(b:List aj)(P n:Int):gE:=if P<0\/P>=(a.projs.length:Int)then bu 1 else⟨0,(0,0),⟨0,[]⟩,[],(nn (iw a b P) n 32).1,(nn (iw a b P) n 32).2⟩
section
variable {w w' w0 w1 w2:World} {p:Nat} {F E D:XN} {cls:Nat->Nat} {h:jk} {c:bQ} {self:Int} {X:bh}
def Bq(n:cx w F cls p h c self X):ZG 89 #[XL p] w (Ok λP w'=>P= .iface 103 (XL h.bp)/\w=w'):=
 nQ ⟨p,0,rfl,_,ae n.bg rfl,Ok.mk ⟨rfl,rfl⟩⟩
def Rp(x:bP w p F c self X):ZG 55 #[XL p,XH e,XH r] w (Ok λy w'=>dQ w (Tq c.decl X.S.l e r) y w'/\ai w w'):=by
 obtain⟨z,h,cls,m⟩:=x;refine oS (PA.mk λA b S B=>PC.ok (Bq (cx.ah m b)) ?_);rintro _ _ ⟨rfl,rfl⟩;have C:=cx.ah m b;have n:cO A h.bp (λP=>F P/\cls P=4) c.decl c.every.toNat X.S.l:=C.at' 4;refine⟨_,rfl,_,_,KC,PC.ok (IT n) ?_⟩;rintro _ o ⟨g,i,j,G,rfl,k,q,d⟩;have E:=k.aB;have T:=d.size;refine⟨_,_,_,_,_,rfl,PA.mk λU H V I=>PS.mk I sM λW J Y K=>PS.mk K sM λL M Z l=>?_⟩;have a:ai o L:=H.new (J.then M) λP n=>.inr (by have n:P=o.heap.size:=n;omega);have s:=a.get (d.get B id) id;have b0:=a.size;have t:(((cm c.decl X.S.l).state e r).getD Gf).cells.length<=8:=CI (Gt z.decl X.S.l).1 ⟨0,0,0,[],e,r,0,0,0,0⟩;unfold Tq
 cases N:(cm c.decl X.S.l).state e r with
 |none=>
  refine an.tt rfl (az (gP (bu 14) none 0 0 none 0 0 none 0 0) s rfl λb1 O b2 Q=>ar (gP (bu 14) none 0 0 none 0 0 none 0 0) Q (Ok.mk ⟨dQ.plain rfl rfl rfl,?_⟩));exact((b.then d).then a).new O λP n=>.inr (by have n:P=w.heap.size:=n;omega)
 |some f=>
  rw[N]at k t l;refine an.ff rfl ⟨_,_,_,_,ae l rfl,ae l rfl,az (gP ⟨0,(0,0),f,[],[],false⟩ g i j none 0 0 none 0 0) s rfl λb3 u b4 R=>ar (gP ⟨0,(0,0),f,[],[],false⟩ g i j none 0 0 none 0 0) R (Ok.mk ⟨?_,?_⟩)⟩
  ·refine⟨g,i,j,none,0,0,none,0,0,G,rfl,((k.ah a).af u λP n v=>by have v:P=w.heap.size:=v;have:=q P n;omega).row dC (by have:f.cells.length<=8:=t;show f.cells.length*32<=aK;unfold aK;omega),cT _ _,cT _ _,λP n=>⟨by have:=q P n;omega,by have:=E P n;omega⟩⟩
  ·exact((b.then d).then a).new u λP n=>.inr (by have n:P=w.heap.size:=n;omega)
def NC(a:aM)(n:List aj)(b:Int):(iw a n b).length<=n.length:=by
 unfold iw;split
 ·simp
 split
 ·simp
 ·rename_i P c
  have e:=KZ a n P (QZ c);have d:=(wR (P.rows.map (·.2))).length_eq;rw[Q8]at d;show(P.rows.map (·.2)|>.foldr ml []).length<=_;omega
def Mu(A:bP w p F c self X):ZG 56 #[XL p,XH e,XH r] w (Ok λd w'=>dQ w (zW c.decl X.S.l e r) d w'/\ai w w'):=by
 obtain⟨R,h,cls,B⟩:=A;refine mT (PA.mk λf g S q=>?_);have a:=cx.ah B g;have no:(e<0\/e>=(c.decl.projs.length:Int))->nq XP 53 (XL w.heap.size) (.agg (fk (bu 1) none 0 0 none 0 0 none 0 0).toArray) f λs=>iK XP 53 (XL w.heap.size) s λC=>Ok (λd w'=>dQ w (zW c.decl X.S.l e r) d w'/\ai w w') (.returned C) s:=λE=>by
  refine az (gP (bu 1) none 0 0 none 0 0 none 0 0) q rfl λT H U I=>ar (gP (bu 1) none 0 0 none 0 0 none 0 0) I (Ok.mk ⟨?_,g.new H λn P=>.inr (by have P:n=w.heap.size:=P;omega)⟩);unfold zW;rw[Zx E];exact dQ.plain rfl rfl rfl
 have V:=(show bb f (λn=>F n/\cls n=1) c.decl h.ta h.tn h.pa h.pn from a.at' 1).Ed.len;refine an.dec (λi=>no (.inl i)) (λi=>⟨p,0,rfl,_,_,_,ae a.bg rfl,an.dec (λt=>no (.inr oM)) (λt=>PC.ok (Bq a) ?_)⟩);rintro _ _ ⟨rfl,rfl⟩;have P:cO f h.bp (λn=>F n/\cls n=4) c.decl c.every.toNat X.S.l:=a.at' 4;have W:X.S.l.length<=20000000:=P.1.2.2.2;have Y:=NC c.decl X.S.l e;refine⟨_,rfl,_,_,NB,PC.ok (Mh P) ?_⟩;rintro _ Z ⟨⟨a0,a1,cc,G,rfl,b,j,hG⟩,J⟩;have hn:=b.len dC;have K:=b.jX;refine⟨_,_,_,rfl,PC.ok (Kw (b.row dC ba) b.aB K J oM) ?_⟩;rintro _ L ⟨a2,rfl,k,l,m,M,rfl,u,o,v⟩;have N:=u.aB;have a9:=j.size;have b0:=o.size;have b1:(nn (iw c.decl X.S.l e) r 32).1.length<=32:=by unfold nn;rw[Qy];omega
 have O:ai w L:=(g.then j).then o;refine⟨_,_,_,_,rfl,az (gP ⟨0,(0,0),⟨0,[]⟩,[],(nn (iw c.decl X.S.l e) r 32).1,(nn (iw c.decl X.S.l e) r 32).2⟩ none 0 0 none 0 0 k l m) (o.get (j.get q id) id) rfl λb2 x b3 Q=>ar (gP ⟨0,(0,0),⟨0,[]⟩,[],(nn (iw c.decl X.S.l e) r 32).1,(nn (iw c.decl X.S.l e) r 32).2⟩ none 0 0 none 0 0 k l m) Q (Ok.mk ⟨?_,O.new x λn P=>.inr (by have P:n=w.heap.size:=P;omega)⟩)⟩;unfold zW;rw[Zq (by rintro(y|y);exact i y;exact t oM)];refine⟨none,0,0,none,0,0,k,l,m,M,rfl,cT _ _,cT _ _,(u.af x λn P z=>by have z:n=w.heap.size:=z;have:=v n P;omega).row dC (by show(nn (iw c.decl X.S.l e) r 32).1.length*24<=aK;unfold aK;omega),λn P=>⟨by have:=v n P;omega,by have:=N n P;omega⟩⟩
end
def BJ{a:Type}{b:a->Bool}:∀{L:List a} {j:Nat} {n:a},L[j]? =some n->b n=true->(L.filter b)[((L.take j).filter b).length]? =some n
 |[],j,n,P,_=>by simp at P
 |x::L,0,n,P,c=>by simp at P;subst P;simp[c]
 |x::L,j+1,n,P,c=>by
  have d:=BJ (L:=L) (j:=j) (by simpa using P) c;rw[Zw,List.filter_cons,List.filter_cons];split
  ·simpa using d
  ·exact d
variable{C g3:Nat×Nat}{g q:TypeId}
section
variable {w w' wz A B w1:World} {D:XN} {a:ZH} {n c:Nat} {l:List cz} {O R1 R2 f most:Nat} {own L:List (Bx cz)} {pre:List (List Value)}
def Td(a n:Int)(P:cz):Bool:=P.ev.aS==a&&P.ev.agg==n
def CF{e:cz}{a:ZH}{n c:Nat}(i:Row aJ 8 w D a n e.ev.aP)(t:∀P,D P->P<w.heap.size):
  ZG 149 #[Ec e a n c] w (Ok λu w'=>∃a n c G,u=Ec e a n c/\Row aJ 8 w' G a n e.ev.aP/\(∀P,G P->w.heap.size<=P/\P<w'.heap.size)/\ai w w'):=by
 have v:=i.dP;have x:=i.len;refine yt (PA.mk λw1 m A f=>PA.mk λB g C j=>⟨_,_,_,ae (g.get f id) rfl,PC.ok (bA (i.ah (m.then g)) λP b=>by have:=t P b;omega) ?_⟩);rintro _ E ⟨o,p,q,G,rfl,r,h,k⟩;have f:=h.get (g.get f id) id;have j:=h.get j id;have F:=h.size;refine⟨_,_,_,rfl,PS.mk f sM λH l I y=>?_⟩;refine ar (cs:=gK e o p q) (lq _ _ _ _) y (az (lq _ _ _ _) (l.get j (λd=>by have d:w1.heap.size=w.heap.size:=d;omega)) rfl λJ s K z=>ar (lq _ _ _ _) z (Ok.mk ⟨o,p,q,G,rfl,?_,?_,?_⟩))
 ·refine(((r.af l λP b d=>?_).af s λP b d=>?_).row (bytes:=8) dC (by rw[<-x];exact v))
  ·have d:P=w.heap.size:=d;have:=k P b;omega
  ·have d:P=w1.heap.size:=d;have:=k P b;omega
 ·intro P b
  have:=k P b;have:=r.aB P b;omega
 ·exact((((m.then g).then h).new l λP b=>.inr (by have b:P=w.heap.size:=b;omega)).new s λP b=>.inr (by have b:P=w1.heap.size:=b;omega))
def NR{d:cz}{f h:Nat}(j:w.heap[f]? =some (.cells #[XH e] g C))(k:w.heap[h]? =some (.cells #[XH r] q g3)):
  ZG 148 #[Ec d a n c,XL f,XL h] w (Ok λl w'=>l= .bool (Td e r d)/\ai w w'):=by
 refine yr (PA.mk λw1 P m i=>⟨_,ae i rfl,_,ae (P.get j id) rfl,an.mk (λb=>⟨_,ae i rfl,_,ae (P.get k id) rfl,Ok.mk ⟨?_,P⟩⟩) (λb=>Ok.mk ⟨?_,P⟩)⟩)
 ·unfold Td;rw[b];rfl
 ·unfold Td;rw[b];rfl
structure N_ (wz:World) (O:Nat) (own:List (Bx cz)) (f most:Nat) (pre:List (List Value)) (A:World):Prop where
 af:ak (·=O) wz A
 dP:wz.heap.size+2<=A.heap.size
 mu:∃a n c G,A.heap[O]? =some (.cells #[.slice a n c] 50 (0,0))/\aO vB 133 G A a n c (((own.take pre.length).drop f).map (·.x))/\(∀b,G b->wz.heap.size+2<=b)/\n<=most
structure Uq (wz:World) (O R1 R2:Nat) (own:List (Bx cz)) (f most:Nat) (A:World):Prop where
 af:ak (λb=>b=O\/b=R1\/b=R2) wz A
 r2:A.heap[R2]? =some (.cells #[.bool true] 4 (0,0))
 more:most<(own.drop f).length
 mu:∃a n c G,A.heap[R1]? =some (.cells #[.slice a n c] 50 (0,0))/\aO vB 133 G A a n c (((own.drop f).take most).map (·.x))/\(∀b,G b->wz.heap.size+2<=b)
def N_.ah(b:N_ wz O own f most pre A)(P:ai A B):N_ wz O own f most pre B:=by
 obtain⟨d,e,a,n,c,G,g,h,i⟩:=b;exact⟨d.ah P,Xx e P.size,a,n,c,G,P.get g id,h.ah P,i⟩
def N_.eg(o:O<wz.heap.size)(h:N_ wz O own f most pre A)(i:pM (wz.heap.size+1) A B):N_ wz O own f most pre B:=by
 obtain⟨j,p,a,n,c,G,k,l,g,m⟩:=h;obtain⟨e,q⟩:=i;exact⟨j.new e λb d=>.inr (by have d:b=wz.heap.size+1:=d;omega),oM,a,n,c,G,e.get k (λP=>by have P:O=wz.heap.size+1:=P;omega),l.af e λb d P=>by have P:b=wz.heap.size+1:=P;have:=g b d;omega,g,m⟩
def Uq.eg(q:O<wz.heap.size/\R1<wz.heap.size/\R2<wz.heap.size)(h:Uq wz O R1 R2 own f most A){k:Nat}(r:wz.heap.size<=k/\k<=wz.heap.size+1)(i:pM k A B):Uq wz O R1 R2 own f most B:=by
 obtain⟨j,l,m,a,n,c,G,o,p,g⟩:=h;obtain⟨b,s⟩:=i;exact⟨j.new b λd e=>.inr (by have e:d=k:=e;omega),b.get l (λP=>by have P:R2=k:=P;omega),m,a,n,c,G,b.get o (λP=>by have P:R1=k:=P;omega),p.af b λd e P=>by have P:d=k:=P;have:=g d e;omega,g⟩
def Ss{p s t u:Nat}{R:XU}{Rx:XU}(hO:O<wz.heap.size)(Y:wz.heap[p]? =some (.cells #[XH e] g C))(Z:wz.heap[s]? =some (.cells #[XH r] q g3))(h1:p≠O)(h2:s≠O)(v:∃j f,wz.heap[t]? =some (.cells #[.slice a n c] j f))(h3:t≠O)(w:∃j f,wz.heap[u]? =some (.cells #[.func (.func 148) #[] #[XL p,XL s]] j f))(h4:u≠O)(I:Row KW.jq 120 wz D a n L)(hD:∀P,D P->P<wz.heap.size/\P≠O)(J:own=L.filter λP=>Td e r P.x)(b6:L.length<=20000000)(hR:∀A B,R A->ak (nI wz) A B->R B)(hy:∀pre l A,N_ wz O own f most pre A->R A->sQ [XH 0,Ec ⟨rm,false,(0,0)⟩ none 0 0] l->(∃P,own[pre.length]? =some P/\l=[XH (pre.length:Int),Ec P.x P.a P.n P.c])->jx XP (wz.heap.size+1) l A λP d=>(P=true/\N_ wz O own f most (pre++[l]) d/\R d)\/(P=false/\Uq wz O R1 R2 own f most d/\Rx d))(K:N_ wz O own f most [] w1)(a4:R w1):
  ZG 214 #[.func (.yield (wz.heap.size+1)) #[] #[],XL t,XL u] w1 (λj d=>(∃a0,j= .returned a0)/\((R d/\∃k:List (List Value),N_ wz O own f most k d/\k.length=own.length)\/(Uq wz O R1 R2 own f most d/\Rx d))):=by
 obtain⟨e3,f3,v⟩:=v;obtain⟨e4,f4,w⟩:=w;have hn:=I.len;refine uv ⟨_,_,_,ae (K.af.get v h3) rfl,λM a1 x w'=>∃(b:Nat) (pre:List (List Value)),x=b/\b<=n/\M=n-b/\a1=(pre.length:Int)/\pre.length=((L.take b).filter λP=>Td e r P.x).length/\N_ wz O own f most pre w'/\R w',⟨_,0,[],rfl,Qj _,rfl,rfl,rfl,K,a4⟩,?_⟩;rintro M _ _ _ N ⟨b,pre,rfl,hj,rfl,rfl,i,m,Q⟩;refine an.dec (λb7=>?_) (λb8=>?_)
 ·obtain⟨P,h⟩:∃P,L[b]? =some P:=⟨_,Qq oM⟩
  obtain⟨a2,a3,es,ha,a5,a6,y,rfl,-⟩:=(I.af m.af λP h=>(hD P h).2).el b P h;have b3:pre.length<=20000000:=by
   rw[i];have h5:=List.length_filter_le (λP:Bx cz=>Td e r P.x) (L.take b);have h6:=List.length_take_le b L;omega
  refine⟨a2,a3,ha,oM,oM,bw (es:=gK P.x P.a P.n P.c) (k:=13) (lq _ _ _ _) rfl (λx ht=>by rw[Qx];exact y x ht) (PA.mk λb9 a7 c1 a8=>az (lq P.x P.a P.n P.c) a8 rfl λa9 b0 c2 S=>?_)⟩;have T:ai N a9:=a7.new b0 λP h=>.inr (by have h:P=N.heap.size:=h;omega);have z:=m.ah T;refine⟨_,ae (z.af.get w h4) rfl,ar (lq P.x P.a P.n P.c) S ⟨_,_,_,rfl,kR,PC.ok (NR (z.af.get Y h1) (z.af.get Z h2)) ?_⟩⟩;rintro _ b1 ⟨rfl,U⟩;have V:=T.then U;have W:=m.ah V;have X:=hR _ _ Q (ai.af V);refine⟨_,rfl,an.not (an.mk (λo=>?_) (λo=>⟨_,oM,b+1,pre,aq oM,oM,rfl,rfl,?_,W,X⟩))⟩
  rotate_left
  ·rw[Qw,h,List.filter_append,i];simp[o]
  refine ar (lq P.x P.a P.n P.c) (U.get S id) ⟨_,rfl,(hy pre _ b1 W X ?_ ⟨P,?_,rfl⟩).mono ?_⟩
  ·exact λφ E=>E pre.length P.x.ev.origin P.x.ev.seq P.x.ev.ay P.a P.n P.c P.x.ev.aS P.x.ev.agg P.x.ev.field P.x.ev.op P.x.ev.arg P.x.ev.key P.x.void P.x.Eb.1 P.x.Eb.2
  ·rw[J,i];exact BJ h o
  ·rintro b' d (⟨rfl,F,b5⟩|⟨rfl,H,b2⟩)
   ·refine an.ff rfl ⟨_,oM,b+1,pre++[_],aq oM,oM,rfl,?_,?_,F,b5⟩
    ·rw[aq oM];simp
    ·rw[Qw,h,List.filter_append,QX,QX,<-i];simp[o]
   ·exact an.tt rfl ⟨⟨_,rfl⟩,.inr ⟨H,b2⟩⟩
 ·rw[Qz oM]at i
  exact⟨⟨_,rfl⟩,.inl ⟨Q,pre,m,by rw[J];exact i⟩⟩
end
section
variable {w w' wz A B w1:World} {D:XN} {a:ZH} {n c:Nat} {l:List cz}
def H_{most:Nat}(I:Row vB 120 w D a n l)(hD:∀P,D P->P<w.heap.size)(hm:most<=1000)(hl:l.length<=20000000)(k2:aH N):
  ZG 88 #[.slice a n c,XH e,XH r,XH N,XH (most:Int)] w (Ok λa6 w'=>∃O,a6= .tuple #[O,.bool (jS l e r N most).2]/\px vB 133 w (jS l e r N most).1 O w'):=by
 obtain⟨V,c3,hL,e9⟩:=eh.boxes (N:=KW) I;have l0:V.length=l.length:=by rw[<-c3,Q8]
 obtain⟨own,p⟩:∃own,own=V.filter λP=>Td e r P.x:=⟨_,rfl⟩
 obtain⟨i,hf⟩:∃i:Nat,i=(max N 0).toNat:=⟨_,rfl⟩
 have c7:own.map (·.x)=l.filter λb=>b.ev.aS==e&&b.ev.agg==r:=by rw[p,<-c3,List.filter_map];rfl
 have f2:jS l e r N most=(((own.drop i).take most).map (·.x),decide (most<(own.drop i).length)):=by
  unfold jS;rw[<-c7,<-hf];simp only[List.map_take,List.map_drop,XZ,Q8]
 rw[f2];have h3:own.length<=20000000:=by rw[p];have:=List.length_filter_le (λP:Bx cz=>Td e r P.x) V;omega
 refine Cn (PA.mk λw6 k6 s6 g6=>PA.mk λv k7 s7 g7=>PA.mk λw8 k8 s8 g8=>PA.mk λj k9 s9 g9=>PA.mk λk a0 l3 f5=>PA.mk λm W l4 f6=>PA.mk λf8 Q l5 g0=>?_);have a7:=(((k8.then k9).then a0).then W).then Q;have c8:=a7.get (show v.heap[w6.heap.size]? =_ from g7) id;have k5:(if 0>(if False then(0:Int)else N)then 0 else N)=(i:Int):=by simp;split<;>omega
 refine⟨_,ae ((((k9.then a0).then W).then Q).get g8 id) rfl,?_⟩;have g1:(if 0>N then(0:Int)else N)=(i:Int):=by rw[hf];split<;>omega
 rw[g1];refine PS.mk ((((k9.then a0).then W).then Q).get g8 id) sM λE J l6 g2=>?_;have c9:E.heap[v.heap.size]? =some (.cells #[XH (i:Int)] 3 (0,0)):=g2;have d0:ai w f8:=((k6.then k7).then a7)
 have d1:ai w E:=d0.new J λP d=>.inr (by have d:P=v.heap.size:=d;omega);have d2:=J.get ((k7.then a7).get g6 id) (λb=>by have b:w.heap.size=v.heap.size:=b;omega);have d3:=J.get c8 (λb=>by have b:w6.heap.size=v.heap.size:=b;omega);have d6:=J.get (((a0.then W).then Q).get g9 id) (λb=>by have b:w8.heap.size=v.heap.size:=b;omega);have d7:=J.get ((W.then Q).get f5 id) (λb=>by have b:j.heap.size=v.heap.size:=b;omega);have d9:=J.get (Q.get f6 id) (λb=>by have b:k.heap.size=v.heap.size:=b;omega);have e2:=J.get g0 (λb=>by have b:m.heap.size=v.heap.size:=b;omega);refine PC.ok (φ:=λa6 w'=>a6= .func (.func 214) #[] #[XL E.heap.size,.pointer (some ⟨E.heap.size+1,0,none⟩)]/\w'.heap[E.heap.size]? =some (.cells #[.slice a n c] 50 (0,0))/\(∃b ff,w'.heap[E.heap.size+1]? =some (.cells #[.func (.func 148) #[] #[XL w.heap.size,XL w6.heap.size]] b ff))/\ai E w'/\w'.heap.size=E.heap.size+2)
  (Aj (PA.mk λw3 k3 s3 g3=>PA.mk λw4 k4 s4 g4=>Ok.mk ⟨by rw[s3],k4.get g3 id,⟨_,_,by rw[<-s3];exact g4⟩,k3.then k4,oM⟩)) ?_
 rintro _ wz ⟨rfl,g5,h0,y,sz⟩;have h:=d1.then y;have a8:=y.get d2 id;have a9:=y.get d3 id;have b0:=y.get d6 id;have b1:=y.get c9 id;have K:=y.get d7 id;have L:=y.get d9 id;have X:=y.get e2 id;have Y:m.heap.size<wz.heap.size:=ax X;have d4:j.heap.size<wz.heap.size:=ax K;have d5:k.heap.size<wz.heap.size:=ax L;have b2:∀P,D P->P<wz.heap.size/\P≠m.heap.size:=λP d=>⟨by have:=hD P d;have:=h.size;omega,λb=>by have:=hD P d;omega⟩
 have e3:∀P∈V,KW.In wz D P:=λP d=>(e9 P d).af h λ_ _ I=>I;have e4:∀{c0:Nat} {P:Bx cz},own[c0]? =some P->P∈V:=λ{c0 P} d=>by
  have:=QZ d;rw[p]at this;exact(List.mem_filter.1 this).1
 refine⟨_,rfl,214,_,rfl,kR,Unit,(),λ_=>N_ wz m.heap.size own i most,λO _ A=>O= .ret/\Uq wz m.heap.size j.heap.size k.heap.size own i most A,
  λf R=>∃P,own[f.length]? =some P/\R=[XH (f.length:Int),Ec P.x P.a P.n P.c],λz=>z.length=own.length,?_,λ_ f A B M t=>M.eg Y t,λO f A B hx t=>⟨hx.1,hx.2.eg ⟨Y,d4,d5⟩ ⟨oM,oM⟩ t⟩,?_,?_,?_,?_,trivial⟩
 ·intro w1 hk hs
  refine⟨ai.af hk,oM,none,0,0,λ_=>False,hk.get X id,?_,λP d=>d.elim,Qj _⟩;simpa using aO.nil w1
 ·rintro _ f A M l7 l8 l9 m0 m1 ta tn tc m2 m3 m4 m5 m6 m7 m8 m9 n0 ⟨P,d,he⟩
  simp only[gK,aC,List.cons_append,List.nil_append,List.cons.injEq,Value.agg.injEq,Array.mk.injEq,Value.int.injEq,XX,Value.bool.injEq,and_true,true_and]at he;obtain⟨rfl,rfl,rfl,rfl,⟨rfl,rfl,rfl⟩,rfl,rfl,rfl,rfl,rfl,rfl,rfl,rfl,rfl⟩:=he;have n1:f.length<own.length:=(Qv.1 d).1;refine PA.mk λn3 h8 n4 h9=>az (lq P.x P.a P.n P.c) h9 rfl λi0 i1 n8 i2=>?_;have c1:ai A i0:=h8.new i1 λP d=>.inr (by have d:P=A.heap.size:=d;omega);refine⟨ai.af c1,λb3 t=>?_⟩;have c2:=(M.ah c1).eg Y t;have i3:=t.1.get i2 (λb=>by have b:A.heap.size=wz.heap.size+1:=b;omega);have n9:=t.2;have Z:=c2.af;have c4:∀R:List Value,(((own.take (f++[R]).length).drop i)=if f.length<i then []else((own.take f.length).drop i)++[P]):=λR=>by
   rw[QX,List.length_singleton,Qw,d];have i4:(own.take f.length).length=f.length:=by rw[Qy];omega
   split
   ·rename_i q
    exact List.drop_eq_nil_of_le (by rw[QX,i4];simp;omega)
   ·rename_i q
    rw[List.drop_append_of_le_length oM];rfl
  obtain⟨o,x,C,F,S,G,u,s,q,h6⟩:=c2;have a1:=s.len dC;rw[Q8,XZ,Qy,X2 oM]at a1;refine⟨_,ae (Z.get b1 (λb=>by have b:v.heap.size=m.heap.size:=b;omega)) rfl,an.dec (λo0=>⟨ak.refl _,?_⟩) (λo1=>⟨_,_,_,ae u rfl,_,ae (Z.get b0 (λb=>by have b:w8.heap.size=m.heap.size:=b;omega)) rfl,an.dec (λi5=>?_) (λi6=>λd8 i7=>?_)⟩)⟩
  ·refine⟨o,x,C,F,S,G,u,?_,q,h6⟩
   rw[c4,Zx oM];rw[List.drop_eq_nil_of_le (by rw[Qy];omega)]at s;exact s
  ·have e6:F=most:=oM
   have b4:=Z.get K (λb=>by have b:j.heap.size=m.heap.size:=b;omega);have b5:=Z.get L (λb=>by have b:k.heap.size=m.heap.size:=b;omega);refine⟨_,_,_,ae u rfl,PS.mk b4 sM λo2 e0 o3 i8=>PS.mk (e0.get b5 (λb=>by have b:k.heap.size=j.heap.size:=b;omega)) sM λi9 e1 o4 j0=>?_⟩;have T:ak (λP=>P=j.heap.size\/P=k.heap.size) b3 i9:=(e0.mono λP _ b=>.inl b).then (e1.mono λP _ b=>.inr b);have j1:(own.drop i).take most=(own.take f.length).drop i:=by
    rw[<-e6,a1,List.drop_take]
   refine⟨T.mono λP _ d=>⟨by rcases d with rfl|rfl<;>omega,by rcases d with rfl|rfl<;>omega⟩,.inl rfl,rfl,(o.mono λP _ b=>.inl b).then (T.mono λP _ b=>.inr b),j0,by rw[XZ];omega,C,F,S,G,e1.get i8 (λb=>by have b:j.heap.size=k.heap.size:=b;omega),?_,q⟩;rw[j1];exact s.af T λP d b=>by have:=q P d;rcases b with rfl|rfl<;>omega
  ·have U:ai b3 d8:=i7.af
   have c5:=(e3 P (e4 d)).af Z λP d b=>(b2 P d).2 b;have e7:Row aJ 8 d8 D P.a P.n P.x.ev.aP:=c5.1.ah U;have e8:P.x.ev.Ok:=c5.2;refine⟨λ_=>False,id,_,_,_,ae (U.get u id) rfl,ar (lq P.x P.a P.n P.c) (U.get i3 id) (PC.ok (CF e7 λP d=>by have:=(b2 P d).1;have:=U.size;omega) ?_)⟩;rintro _ o5 ⟨f0,n2,f1,G2,rfl,j2,b6,b7⟩;have o6:=U.size;have o7:=b7.size;refine⟨_,_,_,_,_,_,_,_,_,_,_,_,_,_,_,rfl,b7,PA.mk λo8 b8 o9 j3=>⟨b8,?_⟩⟩;have a2:=(U.then b7).then b8;refine eY (c:=vB) (x:=P.x) (s.ah a2) QE j3 (D:=G2) ⟨f0,n2,f1,rfl,j2.ah b8,e8⟩ (λP d=>⟨by have:=b6 P d;omega,λb=>by have:=s.aB P (s.self P b);have:=b6 P d;omega⟩) (by rw[Q8,XZ,Qy];unfold aK;omega) (by rw[Q8,XZ,Qy];unfold maxLen;omega) λa' c' p0 F' f3 b9 j4=>⟨_,_,_,rfl,?_⟩
   have g:∀P,aF C=some P->wz.heap.size+2<=P:=λP d=>q P (s.self P d);have j5:¬aF C=some m.heap.size:=λb=>by have:=g _ b;omega
   have p1:=b9.size;have p2:=a2.size;have H:∀P,F' P->wz.heap.size+2<=P:=λP d=>by
    rcases j4 P d with h7|h7|h7
    ·exact q P h7
    ·have:=b6 P h7;omega
    ·omega
   refine PS.mk (b9.get (a2.get u id) j5) sM λj6 e5 p3 j7=>?_;have T:ak (λP=>aF C=some P\/P=m.heap.size) b3 j6:=((ai.af a2).then (b9.mono λP _ b=>.inl b)).then (e5.mono λP _ b=>.inr b);refine⟨T.mono λP _ d=>⟨?_,?_⟩,⟨(o.new (T.mono λP _ b=>b) λP d=>d.elim (λb=>.inr (by have:=g P b;omega)) .inl),oM,a',F+1,c',F',j7,?_,H,oM⟩⟩
   ·rcases d with d|rfl
    ·have:=g P d;omega
    ·omega
   ·rcases d with d|rfl
    ·have:=g P d;omega
    ·omega
   ·rw[c4,Zq oM,Q3]
    exact f3.af e5 λP d b=>by have b:P=m.heap.size:=b;have:=H P d;omega
 ·intro f4 Rx hR _ p4 hy w1 j8 f7
  refine Calls.mono (Ss (own:=own) (f:=i) (most:=most) (R:=f4) (Rx:=Rx .ret) (R1:=j.heap.size) (R2:=k.heap.size) Y a8 a9 oM oM ⟨_,_,y.size|>λ_=>g5⟩ oM h0 oM (hL.ah h) b2 p oM hR (λf R A M j9 t hN=>(hy () f R A M j9 t hN).mono ?_) j8 f7) ?_
  ·rintro P A' (I|⟨o,O,⟨rfl,x⟩,u⟩)
   ·exact .inl I
   ·exact .inr ⟨o,x,u⟩
  ·rintro b A' ⟨hv,I⟩
   refine⟨hv,?_⟩;rcases I with⟨o,z,x,u⟩|⟨o,x⟩
   ·exact .inl ⟨o,(),z,x,u⟩
   ·exact .inr ⟨.ret,[],⟨rfl,o⟩,x⟩
 ·rintro _ z A M c6 hm
  obtain⟨o,x,C,F,S,G,u,s,q,h6⟩:=M;have a1:=s.len dC;rw[c6,List.take_length]at s;rw[c6,List.take_length,Q8,XZ]at a1;have b4:=o.get K (λb=>by have b:j.heap.size=m.heap.size:=b;omega);have b5:=o.get L (λb=>by have b:k.heap.size=m.heap.size:=b;omega);refine⟨_,_,_,ae u rfl,PS.mk b4 sM λp5 a3 p6 k0=>PS.mk (a3.get b5 (λb=>by have b:k.heap.size=j.heap.size:=b;omega)) sM λp7 a4 p8 k1=>?_⟩;refine⟨a4.get (a3.get hm (λb=>by have b:wz.heap.size=j.heap.size:=b;omega)) (λb=>by have b:wz.heap.size=k.heap.size:=b;omega),λp9 t=>?_⟩;have a5:=t.1;have f9:=a5.get (a4.get k0 (λb=>by have b:j.heap.size=k.heap.size:=b;omega)) (λb=>by have b:j.heap.size=wz.heap.size:=b;omega);have h1:=a5.get k1 (λb=>by have b:k.heap.size=wz.heap.size:=b;omega);refine⟨_,_,_,ae f9 rfl,_,ae h1 rfl,Ok.mk ⟨_,?_,C,F,S,G,rfl,?_,?_,λP d=>by have:=q P d;have:=h.size;omega⟩⟩
  ·rw[Xv (by rw[XZ];omega)]
  ·rw[Qz (by rw[XZ];omega)]
   exact((s.af a3 λP d b=>by have b:P=j.heap.size:=b;have:=q P d;omega).af a4 λP d b=>by have b:P=k.heap.size:=b;have:=q P d;omega).af a5 λP d b=>by have b:P=wz.heap.size:=b;have:=q P d;omega
  ·refine(((h.new o λP d=>.inr (by have d:P=m.heap.size:=d;omega)).new a3 λP d=>.inr (by have d:P=j.heap.size:=d;omega)).new a4 λP d=>.inr (by have d:P=k.heap.size:=d;omega)).new a5 λP d=>.inr (by have d:P=wz.heap.size:=d;have:=h.size;omega)
 ·rintro f A ⟨-,hx⟩ hm
  refine⟨hm,λq0 t=>?_⟩;obtain⟨o,x,h2,C,F,S,G,u,s,q⟩:=hx.eg ⟨Y,d4,d5⟩ ⟨oM,oM⟩ t;refine⟨_,_,_,ae u rfl,_,ae x rfl,Ok.mk ⟨_,by rw[Zy h2],C,F,S,G,rfl,s,?_,λP d=>by have:=q P d;have:=h.size;omega⟩⟩;exact h.new o λP d=>.inr (by rcases d with d|d|d<;>omega)
end
def yQ(P:aM)(a:List aj)(b c n:Int):gE:=⟨0,(0,0),⟨0,[]⟩,(jS (cm P a).entries b c n 32).1,[],(jS (cm P a).entries b c n 32).2⟩
section
variable {w w' w0 w1 w2:World} {p:Nat} {F E D:XN} {cls:Nat->Nat} {h:jk} {c:bQ} {self:Int} {X:bh}
def Jn(s:bP w p F c self X)(t:aH N):ZG 54 #[XL p,XH e,XH r,XH N] w (Ok λu w'=>dQ w (yQ c.decl X.S.l e r N) u w'/\ai w w'):=by
 obtain⟨I,h,cls,j⟩:=s;refine lR (PA.mk λv a J x=>PC.ok (Bq (cx.ah j a)) ?_);rintro _ _ ⟨rfl,rfl⟩;have y:=cx.ah j a;have n:cO v h.bp (λP=>F P/\cls P=4) c.decl c.every.toNat X.S.l:=y.at' 4;have z:=(vA c.decl X.S.l n.1.2.2.2).1;refine⟨_,rfl,_,_,FM,PC.ok (Eg n) ?_⟩;rintro _ K ⟨L,M,O,G,rfl,k,b,Q⟩;refine⟨_,_,_,rfl,PC.ok (H_ (most:=32) (k.row dC ba) k.aB oM z t) ?_⟩;rintro _ A ⟨R,rfl,d,f,g,B,rfl,l,i,m⟩;have C:=l.aB;have S:=b.size;have T:=i.size;have U:(jS (cm c.decl X.S.l).entries e r N 32).1.length<=32:=by unfold jS;rw[Qy];omega
 have E:ai w A:=(a.then b).then i;refine⟨_,_,_,_,rfl,az (gP (yQ c.decl X.S.l e r N) none 0 0 d f g none 0 0) (i.get (b.get x id) id) rfl λV o W H=>ar (gP (yQ c.decl X.S.l e r N) none 0 0 d f g none 0 0) H (Ok.mk ⟨?_,E.new o λP n=>.inr (by have n:P=w.heap.size:=n;omega)⟩)⟩;refine⟨none,0,0,d,f,g,none,0,0,B,rfl,cT _ _,(l.af o λP n q=>by have q:P=w.heap.size:=q;have:=m P n;omega).row dC (by show(jS (cm c.decl X.S.l).entries e r N 32).1.length*120<=aK;unfold aK;omega),cT _ _,λP n=>⟨by have:=m P n;omega,by have:=C P n;omega⟩⟩
end
structure fI where
 kind:Int
 n:Int
 m:Int
 cmd:lO
structure fI.Ok (s:fI):Prop where
 kind:aH s.kind
 n:aH s.n
 m:aH s.m
 cmd:s.cmd.Ok
def mL(n:fI):List Value:=[XH n.kind,XH n.n,XH n.m]++gT n.cmd
abbrev iS(n:fI):Value:=.agg (mL n).toArray
structure dU where
 aD:List bh
 ei:List bS
 now:Int
def tQ:bS:=⟨0,0,0,[],[]⟩
def eH(P:List bS)(n:Int):Option bS:=if 0<=n then P[n.toNat]? else none
def gR(n:List bS)(P:Int):List bS:=if(eH n P).isSome then n.eraseIdx P.toNat else n
def GI(n P:List bS):List bS:=n++P.take (1024-n.length)
def eG(P:List bh)(n:Int):Option bh:=if 0<=n then P[n.toNat]? else none
def iL(a:bQ)(b:Int)(P:bh)(n:fI):gE×bh:=
 if n.kind=1 then(if(eI a b P n.cmd).1≠0 then bu (eI a b P n.cmd).1 else G_ (eI a b P n.cmd).2.1,(eI a b P n.cmd).2.2)else
 if n.kind=7 then(bu (vI a P n.m).1,(vI a P n.m).2)else
 if n.kind=8 then(bu (fL a P).1,(fL a P).2)else
 if n.kind=9 then(yQ a.decl P.S.l n.cmd.aS n.cmd.agg n.m,P)else
 if n.kind=10 then(Tq a.decl P.S.l n.cmd.aS n.cmd.agg,P)else
 if n.kind=11 then(zW a.decl P.S.l n.cmd.field n.m,P)else
 (bu 0,{P with D:=P.D.OL n.m})
def dU.put(n:dU)(P:Int)(a:bh)(b:List bS):dU:=⟨n.aD.set P.toNat a,GI n.ei b,n.now⟩
def j_(a:bQ)(P:dU):Option bS->gE×dU
 |none=>(bu 14,P)
 |some n=>match eG P.aD n.ns with
  |none=>(bu 1,P)
  |some b=>(bu (cg a n.ns b n).2.1,P.put n.ns (cg a n.ns b n).2.2 (cg a n.ns b n).1)
def tR(n:dU)(P:Nat):dU:=match n.aD[P]? with
 |none=>n
 |some a=>n.put P (pI P a n.now).2 (pI P a n.now).1
def GU(n:dU):dU:=(List.range n.aD.length).foldl tR ⟨n.aD,n.ei,n.now+1⟩
def cE(a:bQ)(P:dU)(n:fI):gE×dU:=
 if n.kind=3 then j_ a ⟨P.aD,gR P.ei n.n,P.now⟩ (eH P.ei n.n)else
 if n.kind=5 then j_ a P (eH P.ei n.n)else
 if n.kind=4 then(bu (if(eH P.ei n.n).isSome then 0 else 14),⟨P.aD,gR P.ei n.n,P.now⟩)else
 if n.kind=6 then(bu 0,GU P)else
 if n.kind<1\/12<n.kind then(bu 2,P)else
 match eG P.aD n.n with
 |none=>(bu 1,P)
 |some b=>
  if n.kind=2 then(if(eG P.aD n.m).isNone\/n.m=n.n then(bu 1,P)else(bu 0,P.put n.n (gS a n.n b n.m P.now).2 (gS a n.n b n.m P.now).1))
  else((iL a n.n b n).1,⟨P.aD.set n.n.toNat (iL a n.n b n).2,P.ei,P.now⟩)
def zR(n:bQ):Int×dU:=((cA n 0).1,⟨List.replicate n.aD.toNat (cA n 0).2,[],0⟩)
structure Fit (k:Nat) (R:bh):Prop where
 evs:R.S.l.length<=16777216+300*k
 asked:R.fK.asked.length<=k
def Fit.GO{n P:bh}(h:Fit a n)(b:iZ n P):Fit (a+1) P:=⟨by have:=h.evs;rcases b.evs with h|h<;>omega,by have:=h.asked;have:=b.asked;omega⟩
variable{l:Array Value}{b9:Int}{g1:List (Bx aj)}{b3:List bS}{d8:List bh}{b1:List cD}{f9:List dh}{c:Nat}{f:XN}{T X:Operand}{h:Program}{b8 v:Value}{M:Value->Prop}{b:World}{e6:bh}
def Fit.mono(n:Fit a e6):Fit (a+1) e6:=⟨by have:=n.evs;omega,by have:=n.asked;omega⟩
def Fit.tick(P:Fit a e6)(b n:Int):Fit a (pI b e6 n).2:=⟨P.evs,by unfold pI;dsimp only;rw[jr.OW];exact P.asked⟩
structure fJ (k:Nat) (X:dU):Prop where
 aD:∀R∈X.aD,Fit k R
 Ms:0<=X.now
 now:X.now<=k
section
variable {c:bQ} {X:dU} {k:Nat} {i:Int} {R R':bh} {s:fI} {ms:List bS} {f:List bS}
def CR{i:Nat}:eG d8 (i:Int)=d8[i]? :=by
 unfold eG;rw[Zx oM,Qx]
def ke(n:eG d8 i=some R):∃P:Nat,i=P/\d8[P]? =some R:=by
 unfold eG at n;split at n
 ·exact⟨i.toNat,oM,n⟩
 ·cases n
def Jh:eG d8 i=none↔i<0\/(d8.length:Int)<=i:=by
 unfold eG;split
 ·rw[List.getElem?_eq_none_iff];omega
 ·simp;omega
def JB{i:Int}(n:i<0\/(b3.length:Int)<=i):eH b3 i=none:=by
 unfold eH;split
 ·exact Q7 oM
 ·rfl
def fJ.mono(n:fJ k X):fJ (k+1) X:=⟨λR P=>(n.aD R P).mono,n.Ms,by have:=n.now;omega⟩
def fJ.ei(n:fJ k X):fJ k ⟨X.aD,f,X.now⟩:=⟨n.aD,n.Ms,n.now⟩
def fJ.put(n:fJ k X)(P:Fit (k+1) R'):fJ (k+1) (X.put a R' ms):=⟨λb c=>(List.mem_or_eq_of_mem_set c).elim (λd=>(n.aD b d).mono) λe=>e▸P,n.Ms,by have n:=n.now;show X.now<=_;omega⟩
def fJ.stay(n:fJ k X){j:Nat}(P:Fit k R'):fJ k (X.put j R' ms):=⟨λa b=>(List.mem_or_eq_of_mem_set b).elim (n.aD a) λc=>c▸P,n.Ms,n.now⟩
def Ey(n:eG X.aD i=some R):(⟨X.aD.set i.toNat R,X.ei,X.now⟩:dU)=X:=by
 obtain⟨b,rfl,P⟩:=ke n;obtain⟨c,a⟩:=Qv.1 P;rw[Qx,<-a,List.set_getElem_self]
def Jy(P:s.kind=9\/s.kind=10\/s.kind=11):(cE c X s).2=X:=by
 unfold cE;rw[Zq oM,Zq oM,Zq oM,Zq oM,Zq oM];split
 ·rfl
 ·rename_i R n
  rw[Zq oM];have:(iL c s.n R s).2=R:=by
   unfold iL;rw[Zq oM,Zq oM,Zq oM];split
   ·rfl
   split
   ·rfl
   rw[Zx oM]
  rw[this];exact Ey n
def Mw(a:0<=i)(b:i<max 1 (min c.aD 64)):(cA c i).1=(cA c 0).1/\(cA c i).2=(cA c 0).2:=by
 have:eT c i=eT c 0:=by
  unfold eT within
  by_cases d:1<=c.aD/\c.aD<=64
  ·have n:(decide (0<=i)&&decide (i<=c.aD-1))=true:=by simp;omega
   have P:(decide (0<=(0:Int))&&decide (0<=c.aD-1))=true:=by simp;omega
   rw[n,P]
  ·have n:(decide (1<=c.aD)&&decide (c.aD<=64))=false:=by simp;omega
   simp only[n,Bool.false_and]
 unfold cA;rw[this];exact⟨rfl,rfl⟩
def GW(P:(cA c i).1=0):1<=c.aD/\c.aD<=64/\cN c.decl=0/\eT c i=true:=by
 unfold cA at P;split at P
 ·contradiction
 rename_i a;split at P
 ·cases P
 ·rename_i n
  have n:eT c i=true:=by simpa using n
  have b:=n;unfold eT within at n;simp only[QK,Zk]at n;exact⟨oM,oM,Classical.not_not.1 a,b⟩
end
section
variable {w w' w0 w1:World} {p q:Nat} {F D E T:XN} {m:bS} {M:List bS} {va ea a:ZH} {vn vc en ec n c:Nat}
def yF(b:Row mC.jq 96 w D a n g1)(d:∀P,D P->P<w.heap.size):ZG 156 #[.slice a n c] w (Ok (px mC.jq 63 w g1)):=
 fY (vG sH dC b d λf w' e=>Ok.mk e)
def sd(H:Row aJ 8 w D va vn m.vec)(hD:∀n,D n->n<w.heap.size)(I:Row jo 96 w E ea en m.events)(T:∀n,E n->n<w.heap.size):
  ZG 96 #[gQ m va vn vc ea en ec] w (Ok λa2 w'=>∃p q J r s K G,a2=gQ m p q J r s K/\Row aJ 8 w' G p q m.vec/\Row jo 96 w' G r s m.events/\(∀n,G n->w.heap.size<=n/\n<w'.heap.size)/\ai w w'):=by
 obtain⟨f,U,l2,l3⟩:=eh.boxes (N:=mC) I;have b1:=H.dP;have b2:=H.len;have b3:=I.dP;have d0:=I.len;have d1:f.length=m.events.length:=by rw[<-U];simp
 refine yy (PA.mk λw1 V s1 W=>PA.mk λw2 x s2 g2=>⟨_,_,_,ae (x.get W id) rfl,PC.ok (bA (H.ah (V.then x)) λn B=>by have:=hD n B;omega) ?_⟩);rintro _ w3 ⟨j,k,l,L,rfl,X,y,z⟩;have a3:=X.aB;have z3:=y.size;refine⟨_,_,_,rfl,PS.mk (y.get (x.get W id) id) (by simp[dw]) λY M s4 Z=>⟨_,_,_,ae Z rfl,?_⟩⟩;have A:ai w Y:=((V.then x).then y).new M λn B=>.inr oM;refine PC.ok (yF (l2.ah A) λn B=>by have:=T n B;have:=A.size;omega) ?_;rintro _ w5 ⟨b,o,g,F5,rfl,C,t,b4⟩;have z5:=t.size;have i:∀n,aF b=some n->Y.heap.size<=n:=λn B=>b4 n (C.self n B);have a4:∀n,aF b=some n->n<w5.heap.size:=λn B=>C.aB n (C.self n B);refine⟨_,_,_,rfl,PS.mk (t.get Z id) (by simp[dw]) λu F s6 g6=>⟨_,_,_,ae g6 rfl,?_⟩⟩;have b5:ai w u:=(A.then t).new F λn B=>.inr oM;have b6:=F.get (t.get (M.get (y.get g2 id) oM) id) (show¬w1.heap.size=w.heap.size by omega);have b7:aO mC.jq 63 (λn=>aF b=some n) u b o g f:=C.alone.af F λn B P=>by have:=i n B;omega
 have a5:aO aJ 3 L u j k l m.vec:=((X.af M λn B P=>by have:=z n B;omega).ah t).af F λn B P=>by have:=z n B;omega
 refine⟨λmm a8 w'=>∃a:Nat,a8=a/\a<=o/\mm=o-a/\dq mC 63 u b o g f a w',⟨_,0,rfl,Qj _,rfl,dq.start b7⟩,?_⟩;rintro mm _ _ N ⟨a,rfl,hj,rfl,c⟩;have d2:=c.len;have O:ai w N:=b5.new c.af λn B=>.inr (by have:=i n B;have:=A.size;omega);have b8:¬aF b=some w.heap.size:=λP=>by have:=i _ P;omega
 have b9:¬aF b=some w1.heap.size:=λP=>by have:=i _ P;omega
 have g7:=c.af.get g6 b8;have c1:=c.af.get b6 b9;unfold aK at b3;refine an.dec (λd3=>λQ d8=>?_) (λd4=>?_)
 ·have d:ai N Q:=d8.af
  have a6:=c.ah d;obtain⟨e,rfl⟩:=c.some oM;have d5:=i e rfl;have c2:e<u.heap.size:=by have:=a4 e rfl;omega
  have R:f[a]? =some f[a]:=Qq oM;have v:=l3 f[a] (XY oM);generalize f[a]=bx at R v;have gx:=d.get g7 id;refine⟨λn=>n=e,by show w.heap.size≠e;omega,_,_,_,ae gx rfl,_,_,_,ae gx rfl,e,0,rfl,by omega,by omega,_,_,_,a6.cell rfl R (by show o*10<=aK;unfold aK;omega) 3 _ rfl,PC.ok (bA ((v.1.ah O).ah d) λn B=>by have:=T n B;have:=(O.then d).size;omega) ?_⟩;rintro _ w9 ⟨c0,n9,c9,G,rfl,a7,k9,hG⟩;refine⟨_,_,_,rfl,ai.af k9,e,0,rfl,oM,oM,?_⟩;have z7:=c.af.size;have z8:=d.size;refine(a6.ah k9).step (g:=e) rfl R (a7.row (bytes:=8) dC ?_) v.2 (λa0 hx=>⟨by have:=hG a0 hx;omega,a7.aB a0 hx⟩) c2 λd6 a9 c4 d7=>⟨c4.mono λn _ P=>(by simpa[aF]using P.symm),_,?_,a+1,aq oM,oM,rfl,a9⟩
  ·have:=v.1.dP;have h2:=v.1.len;rw[h2]at this;exact this
  ·omega
 ·obtain rfl:a=o:=oM
  obtain⟨Fd,S,c6⟩:=c.done;rw[U]at S;have z6:=c.af.size;have a1:aO aJ 3 L N j k l m.vec:=a5.af c.af λn B P=>by have:=i n P;have:=a3 n B;omega
  have b0:∀n,Fd n->w2.heap.size<=n:=λn B=>by
   rcases c6 n B with h|h
   ·have:=i n h;omega
   ·omega
  have c7:=S.aB;have c8:=a1.aB;refine ar (dV m j k l b a g) g7 (az (dV m j k l b a g) c1 rfl λQ d s8 g8=>ar (dV m j k l b a g) g8 (Ok.mk ⟨j,k,l,b,a,g,λn=>L n\/Fd n,rfl,?_,?_,?_,?_⟩))
  ·exact(((a1.af d λn B P=>by have P:n=w1.heap.size:=P;have:=z n B;omega).row dC (by rw[<-b2];exact b1)).mono λn B=>.inl B)
  ·exact(((show aO jo 63 Fd Q b a g m.events from S.af d λn B P=>by have P:n=w1.heap.size:=P;have:=b0 n B;omega).row dC ba).mono λn B=>.inr B)
  ·rintro n (B|B)
   ·have:=z n B;have:=c8 n B;omega
   ·have:=b0 n B;have:=c7 n B;omega
  ·exact O.new d λn B=>.inr (by have B:n=w1.heap.size:=B;omega)
def dz(w:World)(q:Nat)(F:XN)(M:List bS):Prop:=
 ∃(a:ZH) (n c:Nat) (b:List IK) (D:XN),w.heap[q]? =some (.cells #[.slice a n c] 124 (0,0))/\aO MT 127 (λP=>aF a=some P) w a n c b/\b.map (·.m)=M/\(∀P∈b,P.In w D)/\(∀P,D P->F P/\aF a≠some P/\P≠q)/\(∀P,aF a=some P->F P/\P≠q)/\F q/\(∀P,F P->P<w.heap.size)/\M.length<=1024
def dz.af(i:dz w q F M)(d:ak T w w')(e:∀P,F P->¬T P):dz w' q F M:=by
 obtain⟨a,n,c,j,D,k,l,m,o,f,g,h,p,r⟩:=i;exact⟨a,n,c,j,D,d.get k (e q h),l.af d λP b=>e P (g P b).1,m,λP b=>(o P b).af d λP b=>e P (f P b).1,f,g,h,λP b=>Qk (p P b) d.size,r⟩
def dz.ah(n:dz w q F M)(P:ai w w'):dz w' q F M:=n.af P λ_ _ n=>n
def dz.aB(b:dz w q F M):∀P,F P->P<w.heap.size:=by obtain⟨a,n,c,e,D,f,g,h,i,j,k,l,d,m⟩:=b;exact d
def dz.len(P:dz w q F M):M.length<=1024:=by obtain⟨a,n,c,d,D,e,f,g,h,i,j,k,l,b⟩:=P;exact b
def Js:ZG 26 #[] w (Ok λa w'=>∃q F,a= XL q/\dz w' q F []/\(∀n,F n->w.heap.size<=n)/\ai w w'):=
 EN (PA.mk λw1 b d c=>Ok.mk ⟨_,λn=>n=w.heap.size,rfl,⟨none,0,0,[],λ_=>False,c,(aO.nil w1).mono (λn P=>P.elim) (λn P=>(by cases P)),rfl,sM,λn P=>P.elim,λn P=>(by cases P),rfl,λn P=>oM,sM⟩,λn P=>oM,b⟩)
def Jp(P:dz w q F M):ZG 28 #[XL q] w (Ok λb w'=>b= XH (M.length:Int)/\w=w'):=by
 obtain⟨a,n,c,h,D,d,e,f,i,j,k,l,m,o⟩:=P;have g:=e.len dC;exact rO ⟨q,0,rfl,_,_,_,ae d rfl,Ok.mk ⟨by rw[g,<-f,Q8],rfl⟩⟩
def zO(w0:World)(n:Option bS)(a:Value)(w:World):Prop:=
 ∃va vn vc ea en ec G,a= .tuple #[gQ (n.getD tQ) va vn vc ea en ec,.bool n.isSome]/\Row aJ 8 w G va vn (n.getD tQ).vec/\Row jo 96 w G ea en (n.getD tQ).events/\(∀P,G P->w0.heap.size<=P/\P<w.heap.size)
def wZ(J:dz w q F M):ZG 63 #[XL q,XH e] w (Ok λi w'=>zO w (eH M e) i w'/\ai w w'):=by
 obtain⟨a,n,c,K,D,u,v,x,L,y,h6,h7,z,h9⟩:=J;have hn:=v.len dC;have a0:K.length=M.length:=by rw[<-x,Q8]
 refine pW (PA.mk λw1 g s1 A=>?_);have d:(e<0\/(M.length:Int)<=e)->nq XP 127 (XL w.heap.size) (gQ tQ none 0 0 none 0 0) w1 λj=>iK XP 127 (XL w.heap.size) j λN=>Ok (λi w'=>zO w (eH M e) i w'/\ai w w') (.returned (.tuple #[N,.bool false])) j:=λO=>
  az (dV tQ none 0 0 none 0 0) A rfl λj Q s4 R=>ar (dV tQ none 0 0 none 0 0) R (Ok.mk ⟨by rw[JB O];exact⟨none,0,0,none,0,0,λ_=>False,rfl,cT _ _,cT _ _,λP b=>b.elim⟩,g.new Q λP b=>.inr (by have b:P=w.heap.size:=b;omega)⟩)
 refine an.dec (λB=>d (.inl B)) (λa1=>⟨q,0,rfl,_,_,_,ae (g.get u id) rfl,an.dec (λa2=>d (.inr oM)) (λB=>⟨q,0,rfl,_,_,_,ae (g.get u id) rfl,?_⟩)⟩);obtain⟨h,rfl⟩:∃h:Nat,e=h:=⟨e.toNat,oM⟩
 obtain⟨P,S,f,es,rfl,b,-,C,T,rfl,-⟩:=((v.ah g).row (bytes:=72) dC ba).yP (i:=h) oM;have E:=L f (QZ C);have U:eH M (h:Int)=some f.m:=by
  unfold eH;rw[Zx oM,Qx,<-x,Q9,C];rfl
 refine⟨P,S,rfl,oM,oM,bw (es:=dw f.m f.va f.vn f.vc f.ea f.en f.ec) (k:=5) (dV _ _ _ _ _ _ _) rfl (λV W=>by rw[Qx];exact T V W) (PC.ok (sd (E.1.ah g) (λP b=>by have:=z P (y P b).1;omega) (E.2.ah g) λP b=>by have:=z P (y P b).1;omega) ?_)⟩;rintro _ w2 ⟨k,l,m,o,p,r,G,rfl,X,Y,s,H⟩;refine bO (CQ _ _ _ _ _ _ _) ⟨rfl,az (dV _ _ _ _ _ _ _) (H.get A id) rfl λw3 t s3 Z=>ar (dV _ _ _ _ _ _ _) Z (Ok.mk ⟨?_,(g.then H).new t λP b=>.inr (by have b:P=w.heap.size:=b;omega)⟩)⟩;have I:∀P,G P->¬P=w.heap.size:=λP b=>by have:=s P b;omega
 rw[U];exact⟨k,l,m,o,p,r,G,rfl,X.af t I,Y.af t I,λP b=>⟨by have:=s P b;omega,by have:=s P b;omega⟩⟩
def GP(z:dz w q F M)(hi:aH e):ZG 62 #[XL q,XH e] w (Ok λr w'=>zO w (eH M e) r w'/\dz w' q F (gR M e)/\ak F w w'):=by
 have m:=z.aB;refine pU (PA.mk λw1 A s1 U=>PC.ok (wZ (z.ah A)) ?_);rintro _ i ⟨⟨va,vn,vc,ea,en,ec,G,rfl,K,L,j⟩,v⟩;have z2:=v.size;have V:=(z.ah A).ah v;obtain⟨x,f⟩:∃x,eH M e=x:=⟨_,rfl⟩
 rw[f]at K L⊢;refine bO (CQ _ _ _ _ _ _ _) ⟨_,rfl,PA.mk λw3 o s3 W=>az (dV _ _ _ _ _ _ _) W rfl λs t s4 X=>?_⟩;have Y:ai w s:=((A.then v).then o).new t λP b=>.inr (by have b:P=i.heap.size:=b;omega);have N:dz s q F M:=(V.ah o).af t λP b d=>by have d:P=i.heap.size:=d;have:=m P b;omega
 have Z:=t.get (o.get (v.get U id) id) (show¬w.heap.size=i.heap.size by omega);have a8:∀P,G P->w1.heap.size<=P/\P<i.heap.size:=j;have a1:=(K.ah o).af t λP b d=>by have d:P=i.heap.size:=d;have:=j P b;omega
 have a2:=(L.ah o).af t λP b d=>by have d:P=i.heap.size:=d;have:=j P b;omega
 have k:∀{p:World} {B:List bS},ak (λP=>F P) s p->dz p q F B->gR M e=B->iK XP 127 (XL i.heap.size) p λa0=>nq XP 127 (XL w.heap.size) a0 p λu=>iK XP 127 (XL w.heap.size) u λa3=>Ok (λr w'=>zO w x r w'/\dz w' q F (gR M e)/\ak F w w') (.returned (.tuple #[a3,.bool x.isSome])) u:=λ{p B} g hf hM=>by
  have n1:¬F i.heap.size:=λd=>by have:=m _ d;omega
  have n2:¬F w.heap.size:=λd=>by have:=m _ d;omega
  refine ar (dV _ _ _ _ _ _ _) (g.get X n1) (az (dV _ _ _ _ _ _ _) (g.get Z n2) rfl λu l s6 C=>ar (dV _ _ _ _ _ _ _) C (Ok.mk ⟨?_,?_,?_⟩))
  ·have z5:=g.size;have z3:=o.size
   exact⟨va,vn,vc,ea,en,ec,G,rfl,(a1.af g λP b d=>by have:=j P b;have:=m P d;omega).af l λP b d=>by have d:P=w.heap.size:=d;have:=j P b;omega,(a2.af g λP b d=>by have:=j P b;have:=m P d;omega).af l λP b d=>by have d:P=w.heap.size:=d;have:=j P b;omega,λP b=>by have:=j P b;constructor<;>omega⟩
  ·rw[hM]
   exact hf.af l λP b d=>by have d:P=w.heap.size:=d;have:=m P b;omega
  ·exact((ai.af Y).then g).new l λP b=>.inr (by have b:P=w.heap.size:=b;omega)
 refine an.mk (λE=>?_) (λE=>k (ak.refl _) N (by unfold gR;rw[f,E];rfl));obtain⟨m0,rfl⟩:=Option.isSome_iff_exists.1 E;have a4:0<=e:=by
  unfold eH at f;split at f
  ·assumption
  ·cases f
 unfold eH at f;rw[Zx a4]at f;obtain⟨h,rfl⟩:∃h:Nat,e=h:=⟨e.toNat,oM⟩
 rw[Qx]at f;obtain⟨a9,b0⟩:=Qv.1 f;have a5:eH M (h:Int)=some m0:=by unfold eH;rw[Zx oM,Qx];exact f
 have a6:gR M (h:Int)=M.eraseIdx h:=by unfold gR;rw[a5];rfl
 obtain⟨a,n,c,H,D,O,Q,R,f4,I,y,S,f8,f9⟩:=N;have hn:=Q.len dC;have b1:H.length=M.length:=by rw[<-R,Q8]
 refine⟨q,0,rfl,_,_,_,ae O rfl,PC.ok (iv (Ej.one (c:=MT) (tz:=0) Dg kR Q (show h<n by omega) (by unfold maxLen;omega) (R:=Ok λr w'=>r= .slice a (n-1) c/\aO MT 127 (λP=>aF a=some P) w' a (n-1) c (H.eraseIdx h)/\ak (λP=>aF a=some P) s w') λw' J hk=>Ok.mk ⟨rfl,J,hk⟩)) ?_⟩;rintro _ p ⟨rfl,a7,g⟩;refine⟨_,_,_,rfl,q,0,rfl,PS.mk (g.get O λd=>(y q d).2 rfl) sM λu l s6 C=>?_⟩;have T:ak (λP=>F P) s u:=(g.mono λP _ b=>(y P b).1).then (l.mono λP _ b=>by have b:P=q:=b;rw[b];exact S);refine k T ⟨a,n-1,c,H.eraseIdx h,D,C,a7.af l λP b d=>(y P b).2 d,?_,λP b=>((f4 P ((List.eraseIdx_sublist ..).subset b)).af g λP b=>(I P b).2.1).af l λP b d=>(I P b).2.2 d,I,y,S,λP b=>by have:=f8 P b;have:=T.size;omega,?_⟩ a6
 ·rw[<-R,map_eraseIdx]
 ·have:=List.length_eraseIdx_le (l:=M) (i:=h);omega
def GJ(e:dz w q F M){j lc:Nat}{R:List IK}(S:aO MT 127 (λP=>aF d=some P) w d j lc R)(a0:R.map (·.m)=b3)(a8:∀P∈R,P.In w f)(T:∀P,f P->P<w.heap.size/\¬F P)(a9:∀P,aF d=some P->¬F P)(c9:j<=1000000):
  ZG 64 #[XL q,.slice d j lc] w (Ok λa1 w'=>∃(a2:Int) (F':XN),a1= XH a2/\dz w' q F' (GI M b3)/\bL F w F' w'):=by
 have hM:=e.len;have d0:=e.aB;have b0:=S.len dC;have d1:=S.jX;have d2:b3.length=j:=by rw[b0,<-a0,Q8]
 obtain⟨d3,s,d5,L0,D0,f1,f2,f3,f4,f5,f6,f7,f8,f9⟩:=id e;have b1:=f2.len dC;have b2:s=M.length:=by rw[b1,<-f3,Q8]
 have a3:IntKind.wrap .i64 (1024-((s:Nat):Int))=((1024-s:Nat):Int):=by rw[wrap_i64 bc];omega
 have a7:(if(IntKind.wrap .i64 (1024-((s:Nat):Int)))<((j:Nat):Int)then(IntKind.wrap .i64 (1024-((s:Nat):Int)))else((j:Nat):Int))=((min (1024-s) j:Nat):Int):=by rw[a3];split<;>omega
 obtain⟨x,hr⟩:∃x,min (1024-s) j=x:=⟨_,rfl⟩
 have b4:M++b3.take x=GI M b3:=by
  unfold GI;rw[<-hr,<-b2];rcases Nat.le_total (1024-s) j with u|u
  ·rw[X2 u]
  ·rw[Nat.min_eq_right u,Qz oM,Qz oM]
 rw[hr]at a7;refine pX ⟨q,0,rfl,_,_,_,ae f1 rfl,?_⟩;refine⟨oM,oM,λmm U w'=>∃(i:Nat) (t:XN),U=i/\i<=x/\mm=x-i/\dz w' q t (M++b3.take i)/\bL F w t w',⟨_,0,F,rfl,Qj _,rfl,by simpa using e,bL.refl _ _⟩,?_⟩;rintro mm _ _ w1 ⟨i,t,rfl,hj,rfl,u,y⟩;have d6:=u.aB;have z1:=y.af.size;have d7:∀P,P<w.heap.size->¬F P->¬t P:=λP b hf b5=>(y.new P b5).elim hf λe=>by omega
 refine an.dec (λd8=>?_) (λd9=>Ok.mk ⟨_,t,rfl,by rw[<-b4,show x=i by omega];exact u,y⟩);have b6:=S.af y.af λP b=>a9 P b;obtain⟨P,b7,h,es,rfl,b,-,hx,hc,rfl,-⟩:=(b6.row (bytes:=72) dC ba).yP (i:=i) oM;have b8:=(a8 h (QZ hx)).af y.af λP b=>(T P b).2;refine⟨P,b7,rfl,oM,oM,bw (es:=dw h.m h.va h.vn h.vc h.ea h.en h.ec) (k:=5) (dV _ _ _ _ _ _ _) rfl (λU ht=>by rw[Qx];exact hc U ht) (PA.mk λw2 k2 s2 g2=>az (dV _ _ _ _ _ _ _) g2 rfl λw3 k3 s3 g3=>?_)⟩;have I:ai w1 w3:=k2.new k3 λP b=>.inr (by have b:P=w1.heap.size:=b;omega);have h3:=u.ah I;intro J d4;have C:ai w3 J:=d4.af;have h4:=h3.ah C;obtain⟨a,n,c,V,D,e1,e2,e3,e4,z,A,K,B,e9⟩:=h4;have hn:=e2.len dC;have e0:V.length=M.length+i:=by
  have:=Zj List.length e3;rw[Q8,QX,Qy]at this;omega
 have z4:=(I.then C).size;have a4:h.In J f:=(b8.af I λ_ _ e=>e).af C λ_ _ e=>e;refine⟨λ_=>False,q,0,rfl,id,_,_,_,ae e1 rfl,ar (dV _ _ _ _ _ _ _) (C.get g3 id) (PC.ok (sd a4.1 (λP b=>by have:=(T P b).1;omega) a4.2 λP b=>by have:=(T P b).1;omega) ?_)⟩;rintro _ w5 ⟨k,l,m,o,p,r,G,rfl,b9,c0,E,W⟩;refine⟨_,_,_,_,_,_,_,_,_,rfl,ai.af W,PA.mk λX Y s6 g6=>⟨ai.af Y,?_⟩⟩;have L:ai J X:=W.then Y;have z5:=W.size;refine eY (c:=MT) (x:=⟨h.m,k,l,m,o,p,r⟩) (D:=λ_=>False) (e2.ah L) Dg g6 ⟨rfl,trivial⟩ (λP b=>b.elim) ba (by unfold maxLen;omega) λv c7 w7 F7 N H c1=>⟨_,_,_,rfl,q,0,rfl,PS.mk (H.get (L.get e1 id) λg=>(A q g).2 rfl) sM λZ O s8 g8=>?_⟩
 have Q:∀P,aF v=some P->aF a=some P\/X.heap.size<=P:=λP b=>(c1 P (N.self P b)).imp id λe=>e.resolve_left id;have z7:=H.size;have c2:ak t w1 Z:=(((ai.af ((I.then C).then L):ak t w1 X)).then (H.mono λP _ b=>(A P b).1)).then (O.mono λP _ b=>by have b:P=q:=b;rw[b];exact K);have a5:aF v≠some q:=λg=>(Q q g).elim (λe=>(A q e).2 rfl) λe=>by have:=B q K;omega
 have c3:∀P,D P->aF v≠some P:=λP b g=>(Q P g).elim (z P b).2.1 λe=>by have:=B P (z P b).1;omega
 have c4:∀P,G P->aF v≠some P:=λP b g=>(Q P g).elim (λe=>by have:=B P (A P e).1;have:=E P b;omega) λe=>by have:=E P b;omega
 have a6:∀P,G P->P≠q:=λP b g=>by have:=E P b;have:=B q K;omega
 have c5:∀P,G P->aF a≠some P:=λP b g=>by have:=B P (A P g).1;have:=E P b;omega
 have c6:aO MT 127 (λP=>aF v=some P) Z v (n+1) c7 (V++[⟨h.m,k,l,m,o,p,r⟩]):=N.alone.af O λP b g=>by have g:P=q:=g;exact a5 (g▸b)
 refine⟨_,oM,i+1,λP=>t P\/(J.heap.size<=P/\P<Z.heap.size),aq oM,oM,rfl,⟨v,n+1,c7,V++[⟨h.m,k,l,m,o,p,r⟩],λP=>D P\/G P,g8,c6,?_,?_,?_,?_,.inl K,?_,?_⟩,y.trans ⟨c2,λP b=>b.imp id λe=>oM⟩⟩
 ·have c8:b3[i]? =some h.m:=by rw[<-a0,Q9,hx];rfl
  rw[Q3,e3,Qw,c8,XQ];rfl
 ·intro P b
  rcases Q6.1 b with b|b
  ·exact((((e4 P b).af L λ_ _ e=>e).af H λP b=>(z P b).2.1).af O λP b g=>(z P b).2.2 g).mono λP b=>.inl b
  ·simp at b;subst b
   exact((((show IK.In w5 G ⟨h.m,k,l,m,o,p,r⟩from⟨b9,c0⟩).af Y λ_ _ e=>e).af H λP b=>c5 P b).af O λP b g=>a6 P b g).mono λP b=>.inr b
 ·rintro P (b|b)
  ·exact⟨.inl (z P b).1,c3 P b,(z P b).2.2⟩
  ·exact⟨.inr (by have:=E P b;omega),c4 P b,a6 P b⟩
 ·intro P b
  refine⟨(Q P b).elim (λe=>.inl (A P e).1) λe=>.inr ⟨oM,by have:=N.aB P (N.self P b);omega⟩,λg=>a5 (g▸b)⟩
 ·rintro P (b|b)
  ·have:=B P b;omega
  ·exact b.2
 ·rw[QX,Qy];omega
end
def Vv:jt Nat:=flat 1 (λP=>[Value.pointer (XM P)]) (λ_=>True) (λ_=>rfl) (λa b n=>by simp at n;subst n;rfl)
def VL:jF XP 68 64 Vv.k 8:=⟨kR,kR,dC⟩
def Jc(n:fI):gM XP 40 (mL n)=true:=kR
structure Jd where
 q:Nat
 a:ZH
 n:Nat
 cc:Nat
 ps:List Nat
def iy(P a:World->(XN)->Prop)(b:bQ)(c:List (Nat×bh)):Nat->World->(XN)->Prop
 |0=>P
 |1=>a
 |k+2=>λd G=>∀n,c[k]? =some n->bP d n.1 G b k n.2
def Kept(n:World->(XN)->Prop):Prop:=∀P a G b,n P G->ak b P a->(∀c,G c->¬b c)->n a G
def Eu(a:Nat)(n:Jd)(b:Int)(c:World)(G:XN):Prop:=G a/\c.heap[a]? =some (.cells #[.slice n.a n.n n.cc,XL n.q,XH b] 82 (0,0))/\aO Vv 64 (λP=>aF n.a=some P) c n.a n.n n.cc n.ps/\∀P,aF n.a=some P->G P/\P≠a
abbrev cF(n:World)(c:XN)(P:Nat->Nat)(d:Nat)(b:Jd)(a:Int)(e:bQ)(f:List (Nat×bh))(g:List bS):Prop:=aT n c P (iy (Eu d b a) (λn G=>dz n b.q G g) e f)
section
variable {w w' w0 w1 w2:World} {p i:Nat} {F G G' T:XN} {cls:Nat->Nat} {h:Jd} {c:bQ} {X:dU} {now:Int} {rs:List (Nat×bh)} {ei fly' ms:List bS} {x:Nat×bh} {R':bh} {v:Value} {C0 C1 D0 D1:World->(XN)->Prop}
def Je(b:Kept C0)(d:Kept C1):ll (iy C0 C1 c rs):=by
 intro k w w' G T n P a
 match k,n with
 |0,n=>exact b _ _ _ _ n P a
 |1,n=>exact d _ _ _ _ n P a
 |k+2,n=>exact λx e=>(n x e).af P a
def Mq:Kept (Eu p h now):=λw w' G T n P a=>⟨n.1,P.get n.2.1 (a p n.1),n.2.2.1.af P λb c=>a b (n.2.2.2 b c).1,n.2.2.2⟩
def eP:ll (iy (Eu p h now) (λw G=>dz w h.q G ei) c rs):=Je Mq λw w' G T n P a=>dz.af n P a
def CN(j:aT w F cls (iy C0 C1 c rs))(l:ll (iy C0 C1 c rs))(m:rs[i]? =some x)(e:bP w' x.1 G' c i R')(o:bL (λn=>F n/\cls n=i+2) w G' w'):
  ∃a P,aT w' a P (iy C0 C1 c (rs.set i (x.1,R')))/\bL F w a w'/\(λn=>a n/\P n=1)=(λn=>F n/\cls n=1)/\(λn=>a n/\P n=0)=(λn=>F n/\cls n=0)/\∀n,a n->(F n/\cls n≠i+2)\/G' n:=by
 obtain⟨a,P,p,q,r,f,-⟩:=aT.gC j l o e.aB (C2:=iy C0 C1 c (rs.set i (x.1,R'))) (λg b=>by
  rw[List.getElem?_set_self (Qv.1 m).1]at b
  injection b with b;subst b;exact e) λs G h d=>by
  match s,h,d with
  |0,_,d=>exact d
  |1,_,d=>exact d
  |k+2,h,d=>exact λg b=>d g (by rw[List.getElem?_set_ne oM]at b;exact b)
 exact⟨a,P,p,q,f 1 oM,f 0 oM,r⟩
def Mr(d:aT w F cls (iy C0 C1 c rs))(e:ll (iy C0 C1 c rs))(f:D1 w' G')(g:∀P,G' P->P<w'.heap.size)(h:bL (λP=>F P/\cls P=1) w G' w'):
  ∃a n,aT w' a n (iy C0 D1 c rs)/\bL F w a w'/\(λP=>a P/\n P=0)=(λP=>F P/\cls P=0)/\(λP=>a P/\n P=1)=G':=by
 obtain⟨a,n,i,j,-,l,m⟩:=aT.gC d e h g (C2:=iy C0 D1 c rs) f λo G p b=>by
  match o,p,b with
  |0,_,b=>exact b
  |k+2,_,b=>exact b
 exact⟨a,n,i,j,l 0 oM,m⟩
def Jf(b:aT w F cls (iy C0 C1 c rs))(d:ll (iy C0 C1 c rs))(a:ak (λn=>F n/\cls n=0) w w')(e:D0 w' λn=>F n/\cls n=0):aT w' F cls (iy D0 C1 c rs)/\bL F w F w':=by
 refine⟨aT.same b d a e λf G g P=>?_,a.mono λn _ h=>h.1,λn i=>.inl i⟩
 match f,g,P with
 |1,_,P=>exact P
 |k+2,_,P=>exact P
def cF.ah(n:cF w F cls p h now c rs ei)(P:ai w w'):cF w' F cls p h now c rs ei:=aT.ah n eP P
def cF.c0(P:cF w F cls p h now c rs ei):Eu p h now w (λn=>F n/\cls n=0):=P.at' 0
def cF.cell(n:cF w F cls p h now c rs ei):w.heap[p]? =some (.cells #[.slice h.a h.n h.cc,XL h.q,XH now] 82 (0,0)):=n.c0.2.1
def cF.mu(n:cF w F cls p h now c rs ei):aO Vv 64 (λP=>aF h.a=some P) w h.a h.n h.cc h.ps:=n.c0.2.2.1
def cF.UB(P:cF w F cls p h now c rs ei):dz w h.q (λn=>F n/\cls n=1) ei:=P.at' 1
def cF.rep(P:aT w F cls (iy C0 C1 c rs))(a:rs[i]? =some x):bP w x.1 (λn=>F n/\cls n=i+2) c i x.2:=P.at' (i+2) x a
def cF.gD(d:cF w F cls p h now c rs ei)(a:dz w' h.q G' fly')(e:bL (λb=>F b/\cls b=1) w G' w'):∃P n,cF w' P n p h now c rs fly'/\bL F w P w':=by
 obtain⟨P,n,f,g,-⟩:=Mr (D1:=λw G=>dz w h.q G fly') d eP a a.aB e;exact⟨P,n,f,g⟩
def cF.VM(b:cF w F cls p h now c rs ei){now':Int}(d:ak (·=p) w w')(e:w'.heap[p]? =some (.cells #[.slice h.a h.n h.cc,XL h.q,XH now'] 82 (0,0))):cF w' F cls p h now' c rs ei/\bL F w F w':=by
 have n:=b.c0;exact Jf (D0:=Eu p h now') b eP (d.mono λP _ a=>by have a:P=p:=a;rw[a];exact n.1) ⟨n.1,e,n.2.2.1.af d λP f=>(n.2.2.2 P f).2,n.2.2.2⟩
def bY(w0 w:World)(p:Nat)(F:XN)(c:bQ)(X:dU):Prop:=
 ∃h cls rs,cF w F cls p h X.now c rs X.ei/\h.ps=rs.map (·.1)/\X.aD=rs.map (·.2)/\rs.length=c.aD.toNat/\iY c 0/\Env w0 w F
def bY.ah(P:bY w0 w p F c X)(n:ai w w'):bY w0 w' p F c X:=by
 obtain⟨h,cls,rs,a,b,d,e,f,g⟩:=P;exact⟨h,cls,rs,a.ah n,b,d,e,f,g.ah n⟩
def bY.af(b:bY w0 w p F c X)(a:ak T w w')(d:∀n,F n->¬T n)(e:∀n,T n->w0.heap.size<=n):bY w0 w' p F c X:=by
 obtain⟨h,cls,rs,f,g,i,j,k,P⟩:=b;exact⟨h,cls,rs,aT.af f eP a d,g,i,j,k,⟨P.oL,P.laid,P.gr.new a λn l=>.inr (e n l),P.aB⟩⟩
def bY.aB(P:bY w0 w p F c X):∀n,F n->n<w.heap.size:=by
 obtain⟨h,cls,rs,a,-⟩:=P;exact a.aB
def bY.env(n:bY w0 w p F c X):Env w0 w F:=by
 obtain⟨h,cls,rs,a,b,d,e,f,P⟩:=n;exact P
def bY.len(n:bY w0 w p F c X):X.aD.length=c.aD.toNat/\1<=c.aD/\c.aD<=64/\X.ei.length<=1024:=by
 obtain⟨h,cls,rs,P,e,a,b,d,f⟩:=n;obtain⟨g,i,j⟩:=d.aD;exact⟨by rw[a,Q8];exact b,oM,oM,P.UB.len⟩
def ju(w0:World)(f:XN)(x:gE)(v:Value)(w:World):Prop:=∃(P:ZH) (a g:Nat) (b:ZH) (c h:Nat) (d:ZH) (e i:Nat) (G:XN),v= .agg (fk x P a g b c h d e i).toArray/\
 Row et 32 w G P a x.st.cells/\Row vB 120 w G b c x.Jg/\Row Gh 24 w G d e x.rows/\∀n,G n->w0.heap.size<=n/\n<w.heap.size/\¬f n
def Lh(a:World->(XN)->dU->Prop)(w:World)(F:XN)(b:Nat)(n:gE×dU)(v:Value)(w':World):Prop:=∃P,ju w P n.1 v w'/\a w' P n.2/\fJ b n.2/\bL F w P w'
abbrev iq(w0 w:World)(p:Nat)(F:XN)(c:bQ)(n:Nat)(P:gE×dU)(v:Value)(w':World):Prop:=Lh (λw F X=>bY w0 w p F c X) w F n P v w'
def OD(P:World->(XN)->dU->Prop)(a:Nat):Prop:=∀w w' F T X,P w F X->ak T w w'->(∀n,F n->¬T n)->(∀n,T n->a<=n)->P w' F X
def CO:OD (λw F X=>bY w0 w p F c X) w0.heap.size:=λ_ _ _ _ _ h n P a=>h.af n P a
def Env.part(n:Env w0 w F):Env w0 w (λP=>F P/\cls P=a):=⟨n.oL,n.laid,n.gr,λP b=>n.aB P b.1⟩
def zK(f:cF w F cls p h now c rs ei)(t:rs[i]? =some x)(u:bP w1 x.1 G' c i R')(y:bL (λn=>F n/\cls n=i+2) w G' w1)(z:eZ w G' ms v w1)(L:ms.length<=10000):
  ZG 64 #[XL h.q,v] w1 (Ok λv w'=>∃(e:Int) (d:XN) (P:Nat->Nat),v= XH e/\cF w' d P p h now c (rs.set i (x.1,R')) (GI ei ms)/\bL F w d w'/\ak (λn=>F n/\cls n=1) w1 w'):=by
 obtain⟨g,j,k,A,l,-⟩:=CN f eP t u y;obtain⟨M,N,O,B,D,rfl,m,o,C,q,E⟩:=z;have b:=cF.UB k;have H:=f.aB;have r:∀n,(g n/\j n=1)->n<w.heap.size:=λn a=>by
  have a:(λn=>g n/\j n=1) n:=a;rw[l]at a;exact H n a.1
 have Q:=m.len dC;have R:B.length=ms.length:=by rw[<-o,Q8]
 refine Calls.ok (GJ b m o C (λn a=>⟨(q n a).2.1,λb=>by have:=r n b;have:=(q n a).1;omega⟩) (λn a b=>by have:=r n b;have:=(E n a).1;omega) oM) ?_;rintro _ w2 ⟨e,S,rfl,I,s⟩;obtain⟨d,P,J,K⟩:=cF.gD k I s;exact⟨e,d,P,rfl,J,A.trans K,by rw[<-l];exact s.af⟩
end
def TJ:(do eqGuard .neq 46 T X (.agg #[XH e,XH r]) (.agg #[XH N,XH b9]);binOp .neq 46 (.agg #[XH e,XH r]) (.agg #[XH N,XH b9]):Sem Value).run XP b= .ok (.bool (!(e==N&&r==b9))) b:=by
 have n:=Fe (x:=T) (y:=X) (a:=e) (b:=r) (c:=N) (d:=b9) (w:=b);rw[Sem.run_bind,run_eqGuard_agg b .eql _ T X _ _ kR,Result.andThen_ok,run_eql_struct]at n;rw[Sem.run_bind,run_eqGuard_agg b .neq _ T X _ _ kR,Result.andThen_ok,run_neq_struct];generalize(Op.equalIn 10000 46 (.agg #[XH e,XH r]) (.agg #[XH N,XH b9])).run XP b=P at n⊢
 cases P with
 |ok a c=>simp only[Result.andThen_ok,Result.ok.injEq,Value.bool.injEq]at n⊢;obtain⟨rfl,rfl⟩:=n;exact⟨rfl,rfl⟩
 |_=>simp[Result.andThen]at n
def TK(P:dh)(a:World):(do eqGuard .neq 135 T X (.agg (aY P).toArray) (.agg (aY P).toArray);binOp .neq 135 (.agg (aY P).toArray) (.agg (aY P).toArray):Sem Value).run XP a= .ok (.bool false) a:=by
 have d:Tryz.prog.underlying 135=some (.struct (Tryz.prog.fieldsOf 135)):=kR
 have b:Tryz.prog.underlying 3=some (.int .i64):=kR
 have n:(Tryz.prog.fieldsOf 135).toList.map (λc=>(c.name,c.type,c.offset))=[("Group",3,0),("Value",3,1),("Count",3,2)]:=kR
 rw[Sem.run_bind,run_eqGuard_agg a .neq _ T X _ _ kR,Result.andThen_ok,run_neq_struct,run_equalIn_struct a 9999 _ _ _ d kR];generalize(Tryz.prog.fieldsOf 135).toList=e at n
 match e,n with
 |[c,t,u],n=>
  simp only[QY,List.map_nil,List.cons.injEq,Prod.mk.injEq,and_true]at n;obtain⟨⟨f,g,h⟩,⟨i,j,k⟩,l,m,o⟩:=n;have p:(isAgg 3).run XP a= .ok false a:=cI _ _ _ kR ⟨_,b⟩ a;have q:=run_equalIn_int (P:=XP) a 9998 3 .i64 .i64 P.group P.group b;have r:=run_equalIn_int (P:=XP) a 9998 3 .i64 .i64 P.value P.value b;have s:=run_equalIn_int (P:=XP) a 9998 3 .i64 .i64 P.count P.count b;unfold Op.eqFields Op.eqFields Op.eqFields Op.eqFields;rw[f,g,h,i,j,k,l,m,o];simp[part,p,q,r,s,aY]
 |[],n=>simp at n
 |[_],n=>simp at n
 |[_,_],n=>simp at n
 |_::_::_::_::_,n=>simp at n
section
variable {w w':World} {D E:XN} {a b:ZH} {n m c d:Nat}
def Cu(f:Row et 32 w D a n b1)(h:Row et 32 w E b m b1):ZG 65 #[.slice a n c,.slice b m d] w (Ok λu w'=>u= .bool true/\ai w w'):=by
 have F:=f.len;have H:=h.len;have v:=f.dP;unfold aK at v;refine yq (an.dF (λe=>Zz oM e) (λ_=>?_));refine⟨λj i w'=>∃P:Nat,i=P/\P<=n/\j=n-P/\ai w w',⟨_,0,rfl,Qj _,rfl,ak.refl w⟩,?_⟩;rintro j i _ I ⟨P,rfl,J,rfl,k⟩;refine an.dec (λK x y=>?_) (λ_=>Ok.mk ⟨rfl,k⟩);have g:ai w x:=k.then y.af;obtain⟨l,o,L,M,rfl,_,_,z,p,N,O,Q,rfl,A,_⟩:=(f.ah g).yP (i:=P) oM;obtain⟨q,r,R,S,rfl,_,_,s,t,T,U,V,rfl,B,_⟩:=(h.ah g).yP (i:=P) oM;rw[z]at s;cases s
 refine⟨l,o,rfl,oM,oM,_,p 0 dC,q,r,rfl,oM,oM,_,t 0 dC,an.dF (λe=>Zz rfl e) (λ_=>?_)⟩;refine⟨l,o,rfl,oM,oM,_,_,_,p 1 dC,q,r,rfl,oM,oM,_,_,_,t 1 dC,PC.ok (sf A B) ?_⟩;rintro _ W ⟨rfl,C⟩;exact⟨_,rfl,an.not (an.dec (λ_=>⟨_,oM,P+1,aq oM,oM,rfl,g.then C.af⟩) (λe=>Zz rfl e))⟩
def Cv{s:mf}(h:Row et 32 w D a n s.cells)(i:Row et 32 w E b m s.cells):ZG 36 #[.agg #[XH s.version,.slice a n c],.agg #[XH s.version,.slice b m d]] w (Ok λj w'=>j= .bool true/\ai w w'):=by
 refine yi (PA.mk λp e q k=>PA.mk λr P t f=>?_);have g:=P.get k id;refine⟨_,ae g rfl,_,ae f rfl,an.dE (λ_=>?_) (λl=>Zz rfl l)⟩;refine⟨_,_,_,ae g rfl,_,_,_,ae f rfl,PC.ok (Cu (h.ah (e.then P)) (i.ah (e.then P))) ?_⟩;rintro _ u ⟨rfl,o⟩;exact⟨_,rfl,Ok.mk ⟨rfl,(e.then P).then o⟩⟩
def yG{C:List cz}(p:Row vB 120 w D a n C)(F:Row vB 120 w E b m C):ZG 37 #[.slice a n c,.slice b m d] w (Ok λN w'=>N= .bool true/\ai w w'):=by
 have Y:=p.len;have Z:=F.len;have O:=p.dP;unfold aK at O;refine tU (an.dF (λg=>Zz oM g) (λ_=>?_));refine⟨λH i w'=>∃e:Nat,i=e/\e<=n/\H=n-e/\ai w w',⟨_,0,rfl,Qj _,rfl,ak.refl w⟩,?_⟩;rintro H i _ w1 ⟨e,rfl,hj,rfl,I⟩;refine an.dec (λh1 q Q=>?_) (λ_=>Ok.mk ⟨rfl,I⟩);have r:ai w q:=I.then Q.af;obtain⟨h,j,k,es,rfl,R,_,S,J,s,t,u,rfl,T,_⟩:=(p.ah r).yP (i:=e) oM;obtain⟨l,o,a0,fs,rfl,U,_,K,L,v,x,y,rfl,V,_⟩:=(F.ah r).yP (i:=e) oM;rw[S]at K;cases K
 have W:∀P,P<10->q.cell? ⟨h,j+e*13+P,none⟩=(aC k.ev s t u)[P]? :=λP f=>(J P (show P<13 by omega)).trans (XW (show P<10 from f));have X:∀P,P<10->q.cell? ⟨l,o+e*13+P,none⟩=(aC k.ev v x y)[P]? :=λP f=>(L P (show P<13 by omega)).trans (XW (show P<10 from f));refine⟨h,j,rfl,oM,oM,bw (es:=aC k.ev s t u) (k:=10) (aV _ _ _ _) rfl (λP f=>by rw[Qx];exact W P f) ⟨l,o,rfl,oM,oM,bw (es:=aC k.ev v x y) (k:=10) (aV _ _ _ _) rfl (λP f=>by rw[Qx];exact X P f) (PC.ok (sg T V) ?_)⟩⟩;rintro _ M ⟨rfl,z⟩;have A:∀P,P<13->M.cell? ⟨h,j+e*13+P,none⟩=(gK k s t u)[P]? :=λP f=>(z.cell (a:=⟨h,j+e*13+P,none⟩) R id).trans (J P f);have B:∀P,P<13->M.cell? ⟨l,o+e*13+P,none⟩=(gK k v x y)[P]? :=λP f=>(z.cell (a:=⟨l,o+e*13+P,none⟩) U id).trans (L P f);refine⟨_,rfl,an.not (an.dec (λ_=>?_) (λg=>Zz rfl g))⟩;refine⟨h,j,rfl,oM,oM,_,A 10 dC,l,o,rfl,oM,oM,_,B 10 dC,an.not (an.mk (λ_=>?_) (λg=>by simp at g))⟩;refine⟨h,j,rfl,oM,oM,_,_,A 11 dC,A 12 dC,l,o,rfl,oM,oM,_,_,B 11 dC,B 12 dC,_,λw'=>TJ,an.mk (λg=>by simp at g) (λ_=>?_)⟩;exact⟨_,oM,e+1,aq oM,oM,rfl,r.then z⟩
def Fh(g:Row Gh 24 w D a n f9)(l:Row Gh 24 w E b m f9):ZG 38 #[.slice a n c,.slice b m d] w (Ok λq w'=>q= .bool true/\ai w w'):=by
 have B:=g.len;have C:=l.len;have r:=g.dP;unfold aK at r;refine Ah (an.dF (λh=>Zz oM h) (λ_=>?_));refine⟨λo i w'=>∃P:Nat,i=P/\P<=n/\o=n-P/\ai w w',⟨_,0,rfl,Qj _,rfl,ak.refl w⟩,?_⟩;rintro o i _ F ⟨P,rfl,H,rfl,f⟩;refine an.dec (λI=>?_) (λ_=>Ok.mk ⟨rfl,f⟩);obtain⟨s,t,e,J,rfl,K,_,u,v,rfl,_⟩:=(g.ah f).yP (i:=P) oM;obtain⟨x,y,L,M,rfl,N,_,p,z,rfl,_⟩:=(l.ah f).yP (i:=P) oM;rw[u]at p;cases p
 refine⟨s,t,rfl,oM,oM,bw (es:=aY e) (k:=3) (M_ e) rfl (λj k=>by rw[Qx];exact v j k) ⟨x,y,rfl,oM,oM,bw (es:=aY e) (k:=3) (M_ e) rfl (λj k=>by rw[Qx];exact z j k) ⟨false,λm=>TK e _,λO A=>an.mk (λh=>by cases h) λ_=>?_⟩⟩⟩;exact⟨_,oM,P+1,aq oM,oM,rfl,f.then A.af⟩
def zU{l m:World}{d:gE}(o:dQ l d v w)(p:dQ m d b8 w):ZG 16 #[v,b8] w (Ok λb8 w'=>b8= .bool true/\ai w w'):=by
 obtain⟨B,C,E,F,H,I,J,K,L,G,rfl,q,r,s,M⟩:=o;obtain⟨N,tn,O,Q,R,S,T,U,V,W,rfl,t,u,x,X⟩:=p;refine vS (PA.mk λY y Z z=>PA.mk λA g s4 a=>?_);have b:=g.get z id;have n:ai w A:=y.then g;refine⟨_,ae b rfl,_,ae a rfl,an.dE (λ_=>?_) (λe=>Zz rfl e)⟩;refine⟨_,_,ae b rfl,ae b rfl,_,_,ae a rfl,ae a rfl,aG.mk Fe ⟨_,rfl,an.mk (λ_=>?_) (λe=>by simp at e)⟩⟩;refine⟨_,_,_,_,ae b rfl,ae b rfl,_,_,_,_,ae a rfl,ae a rfl,PC.ok (Cv (s:=d.st) (q.ah n) (t.ah n)) ?_⟩;rintro _ w5 ⟨rfl,P⟩;have h:=P.get b id;have i:=P.get a id;refine⟨_,rfl,an.tt rfl ⟨_,_,_,ae h rfl,_,_,_,ae i rfl,PC.ok (yG (r.ah (n.then P)) (u.ah (n.then P))) ?_⟩⟩;rintro _ w6 ⟨rfl,c⟩;have j:=c.get h id;have k:=c.get i id;refine⟨_,rfl,an.tt rfl ⟨_,_,_,ae j rfl,_,_,_,ae k rfl,PC.ok (Fh (s.ah ((n.then P).then c)) (x.ah ((n.then P).then c))) ?_⟩⟩;rintro _ w7 ⟨rfl,f⟩;exact⟨_,rfl,an.tt rfl ⟨_,ae (f.get j id) rfl,_,ae (f.get k id) rfl,Ok.mk ⟨sM,((n.then P).then c).then f⟩⟩⟩
end
def Li(n:gE)(P:ZH)(a b:Nat)(c:ZH)(d e:Nat)(f:ZH)(g h:Nat):RP (dv XP 53) (.agg (fk n P a b c d e f g h).toArray)=true:=kR
def UW(n:bQ)(P:ZH)(tn a:Nat)(b:ZH)(c d:Nat):RP (dv XP 27) (vJ n P tn a b c d)=true:=kR
def Lj{es:List Value}(e:gM h g es=true)(f:b.heap[a]? =some (.cells l q C))(i:∀n,n<es.length->l[c+n]? =es[n]?)(j:M (.agg es.toArray)):iK h g (.pointer (some ⟨a,c,none⟩)) b M:=
 bw e rfl (λn P=>by
  have d:=i n P;rw[Qq P]at d⊢;exact ae f d) j
section
variable {w w' w0 w1 w2:World} {p:Nat} {F E D Dv:XN} {c:bQ} {self:Int} {X:bh} {va ea:ZH} {vn vc en ec:Nat}
def Jv{tn m j o:Nat}(g:bb w D R d tn u j):ZG 23 #[.agg #[.slice d tn m,.slice u j o]] w (Ok λp w'=>(∃c:Bool,p= .bool c)/\ai w w'):=by
 have A:=g.aS.len;have q:=g.aS.dP;unfold aK at q;refine ED (PA.mk λw1 n B P=>⟨_,_,_,ae P rfl,an.dec (λ_=>Ok.mk ⟨⟨_,rfl⟩,n⟩) (λ_=>⟨_,_,_,ae P rfl,an.dec (λ_=>Ok.mk ⟨⟨_,rfl⟩,n⟩) (λ_=>?_)⟩)⟩);refine⟨λe h w'=>∃a:Nat,h=a/\a<=tn/\e=tn-a/\w1=w',⟨_,0,rfl,Qj _,rfl,rfl⟩,?_⟩;rintro e _ _ _ ⟨a,rfl,C,rfl,rfl⟩;refine⟨_,_,_,ae P rfl,an.dec (λE=>?_) (λ_=>Ok.mk ⟨⟨_,rfl⟩,n⟩)⟩;obtain⟨c,i,F,H,rfl,I,-,J,r,K,k,L,rfl,l⟩:=(g.aS.ah n).yP (i:=a) oM;have f:=r 0 dC;have s:mB.k=1:=rfl;rw[s,Nat.mul_one]at f;have t:=l.dP;unfold aK at t;refine⟨_,_,_,ae P rfl,c,i,rfl,oM,oM,_,_,_,f,an.dec (λ_=>Ok.mk ⟨⟨_,rfl⟩,n⟩) (λ_=>?_)⟩;refine⟨λe h w'=>∃b:Nat,h=b/\b<=k/\e=k-b/\w1=w',⟨_,0,rfl,Qj _,rfl,rfl⟩,?_⟩;rintro e _ _ _ ⟨b,rfl,M,rfl,rfl⟩;refine⟨_,_,_,ae P rfl,c,i,rfl,oM,oM,_,_,_,f,an.dec (λN=>?_) (λ_=>⟨_,oM,a+1,aq oM,oM,rfl,rfl⟩)⟩;obtain⟨v,x,O,y,rfl,-,-,Q,z,S,T,U,rfl,-,-⟩:=l.yP (i:=b) oM;exact⟨_,_,_,ae P rfl,c,i,rfl,oM,oM,_,_,_,f,v,x,rfl,oM,oM,_,_,_,z 3 dC,an.dec (λ_=>Ok.mk ⟨⟨_,rfl⟩,n⟩) (λ_=>⟨_,oM,b+1,aq oM,oM,rfl,rfl⟩)⟩
def bP.waits(b:bP w p F c self X):X.waits.length<=256:=by
 obtain⟨f,d,n,e⟩:=b;obtain⟨g,D,P,-,-⟩:=(show Na w (λa=>F a/\n a=5) d.wp c.buffer.toNat X.waits from e.at' 5)
 exact Xx P.1.2.le P.1.1
def bP.ok(n:bP w p F c self X):iY c self:=n.1
def bL.after(n:ai w w1)(P:bL F w1 f w2):bL F w f w2:=⟨(ai.af n).then P.af,λa b=>(P.new a b).imp id λc=>by have:=n.size;omega⟩

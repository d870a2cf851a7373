import Derived.Test.YtjgjkeponbeekaaGreatDoorKa29
set_option linter.all false
set_option maxHeartbeats 4000000
set_option maxRecDepth 20000
namespace Go.Proofs.YtjgjkeponbeekaaGreatDoor
open Go.ar
section
variable {w w' w0 w1 w2:World} {p:Nat} {F E Dv:Nat->Prop} {cls:Nat->Nat} {h:jh} {c:bP} {self:Int} {X:bj} {m:bR} {va ea:Option Addr} {vn vc en ec:Nat}
def NF(hr:bO w p F c self X)(he:Env w0 w F){V:ej}(a6:X.log=some V)(c4:Row jj 96 w E ea en m.events)(O:∀a,E a->a<w.heap.size/\¬F a)(a7:m.events.length<=1000)(hl:X.S.l.length<=18000000):
  Calls XP 119 #[ZQ p,gM m va vn vc ea en ec] w (Ok λa5 w'=>∃P f,a5= .tuple #[P,XH (nm c self X m).2.1]/\eW w f (nm c self X m).1 P w'/\bO w' p f c self (nm c self X m).2.2/\bK F w f w'):=by
 obtain⟨i,h,cls,Q⟩:=hr;have R:=Q.aB;refine mM (PA.mk λS r s8 T=>?_);obtain⟨b,U⟩:∃b,b=ku c X m.events:=⟨_,rfl⟩
 have z:∀{A},(if b.1=[]then([yP X.S self m.bw],0,{X with waits:=b.2})else
   if(fB c {X with waits:=b.2} b.1).1≠0 then([],(fB c {X with waits:=b.2} b.1).1,{(fB c {X with waits:=b.2} b.1).2 with waits:=[]})else([yP (fB c {X with waits:=b.2} b.1).2.S self m.bw],0,(fB c {X with waits:=b.2} b.1).2))=A->nm c self X m=A:=λ{A} e=>by rw[<-e,U];rfl
 refine⟨λw'=>∃f g,bO w' p f c self g/\bK F w f w'/\(∀a,f a->F a\/S.heap.size<=a)/\w'.heap[w.heap.size]? =some (.cells (dv m va vn vc ea en ec).toArray 127 (0,0))/\nm c self X m=([yP g.S self m.bw],0,g),?_,?_⟩
 ·refine⟨_,_,_,ae T rfl,PC.ok (NG (cu.ah Q r) i (c4.ah r) (λa d=>⟨by have:=(O a d).1;omega,(O a d).2⟩) a7 hl) ?_⟩
  rw[<-U];rintro _ W ⟨Y,on,oc,Lo,B,b0,Do,rfl,C,Z,c5,b2,j,s,c6,e1⟩;have hn:=C.len dC;have c7:Lo.length=b.1.length:=by rw[<-Z,Q8]
  have b3:=ef.unbox C c5 λa d=>⟨(s a d).1,(s a d).2.1⟩
  rw[RM,Z]at b3;have b4:Row jj 96 W (λa=>aF Y=some a\/Do a) Y on b.1:=b3.row dC (by unfold aK;omega);have H:bK F w B W:=⟨(ai.af r).then j.af,λa d=>(j.new a d).imp id λh1=>oM⟩
  have I:∀a,B a->F a\/S.heap.size<=a:=j.new;have b5:=j.af.get T λe=>by have:=R _ e;omega
  have c8:=(he.ah r).gv j;refine⟨_,_,_,rfl,al.dec (λe0=>?_) (λhz=>?_)⟩
  rotate_left
  ·have b6:b.1=[]:=QW oM
   exact⟨B,{X with waits:=b.2},⟨i,h,b0,b2⟩,H,I,b5,z (if_pos b6)⟩
  have b7:b.1≠[]:=λt=>by rw[t,List.length_nil]at c7;omega
  refine PC.ok (Ic b2 i c8 (V:=V) a6 b4 (λa d=>d.elim (λt=>⟨C.aB a t,λe=>(c6 a t).2 e.1⟩) λe=>⟨(s a e).1,(s a e).2.2⟩) (by show X.S.l.length+_<=_;omega)) ?_;rintro _ c9 ⟨rfl,l,F2,a1,u,J,-⟩;have a0:=H.trans J;have e2:=H.af.size;refine⟨_,rfl,al.dB (λb8=>?_) (λh0=>?_)⟩
  ·obtain⟨a2,Db,d,hM,hD⟩:=(show Nj c9 (λa=>F2 a/\a1 a=5) l.wp c.buffer.toNat (fB c {X with waits:=b.2} b.1).2.waits from u.at' 5)
   refine⟨p,0,rfl,_,ae (u.at' 0).2 rfl,PC.ok (tN d) ?_⟩;rintro _ e3 ⟨rfl,a3,d0⟩;obtain⟨F3,n,K,o,-⟩:=u.gv bF (k:=5) (G':=a2) (C2:=kQ p (l.cells c self) l c {(fB c {X with waits:=b.2} b.1).2 with waits:=[]} (fB c {X with waits:=b.2} b.1).2.S.l) ⟨d0.mono λa _ d=>hM a d,λa d=>.inl (hM a d)⟩ a3.NH ⟨a2,_,a3,λ_ h=>h,λa d=>d.elim⟩ λa4 G hj hc=>by
    rcases a4 with _|_|_|_|_|_|_|a4<;>first|exact hc|exact absurd rfl hj
   refine⟨rfl,Ok.mk ?_⟩;rw[z ((if_neg b7).trans (if_pos b8))];exact⟨_,F3,rfl,eW.nil _ _ _,⟨i,l,n,K⟩,a0.trans o⟩
  ·refine⟨F2,(fB c {X with waits:=b.2} b.1).2,⟨i,l,a1,u⟩,a0,λa d=>(J.new a d).elim (I a) λL=>.inr (by have:=j.af.size;omega),J.af.get b5 λe=>?_,z ((if_neg b7).trans (if_neg (by simpa using h0)))⟩
   rcases I _ e with L|L
   ·have:=R _ L;omega
   ·omega
 ·rintro _ d1 ⟨f,g,d2,M,e4,d3,d4⟩ b9 d5
  obtain⟨-,h',q,N⟩:=d2;have v:ai d1 b9:=d5.af;have k:=cu.ah N v;refine⟨p,0,rfl,_,ae k.bh rfl,p,0,rfl,_,ae k.bh rfl,_,ae (v.get d3 id) rfl,PC.ok (HV (k.at' 3).1) ?_⟩;rintro _ d6 ⟨a8,n2,c2,G,rfl,c1,hG,x⟩;have c3:=c1.aB;have e5:=M.af.size;have z2:=v.size;have d7:=x.size;refine⟨_,_,_,_,_,_,_,_,_,rfl,PA.mk λd8 y e6 d9=>?_⟩;have hm:a_ b9 [yP g.S self m.bw] (.slice (ZX d6.heap.size) 1 1) d8:=a_.one (D:=G) d9 ⟨(c1.ah y).row dC (by show g.S.vec.length*8<=aK;rw[g.S.bL];have:g.S.n<=64:=(k.at' 3).1.1.n;unfold aK;omega),cU _ _⟩ (λa d=>⟨hG a d,by have:=c3 a d;omega,by have:=c3 a d;omega⟩) d7 (x.then y);rw[d4];exact Ok.mk ⟨_,f,rfl,hm.out k.aB oM,⟨i,h',q,cu.ah k (x.then y)⟩,((M.af.ah v).ah x).ah y,M.new⟩
end
section
variable {w w' w0 w1 w2:World} {p:Nat} {F E Dv:Nat->Prop} {cls:Nat->Nat} {h:jh} {c:bP} {self:Int} {X:bj} {m:bR} {va ea:Option Addr} {vn vc en ec:Nat}
def iS.OO(a:iS c self):1<=c.chunk/\c.chunk<=32:=by
 have:=a.right;unfold eP within at this;simp only[QK,decide_eq_true_eq]at this;omega
def GY(hr:bO w p F c self X)(he:Env w0 w F)(V:Row aJ 8 w Dv va vn m.vec)(f3:∀a,Dv a->a<w.heap.size/\¬F a)(c8:Row jj 96 w E ea en m.events)(hE:∀a,E a->a<w.heap.size/\¬F a)(hl:X.S.l.length<=18000000):
  Calls XP 76 #[ZQ p,gM m va vn vc ea en ec] w (Ok λW w'=>∃s g,W= .tuple #[s,XH (cg c self X m).2.1]/\eW w g (cg c self X m).1 s w'/\bO w' p g c self (cg c self X m).2.2/\bK F w g w'):=by
 have b0:=hr;obtain⟨y,h,cls,i⟩:=hr;have J:=i.aB;obtain⟨f5,h9,i0⟩:=y.aD;have i1:=y.OO;refine kM (PA.mk λw8 Y s8 g8=>?_);have h8:=cu.ah i Y;have no:∀{w1:World} {j:Int},ai w w1->cg c self X m=([],j,X)->Ok (λW w'=>∃s g,W= .tuple #[s,XH (cg c self X m).2.1]/\eW w g (cg c self X m).1 s w'/\bO w' p g c self (cg c self X m).2.2/\bK F w g w') (.returned (.tuple #[.slice none 0 0,XH j])) w1:=λ{w1 j} K Z=>by
  rw[Z];exact Ok.mk ⟨_,F,rfl,eW.nil _ _ _,b0.ah K,ai.af K,λa b=>.inl b⟩
 refine⟨p,0,rfl,_,ae h8.bh rfl,e_ Tryz.underlying101 ⟨_,rfl,?_⟩⟩;have c9:DL w (λa=>F a/\cls a=2) h.dp h.lp X.D X.log:=i.at' 2
 cases z:X.log with
 |none=>
  obtain⟨Fd,-,-,k⟩:=c9;rw[z]at k;have k:h.lp=none:=k;rw[k];exact al.tt rfl (no Y (by unfold cg;rw[z]))
 |some a8=>
 obtain⟨a9,a0,a6,-⟩:=DL.ND (z▸c9) (he.sub λa b=>b.1) λa b=>J a b.1;have L:∀{r},(if fl m c.aD.toNat c.chunk≠0 then([],fl m c.aD.toNat c.chunk,X)else if m.ng≠self then([],1,X)else if m.kind=3 then nm c self X m else
   if m.kind≠4 then(kY X.S self m c.chunk,0,{X with fI:=X.fI.yQ m.bw m.vec X.S.vec})else
   if X.S.missing m.vec c.chunk=[]then([],0,{X with fI:=X.fI.yQ m.bw m.vec X.S.vec})else([⟨3,self,m.bw,[],X.S.missing m.vec c.chunk⟩],0,{X with fI:=X.fI.yQ m.bw m.vec X.S.vec}))=r->cg c self X m=r:=λ{r} n=>by rw[<-n];unfold cg;rw[z]
 rw[a0];refine al.ff rfl λf6 d0=>?_;have M:ai w f6:=Y.then d0.af;have d1:=cu.ah i M;have d2:=(d0.af (S:=λ_=>False)).get g8 id;refine au (dT m va vn vc ea en ec) d2 ⟨p,0,rfl,_,ae d1.bh rfl,p,0,rfl,_,ae d1.bh rfl,?_⟩;rw[f5];refine PC.ok (Nx (V.ah M) (c8.ah M) oM) ?_;rintro _ i2 ⟨rfl,d3⟩;have a1:=M.then d3;have f8:=cu.ah i a1;have d4:=d3.get d2 id;refine⟨_,rfl,al.dB (λt=>no a1 (L (if_pos t))) (λt=>⟨_,ae d4 rfl,p,0,rfl,_,ae f8.bh rfl,λg0 d5=>?_⟩)⟩;have l:ai w g0:=a1.then d5.af;have i3:=cu.ah i l;have b8:=(d5.af (S:=λ_=>False)).get d4 id;have b9:¬fl m c.aD.toNat c.chunk≠0:=by simpa using t
 refine al.dB (λN=>no l (L ((if_neg b9).trans (if_pos N)))) (λN=>⟨_,ae b8 rfl,al.dA (λk=>?_) (λk=>λd6 d7=>?_)⟩)
 ·have Z:=L (((if_neg b9).trans (if_neg (by simpa using N))).trans (if_pos k))
  have d8:m.events.length<=1000:=by
   have e:=t;unfold fl at e;simp only at e;rw[if_pos k]at e;split at e
   ·cases e
   ·unfold eN at e
    split at e
    ·cases e
    split at e
    ·cases e
    ·omega
  refine au (dT m va vn vc ea en ec) b8 (PC.ok (NF (b0.ah l) (he.ah l) z (c8.ah l) (λa b=>⟨by have:=(hE a b).1;have:=l.size;omega,(hE a b).2⟩) d8 hl) ?_);rintro _ i4 ⟨s,g,rfl,b1,g1,b2⟩;have g2:=b1;obtain⟨a2,n2,c2,a7,D,rfl,o2,o3,o4,o5,o6⟩:=b1;refine⟨_,_,_,_,rfl,Ok.mk ?_⟩;have c0:=l.size;rw[Z];exact⟨_,g,rfl,⟨a2,n2,c2,a7,D,rfl,o2,o3,o4,λa b=>⟨by have:=(o5 a b).1;omega,(o5 a b).2⟩,λa b=>⟨by have:=(o6 a b).1;omega,(o6 a b).2⟩⟩,g1,(ai.af l).then b2.af,λa b=>(b2.new a b).imp id λe=>oM⟩
 ·have c1:ai w d6:=l.then d7.af
  have O:=cu.ah i c1;have c4:=(d7.af (S:=λ_=>False)).get b8 id;have d9:dy d6 h.tp (λa=>F a/\cls a=6) X.fI:=O.at' 6;have eX:=(O.at' 3).1;have nS:¬(F p/\cls p=6):=λj=>by have:=j.2;rw[i.Ib.2]at this;cases this
  have e0:¬(F w.heap.size/\cls w.heap.size=6):=λj=>by have:=J _ j.1;omega
  refine⟨λa=>F a/\cls a=6,p,0,rfl,nS,_,ae O.bh rfl,e0,_,ae c4 rfl,e0,_,_,_,ae c4 rfl,p,0,rfl,_,ae O.bh rfl,PC.ok (nj eX) ?_⟩;rintro _ g3 ⟨a2,n2,c2,G,rfl,e1,A,hG⟩;have hN:X.S.n<=64:=eX.1.n;have g4:Row aJ 8 g3 G a2 n2 X.S.vec:=e1.row dC (by rw[X.S.bL];unfold aK;omega);have i5:=c1.size;have i6:=A.size;have B:=c1.then A;refine⟨_,_,_,rfl,ai.af A,PC.ok (Ie (d9.ah A) ((V.ah B).sQ) g4.sQ λ_=>cT.2 λa b n=>?_) ?_⟩
  ·have:=hG a (e1.self a b);have:=J a n.1;omega
  rintro _ c5 ⟨G6,rfl,a3,b3⟩;obtain⟨P,f,C,d,-⟩:=(cu.ah i B).gv bF (k:=6) (G':=G6) (C2:=kQ p (h.cells c self) h c {X with fI:=X.fI.yQ m.bw m.vec X.S.vec} X.S.l) b3 a3.aB a3 λa4 G hj t=>by
   rcases a4 with _|_|_|_|_|_|_|a4<;>first|exact t|exact absurd rfl hj
  have o:bK F w P c5:=⟨(ai.af B).then d.af,λa b=>(d.new a b).imp id λe=>by have:=B.size;omega⟩
  have Q:=d.af.get (A.get c4 id) λn=>by have:=J _ n;omega
  have b4:=(V.ah B).af d.af λa b=>(f3 a b).2;have i7:=o.af.size;have c6:=λ{r} n=>L (r:=r) (((if_neg b9).trans (if_neg (by simpa using N))).trans ((if_neg k).trans n));refine⟨_,rfl,b3.af,_,ae Q rfl,al.dB (λR=>λe2 g5=>?_) (λR=>λe3 g6=>?_)⟩
  ·have H:ai c5 e2:=g5.af
   have u:=cu.ah C H;have i8:=H.size;refine⟨p,0,rfl,_,ae u.bh rfl,p,0,rfl,_,ae u.bh rfl,au (dT m va vn vc ea en ec) (H.get Q id) ⟨p,0,rfl,_,ae u.bh rfl,PC.ok (Ig (u.at' 3).1 (show X.S.l.length<=20000000 by omega) (b4.ah H)) ?_⟩⟩;rintro _ g7 c7;obtain⟨a5,S,c3,rfl⟩:=c7.sl;have b5:ai e2 g7:=by obtain⟨_,_,_,_,_,_,_,_,_,_,_,K⟩:=c7;exact K
   refine⟨_,_,_,rfl,Ok.mk ?_⟩;rw[c6 (if_pos R)];exact⟨_,P,rfl,c7.out u.aB oM,⟨y,h,f,cu.ah u b5⟩,(o.af.ah H).ah b5,o.new⟩
  ·have q:ai c5 e3:=g6.af
   have I:=cu.ah C q;have i9:=q.size;refine⟨p,0,rfl,_,ae I.bh rfl,_,_,_,ae (q.get Q id) rfl,p,0,rfl,_,ae I.bh rfl,PC.ok (xN (I.at' 3).1 (by show X.S.l.length<=_;omega) (b4.ah q)) ?_⟩;rintro _ e4 ⟨a5,S,c3,G3,rfl,T,v,g9⟩;have e5:=T.len dC;have b6:=T.aB;have e6:=cu.ah I v;have j0:=v.size;have d8:(X.S.missing m.vec c.chunk).length<=32:=by
    unfold aw.missing;rw[Qy];omega
   change aO jj 63 G3 e4 a5 S c3 (X.S.missing m.vec c.chunk)at T
   refine⟨_,_,_,rfl,al.dec (λh7=>λe7 h0=>?_) (λhz=>Ok.mk ?_)⟩
   ·have e8:X.S.missing m.vec c.chunk≠[]:=λj=>by
     have b7:S=(X.S.missing m.vec c.chunk).length:=e5;rw[j,List.length_nil]at b7;omega
    have x:ai e4 e7:=h0.af;have e9:=cu.ah e6 x;have j1:=x.size;refine⟨p,0,rfl,_,ae e9.bh rfl,_,ae (x.get (v.get (q.get Q id) id) id) rfl,PA.mk λh2 U j2 h6=>Ok.mk ?_⟩;have hm:a_ e3 [⟨3,self,m.bw,[],X.S.missing m.vec c.chunk⟩] (.slice (ZX e7.heap.size) 1 1) h2:=a_.one (m:=⟨3,self,m.bw,[],X.S.missing m.vec c.chunk⟩) (va:=none) (vn:=0) (vc:=0) (D:=G3) h6 ⟨cU _ _,((T.ah x).ah U).row dC (by unfold aK;omega)⟩ (λa b=>⟨g9 a b,by have:=b6 a b;omega,by have:=b6 a b;omega⟩) oM ((v.then x).then U);rw[c6 ((if_neg (by simpa using R)).trans (if_neg e8))];exact⟨_,P,rfl,hm.out I.aB oM,⟨y,h,f,cu.ah e9 U⟩,(((o.af.ah q).ah v).ah x).ah U,o.new⟩
   ·have f2:X.S.missing m.vec c.chunk=[]:=QW (by
     have b7:S=(X.S.missing m.vec c.chunk).length:=e5;omega)
    rw[c6 ((if_neg (by simpa using R)).trans (if_pos f2))];exact⟨_,P,rfl,eW.nil _ _ _,⟨y,h,f,e6⟩,(o.af.ah q).ah v,o.new⟩
end
variable{e:Int}
section
variable {w w' w0 w1 w2:World} {p:Nat} {F E Dv:Nat->Prop} {cls:Nat->Nat} {h:jh} {c:bP} {self:Int} {X:bj}
def MB(P:bO w p F c self X)(u:Env w0 w F)(Q:aH e):
  Calls XP 52 #[ZQ p,XH e] w (Ok λR w'=>∃s,R= XH (vM c X e).1/\bO w' p s c self (vM c X e).2/\bK F w s w'/\(vM c X e).2.S.l.length<=16777216):=by
 obtain⟨C,h,cls,t⟩:=P;have b8:=t.aB;have b9:=t.Ib;have v:aT w F cls (recC p (w_ h c self h.lp (ZX h.sp) (ZX h.bp)) {h with lp:=none} c {X with log:=none} false):=
  ⟨λk=>by
   have g:=t.at' k;rcases k with _|_|_|_|_|_|_|k<;>first|exact g|trivial|(intro S;cases S)|(obtain⟨Fd,j,x,T⟩:=g;exact⟨Fd,j,x,rfl⟩),t.aB⟩
 obtain⟨Fd,U,o,-⟩:=(show DL w (λa=>F a/\cls a=2) h.dp none X.D none from v.at' 2)
 refine mK ⟨p,0,rfl,_,ae (v.at' 0).2 rfl,PC.ok (Kh U Q) ?_⟩;rintro _ V ⟨E,rfl,H,I⟩;obtain⟨W,Y,y,q,-⟩:=v.gv gl (k:=2) (G':=E) (C2:=recC p (w_ h c self h.lp (ZX h.sp) (ZX h.bp)) {h with lp:=none} c {X with log:=none,D:=X.D.AS e} false) ⟨I.af.mono λa _ b=>o a b,λa b=>(I.new a b).imp (o a) id⟩ (λa b=>H.aB a b) ⟨E,H,λa b=>b,rfl⟩ λd G l g=>by
  rcases d with _|_|_|_|_|_|_|d<;>first|exact g|exact absurd rfl l
 obtain⟨J,Db,b,K,hD⟩:=(show Nj V (λa=>W a/\Y a=5) h.wp c.buffer.toNat X.waits from y.at' 5)
 refine⟨rfl,p,0,rfl,_,ae (y.at' 0).2 rfl,PC.ok (tN b) ?_⟩;rintro _ c1 ⟨rfl,L,Z⟩;obtain⟨m,i,f,n,-⟩:=y.gv gl (k:=5) (G':=J) (C2:=recC p (w_ h c self h.lp (ZX h.sp) (ZX h.bp)) {h with lp:=none} c {X with log:=none,D:=X.D.AS e,waits:=[]} false) ⟨Z.mono λa _ b=>K a b,λa b=>.inl (K a b)⟩ L.NH ⟨J,_,L,λ_ h=>h,λa b=>b.elim⟩ λd G l g=>by
  rcases d with _|_|_|_|_|_|_|d<;>first|exact g|exact absurd rfl l
 refine⟨rfl,p,0,rfl,_,ae (f.at' 0).2 rfl,PC.ok (Ih (f.at' 6)) ?_⟩;rintro _ z ⟨rfl,a3,M⟩;have A:aT z m i (recC p (w_ h c self h.lp (ZX h.sp) (ZX h.bp)) {h with lp:=none} c {X with log:=none,D:=X.D.AS e,waits:=[],fI:=⟨X.fI.cP,[],[]⟩} false):=f.same gl (k:=6) M a3 λd G l g=>by
  rcases d with _|_|_|_|_|_|_|d<;>first|exact g|exact absurd rfl l
 have N:bK F w m z:=by
  have j:=q.trans n;exact⟨j.af.new (M.mono λa _ b=>b.1) λa b=>j.new a b,j.new⟩
 have a5:=u.gv N;have b3:=DL.uM (show DL z (λa=>m a/\i a=2) h.dp none (X.D.AS e) none from A.at' 2) (a5.sub λa b=>b.1);refine⟨rfl,p,0,rfl,_,ae (A.at' 0).2 rfl,PC.ok (MJ u.laid b3) ?_⟩;rintro _ c2 ⟨rfl,a0,b4⟩;obtain⟨G2,b5,a6,b6,-⟩:=DL.L_ (Y:=λ_=>False) (a0.mono λa b=>b.elim id False.elim) b4;obtain⟨c3,b7,a7,a1,-⟩:=A.gv gl (k:=2) (G':=G2) (C2:=recC p (w_ h c self h.lp (ZX h.sp) (ZX h.bp)) {h with lp:=none} c {X with log:=none,D:=Ae (X.D.AS e),waits:=[],fI:=⟨X.fI.cP,[],[]⟩} false) a6 b6 (by
   obtain⟨Fd,j,x,T⟩:=b5;exact⟨Fd,j,x,rfl⟩) λd G l g=>by
  rcases d with _|_|_|_|_|_|_|d<;>first|exact g|exact absurd rfl l
 have O:=N.trans a1;refine⟨rfl,PC.ok (xO (h:={h with lp:=none}) (z1:=h.lp) (z2:=ZX h.sp) (z3:=ZX h.bp) a7 C (u.gv O)) ?_⟩;rintro _ c4 ⟨rfl,a8,h',s,r,B,a9⟩;exact⟨_,rfl,Ok.mk ⟨s,rfl,⟨C,h',r,B⟩,O.trans a9,a8⟩⟩
def OS(s:bO w p F c self X)(t:aH e):
  Calls XP 57 #[ZQ p,XH e] w (Ok λu w'=>∃m,u= .tuple #[]/\bO w' p m c self {X with D:=X.D.OT e}/\bK F w m w'):=by
 obtain⟨v,h,cls,i⟩:=s;obtain⟨Fd,x,j,d⟩:=(show DL w (λa=>F a/\cls a=2) h.dp h.lp X.D X.log from i.at' 2)
 refine nB ⟨p,0,rfl,_,ae i.bh rfl,PC.ok (MX t x) ?_⟩;rintro _ n ⟨rfl,y,k⟩;have z:cu n F cls p h c self {X with D:=X.D.OT e}:=aT.same i bF (k:=2) (k.af.mono λa _ b=>j a b) (by
  refine⟨Fd,y,j,?_⟩;show match X.log with
   |none=>h.lp=none
   |some l=>l.bH≠[]/\∃f g,h.lp=some ⟨f,0,none⟩/\iA n h.dp f g l/\∀a,g a->(F a/\cls a=2)/\¬Fd a
  cases o:X.log with
  |none=>rw[o]at d;exact d
  |some l=>
   rw[o]at d;obtain⟨A,f,g,B,C,q⟩:=d;exact⟨A,f,g,B,C.af k.af λa b=>(q a b).2,q⟩) λr G E H=>by
  rcases r with _|_|_|_|_|_|_|r<;>first|exact H|exact absurd rfl E
 exact⟨rfl,Ok.mk ⟨F,rfl,⟨v,h,cls,z⟩,k.af.mono λa _ b=>(j a b).1,λa b=>.inl b⟩⟩
def CK{V:ej}{D:an}{l:List aj}{size:Int}(b:(ck V D l size).no=0):(ck V D l size).V.bH≠[]:=by
 revert b
 unfold ck;split
 ·rename_i a;intro h;exact absurd h a
 split
 ·rename_i a;intro h;exact absurd h a
 ·exact Bz
def Hc(R:bO w p F c self X)(B:Env w0 w F)(hl:X.S.l.length<=18000000):
  Calls XP 53 #[ZQ p] w (Ok λa2 w'=>∃S,a2= XH (fJ c X).1/\bO w' p S c self (fJ c X).2/\bK F w S w'):=by
 have a6:=R;obtain⟨T,h,cls,o⟩:=R;have a8:=o.aB;refine kN ⟨p,0,rfl,_,ae o.bh rfl,e_ Tryz.underlying101 ⟨_,rfl,?_⟩⟩;have U:DL w (λa=>F a/\cls a=2) h.dp h.lp X.D X.log:=o.at' 2
 cases m:X.log with
 |none=>
  obtain⟨Fd,-,-,j⟩:=U;rw[m]at j;have j:h.lp=none:=j;rw[j];have q:fJ c X=(15,X):=by unfold fJ;rw[m]
  rw[q];exact al.tt rfl (Ok.mk ⟨F,rfl,a6,bK.refl _ _⟩)
 |some d=>
 obtain⟨z,f,C,-⟩:=DL.ND (m▸U) (B.sub λa b=>b.1) λa b=>a8 a b.1;have E:∀{k},(if(ck d X.D X.S.l c.bM).no≠0 then((ck d X.D X.S.l c.bM).no,{X with D:=(ck d X.D X.S.l c.bM).D})else(0,{X with D:=(ck d X.D X.S.l c.bM).D,log:=some (ck d X.D X.S.l c.bM).V}))=k->fJ c X=k:=λ{k} H=>by rw[<-H];unfold fJ;rw[m]
 rw[f];refine al.ff rfl λw9 d9=>?_;have V:ai w w9:=d9.af;have n:=cu.ah o V;have W:=o.Ib;have I:¬(F p/\cls p=2):=λr=>by have:=r.2;rw[W.2]at this;cases this
 refine⟨λa=>F a/\cls a=2,p,0,rfl,I,_,ae n.bh rfl,p,0,rfl,I,_,ae n.bh rfl,p,0,rfl,_,ae n.bh rfl,p,0,rfl,I,_,ae n.bh rfl,PC.ok (qO (n.at' 3).1 oM) ?_⟩;rintro _ s ⟨b6,b7,cc,G,rfl,Y,J,hG⟩;have A:=cu.ah n J;have t:=V.then J;have a9:=Y.aB;obtain⟨Z,i,-,K⟩:=DL.ND (show DL s (λa=>F a/\cls a=2) h.dp h.lp X.D (some d)from m▸A.at' 2) ((B.ah t).sub λa b=>b.1) λa b=>A.aB a b.1;have H:Z=z:=by rw[f]at i;cases i;rfl
 subst H;refine⟨_,_,_,rfl,ai.af J,?_⟩;rw[f];refine PC.ok (Hu B.laid K (Y.row dC (by unfold aK;omega)) a9 oM) ?_;have a0:=CK (V:=d) (D:=X.D) (l:=X.S.l) (size:=c.bM);generalize ck d X.D X.S.l c.bM=k at E a0;rintro _ a3 ⟨L,a4,b0,a5,⟨u,rfl,b1⟩|⟨u,q3,rfl,b2⟩⟩
 ·obtain⟨Fd,h1,h2,j,h4⟩:=b1
  have M:∀a,¬(a<s.heap.size/\¬(F a/\cls a=2))->(F a/\cls a=2)\/s.heap.size<=a:=λa b=>by
   rcases Nat.lt_or_ge a s.heap.size with N|N
   ·exact .inl (Classical.byContradiction λh8=>b ⟨N,h8⟩)
   ·exact .inr N
  have a1:ak (λa=>F a/\cls a=2) s a3:=a5.mono λa b8 b=>(M a b).resolve_right oM;obtain⟨O,l,g,v,-⟩:=A.d_ bF (k:=2) (G':=λa=>Fd a\/L a) (C2:=kQ p (h.cells c self) h c {X with D:=k.D} X.S.l) a1 (λa b=>b.elim (λx=>M a λh6=>(j a x).2 (.inl h6)) λx=>M a (b0 a x).2) (λa b=>b.elim (h1.aB a) (a4.aB a)) (by
    refine⟨Fd,h1,λa b=>.inl b,?_⟩;show match X.log with
     |none=>h.lp=none
     |some d=>d.bH≠[]/\∃z Fl,h.lp=some ⟨z,0,none⟩/\iA a3 h.dp z Fl d/\∀a,Fl a->(Fd a\/L a)/\¬Fd a
    rw[m];exact⟨C,Z,L,f,a4,λa b=>⟨.inr b,λhd=>(j a hd).2 (.inr b)⟩⟩) λy G P q=>by
   rcases y with _|_|_|_|_|_|_|y<;>first|exact q|exact absurd rfl P
  refine⟨_,_,rfl,a1,al.dA (λQ=>absurd Q u) (λ_=>Ok.mk ?_)⟩;rw[E (if_pos u)];exact⟨O,rfl,⟨T,h,l,g⟩,(ai.af t).then v.af,λa b=>(v.new a b).imp id λx=>by have:=t.size;omega⟩
 ·obtain⟨G2,b3,v,b4,hY⟩:=DL.FU b2 a5 (a0 u)
  obtain⟨O,l,g,e,-⟩:=A.gv bF (k:=2) (G':=G2) (C2:=kQ p (h.cells c self) {h with lp:=ZX q3} c {X with D:=k.D,log:=some k.V} X.S.l) v b4 b3 λy G P q=>by
   rcases y with _|_|_|_|_|_|_|y<;>first|exact q|exact absurd rfl P
  refine⟨_,_,rfl,v.af,al.dA (λ_=>⟨p,0,rfl,PS.mk (g.at' 0).2 sM λb9 a7 c0 b5=>Ok.mk ?_⟩) (λQ=>absurd rfl Q)⟩;rw[E (if_neg (by simpa using u))];exact⟨O,rfl,⟨T,{h with lp:=ZX q3},l,cu.store g a7 b5⟩,((ai.af t).then e.af).then (a7.mono λa _ r=>by have r:a=p:=r;rw[r];exact W.1),λa b=>(e.new a b).imp id λx=>by have:=t.size;omega⟩
end
variable{A m:Int}{c7:List bf}{d r:Option Addr}{P:aM}
section
variable {w w' w0 w1 w2:World} {p:Nat} {F E D:Nat->Prop} {c:bP} {self:Int}
def dU(c:bP)(a:Option Addr)(tn b:Nat)(d:Option Addr)(e f:Nat):List Value:=[XH c.aD,XH c.uM,XH c.bM,XH c.chunk,XH c.buffer,XH c.cP,XH c.every,XH c.start,.slice a tn b,.slice d e f]
abbrev vN(c:bP)(a:Option Addr)(tn b:Nat)(d:Option Addr)(e f:Nat):Value:=.agg (dU c a tn b d e f).toArray
def He(c:bP)(a:Option Addr)(tn b:Nat)(d:Option Addr)(e f:Nat):gH XP 27 (dU c a tn b d e f)=true:=kR
def oe:Calls XP 69 #[XH e,XH m,XH A] w (Ok λa w'=>a= .bool (within e m A)/\w=w'):=by
 refine tY (al.dec (λb=>Ok.mk ⟨?_,rfl⟩) (λb=>Ok.mk ⟨?_,rfl⟩))
 ·simp[within];omega
 ·simp[within];omega
def NI{tn A B C:Nat}:Calls XP 41 #[vN c d tn A r B C,XH self] w (Ok λl w'=>l= .bool (eP c self)/\ai w w'):=by
 refine yk (PA.mk λw1 u J b=>?_);have K:∀{m n o:Int} {p:Bool->Prop} {v:List PanicEntry->World->Prop},p (within m n o)->∃q x y,(Value.func (.func 69) #[] #[])= .func (.func q) x y/\enters XP q=true/\PC XP q (x++ #[XH m,XH n,XH o]++y) w1 (λE F=>∃(z:Bool),E= .bool z/\F=w1/\p z) v:=λ{m n o p v} s=>by
  refine⟨_,_,_,rfl,kR,PC.ok oe ?_⟩;rintro _ _ ⟨rfl,rfl⟩;exact⟨_,rfl,rfl,s⟩
 have no:eP c self=false->Ok (λl w'=>l= .bool (eP c self)/\ai w w') (.returned (.bool false)) w1:=λH=>Ok.mk ⟨by rw[H],u⟩;have e:eP c self=(within c.aD 1 64&&(within self 0 (c.aD-1)&&(within c.uM 64 262144&&(decide (c.bM>=1)&&(decide (c.every>=1)&&(within c.chunk 1 32&&(within c.buffer 1 256&&(within c.cP 1 1048576&&decide (c.start>=0))))))))):=by
  unfold eP;simp only[Bool.and_assoc]
 refine⟨_,ae b rfl,_,_,_,rfl,kR,PC.ok oe ?_⟩;rintro _ _ ⟨rfl,rfl⟩;refine⟨_,rfl,al.mk (λa=>⟨_,ae b rfl,_,_,_,rfl,kR,PC.ok oe ?_⟩) (λa=>no (by rw[e,a];rfl))⟩;have I:IntKind.wrap .i64 (c.aD-1)=c.aD-1:=wrap_i64 (by have:=br.1 a;unfold aH;omega);rw[I];rintro _ _ ⟨rfl,rfl⟩;refine⟨_,rfl,al.mk (λf=>⟨_,ae b rfl,_,_,_,rfl,kR,PC.ok oe ?_⟩) (λf=>no (by rw[e,a,f];rfl))⟩;rintro _ _ ⟨rfl,rfl⟩;refine⟨_,rfl,al.mk (λg=>⟨_,ae b rfl,al.mk (λh=>⟨_,ae b rfl,al.mk (λi=>⟨_,ae b rfl,_,_,_,rfl,kR,PC.ok oe ?_⟩) (λi=>no (by rw[e,a,f,g,h,i];rfl))⟩) (λh=>no (by rw[e,a,f,g,h];rfl))⟩) (λg=>no (by rw[e,a,f,g];rfl))⟩;rintro _ _ ⟨rfl,rfl⟩;refine⟨_,rfl,al.mk (λj=>⟨_,ae b rfl,_,_,_,rfl,kR,PC.ok oe ?_⟩) (λj=>no (by rw[e,a,f,g,h,i,j];rfl))⟩;rintro _ _ ⟨rfl,rfl⟩;refine⟨_,rfl,al.mk (λk=>⟨_,ae b rfl,_,_,_,rfl,kR,PC.ok oe ?_⟩) (λk=>no (by rw[e,a,f,g,h,i,j,k];rfl))⟩;rintro _ _ ⟨rfl,rfl⟩;refine⟨_,rfl,al.mk (λt=>⟨_,ae b rfl,Ok.mk ⟨by rw[e,a,f,g,h,i,j,k,t];rfl,u⟩⟩) (λt=>no (by rw[e,a,f,g,h,i,j,k,t];rfl))⟩
def Ql{a b:Nat}(c:P.types[a]? =some c7)(e:b<c7.length):P.CI (a:Int) (b:Int)=c7[b]? :=by
 have f:=(Qv.1 c).1;have d:P.at (a:Int)=c7:=by
  unfold aM.at;rw[if_pos (br.2 ⟨oM,oM⟩),Qx,QQ,c];rfl
 unfold aM.CI;rw[d,if_pos (by simp only[QK,br];exact⟨⟨oM,oM⟩,oM,oM⟩),Qx]
end
section
variable {w w' w0 w1 w2:World} {p:Nat} {F E D:Nat->Prop} {c:bP} {self:Int}
def KL{tn tc M pc:Nat}(i:bb w D P d tn r M)(hD:∀a,D a->a<w.heap.size):
  Calls XP 43 #[.agg #[.slice d tn tc,.slice r M pc]] w (Ok λc4 w'=>∃v Ps a2 f x l G,c4= .agg #[.slice v Ps a2,.slice f x l]/\bb w' G P v Ps f x/\(∀a,G a->w.heap.size<=a/\a<w'.heap.size)/\ai w w'):=by
 have f5:=i.aS.len;have b8:=i.aS.dN;have f6:=i.Em.len;have f8:=i.Em.dN;refine vU (PA.mk λN k4 s4 g4=>PA.mk λw5 k5 s5 g5=>⟨_,_,_,ae (k5.get g4 id) rfl,?_⟩);have y:=k4.then k5;refine y_ (aO.nil (c:=AW) (e:=138) w5) Pq (i.Em.ah y) (λa b=>⟨by have:=hD a b;omega,λc=>by cases c⟩) (by rw[List.length_nil];unfold aK at*;omega) (by rw[List.length_nil];unfold aK at*;unfold maxLen;omega) λf l g Fp d1 k8 j6 d2=>⟨_,_,_,rfl,PA.mk λj7 g0 j8 g1=>PS.mk g1 sM λj9 g2 k0 g3=>PS.mk g3 sM λt g6 k1 g7=>?_⟩
 rw[List.nil_append,Xz]at d1;have a9:=d1.alone;have b9:∀a,aF f=some a->w5.heap.size<=a/\a<g.heap.size:=λa b=>⟨(d2 a b).elim False.elim id,a9.aB a b⟩
 have z8:=k8.size;have z:ai w5 g:=k8.mono λa _ c=>by cases c
 have A:ai g t:=(g0.new g2 λa b=>.inr (by have b:a=g.heap.size:=b;omega)).new g6 λa b=>.inr (by have b:a=g.heap.size:=b;omega);have b0:ai w t:=(y.then z).then A;have gp:=A.get (z.get (k5.get g4 id) id) id;have gr:=A.get (z.get g5 id) id;have b1:t.heap[g.heap.size]? =some (.cells #[.slice none 0 0,.slice f (0+M) l] 25 (0,0)):=g7;rw[Xz]at b1;have k2:=A.size;refine⟨_,_,_,ae gp rfl,λB a3 w'=>∃j:Nat,a3=j/\j<=tn/\B=tn-j/\ak (·=g.heap.size) t w'/\∃O Q oc R,w'.heap[g.heap.size]? =some (.cells #[.slice O Q oc,.slice f M l] 25 (0,0))/\aO mj 118 R w' O Q oc (P.types.take j)/\∀a,R a->t.heap.size<=a,
  ⟨_,0,rfl,Qj _,rfl,ak.refl _,none,0,0,λ_=>False,b1,aO.nil _,λ_ i=>i.elim⟩,?_⟩
 rintro B _ _ S ⟨j,rfl,hj,rfl,u,O,Q,oc,R,T,n,C⟩;have U:ai w S:=b0.new u λa b=>.inr (by have b:a=g.heap.size:=b;have:=y.size;have:=z.size;omega);have zk:=u.size;have b2:=u.get gp λc=>by have c:w.heap.size=g.heap.size:=c;have:=k4.size;omega
 refine al.dec (λk3=>?_) (λk6=>?_)
 ·have g8:j<P.types.length:=oM
  have V:P.types[j]? =some P.types[j]:=Qq g8;generalize P.types[j]=o at V;obtain⟨a,d5,es,ha,b,k7,d6,fa,fn,fc,rfl,W⟩:=(i.aS.ah U).el j o V;have c0:=d6 0 dC;have g9:mj.k=1:=rfl;rw[g9,Nat.mul_one]at c0;have h0:=W.len;have c2:=W.dN;refine⟨a,d5,ha,oM,oM,fa,fn,fc,by rw[Qx];exact c0,PA.mk λk9 h3 l0 h4=>PS.mk h4 sM λk h6 l3 h7=>PA.mk λl4 d3 l5 h8=>PS.mk h8 sM λE d4 l6 h9=>?_⟩;have q:ai S E:=((h3.new h6 λa b=>.inr (by have b:a=S.heap.size:=b;omega)).then d3).new d4 λa b=>.inr (by have b:a=k.heap.size:=b;omega);have d7:=d4.get (d3.get h7 id) oM;have e3:=q.get b2 id;have l7:=q.size;have e4:=U.then q;refine⟨_,_,_,ae d7 rfl,λB a3 w'=>∃h:Nat,a3=h/\h<=fn/\B=fn-h/\ak (·=k.heap.size) E w'/\∃F H X Y,w'.heap[k.heap.size]? =some (.cells #[.slice F H X] 118 (0,0))/\aO rk 121 Y w' F H X (o.take h)/\∀a,Y a->E.heap.size<=a,
   ⟨_,0,rfl,Qj _,rfl,ak.refl _,none,0,0,λ_=>False,h9,aO.nil _,λ_ i=>i.elim⟩,?_⟩
  rintro B _ _ d8 ⟨h,rfl,hk,rfl,s,F,H,X,Y,gx,p,I⟩;have zx:=s.size;have b3:ai w d8:=e4.new s λa b=>.inr (by have b:a=k.heap.size:=b;have:=U.size;omega);have b4:=s.get e3 λc=>by have c:w.heap.size=k.heap.size:=c;have:=ax b2;omega
  refine al.dec (λj4=>?_) (λj5=>?_)
  ·have d9:h<o.length:=oM
   have J:o[h]? =some o[h]:=Qq d9;have a4:=Ql V d9;rw[J]at a4;obtain⟨fb,fo,e6,-,-,-,-,ya,yn,yc,rfl,-,b5⟩:=(W.ah q).el h o[h] J;generalize o[h]=K at J a4 b5;refine⟨_,_,_,_,_,_,ae b4 rfl,ae b4 rfl,PC.ok (og (i.ah b3) λa b=>by have:=hD a b;have:=b3.size;omega) ?_⟩;rw[a4];rintro _ e0 ⟨e1,Z,a0,cc,Fm,rfl,c3,e2⟩;have e8:=c3.aB;have l8:=e1.size;refine bN (Ii K Z a0 cc) ⟨_,rfl,PA.mk λl9 i0 m0 i1=>az (fM K Z a0 cc) i1 rfl λi2 i3 m1 a7=>?_⟩;have a5:ai e0 i2:=i0.new i3 λa b=>.inr (by have b:a=e0.heap.size:=b;omega);have b6:=e1.then a5;have e9:=b6.get gx id;refine⟨_,_,_,ae e9 rfl,_,_,_,_,_,_,ae a7 rfl,ae a7 rfl,ae a7 rfl,ae a7 rfl,PA.mk λi4 e5 m2 i5=>?_⟩;have a1:=b6.then e5;have f0:=(c3.ah a5).ah e5;have m3:=c3.len dC;have a8:Row ix 32 i4 Fm Z a0 K.bq:=f0.row dC (by
    obtain⟨_,_,_,_,_,_,_,_,_,_,hq,a8,_⟩:=(W.ah q).el h K J;have h1:=a8.dN;have h2:=a8.len;rw[<-h2];exact h1)
   refine eV (c:=rk) (x:=K) (p.ah a1) SR i5 (D:=Fm) ⟨Z,a0,cc,rfl,a8,b5⟩ (λa b=>⟨by have:=e8 a b;have:=a5.size;omega,λc=>by have:=p.aB a (p.self a c);have:=e2 a b;omega⟩) (by rw[Qy];unfold aK at*;omega) (by rw[Qy];unfold aK at c2;unfold maxLen;omega) λa' c' m4 L f1 c5 c6=>⟨_,_,_,rfl,?_⟩
   have i6:¬aF F=some k.heap.size:=λc=>by have:=I _ (p.self _ c);omega
   have m5:=a1.size;have m6:=c5.size;have e:∀a,L a->E.heap.size<=a:=λa b=>by
    rcases c6 a b with m|m|m
    ·exact I a m
    ·have:=e2 a m;omega
    ·omega
   refine PS.mk (c5.get (a1.get gx id) i6) sM λm7 e7 m8 i7=>⟨_,oM,h+1,aq (by unfold aK at c2;omega),oM,rfl,((s.ah a1).new c5 λa b=>.inr (I a (p.self a b))).then e7,a',H+1,c',L,i7,?_,e⟩
   rw[Qw,J];exact f1.af e7 λa b c=>by have c:a=k.heap.size:=c;have:=e a b;omega
  ·rw[Qz oM]at p
   have i8:ak (·=k.heap.size) E d8:=s;have b7:=s.get (q.get T id) λc=>by have c:g.heap.size=k.heap.size:=c;have:=ax T;omega
   refine⟨_,_,_,ae b7 rfl,_,_,_,ae gx rfl,PA.mk λi9 c7 m9 j0=>?_⟩;have a6:ai S i9:=(q.new s λa b=>.inr (by have b:a=k.heap.size:=b;omega)).then c7;refine eV (c:=mj) (x:=o) (n.ah a6) Ot j0 (D:=Y) ⟨F,H,X,rfl,(p.ah c7).row dC (by rw[<-h0];exact c2)⟩ (λa b=>⟨by have:=p.aB a b;omega,λc=>by have:=n.aB a (n.self a c);have:=I a b;omega⟩) (by rw[Qy];unfold aK at*;omega) (by rw[Qy];unfold aK at b8;unfold maxLen;omega) λa' c' n0 L f2 c8 c6=>⟨_,_,_,rfl,?_⟩
   have j1:¬aF O=some g.heap.size:=λc=>by have:=C _ (n.self _ c);omega
   have n1:=a6.size;have n2:=c8.size;have e:∀a,L a->t.heap.size<=a:=λa b=>by
    rcases c6 a b with m|m|m
    ·exact C a m
    ·have:=I a m;omega
    ·omega
   refine PS.mk (c8.get (c7.get b7 id) j1) sM λn3 c1 n4 j2=>⟨_,oM,j+1,aq (by unfold aK at b8;omega),oM,rfl,((u.ah a6).new c8 λa b=>.inr (C a (n.self a b))).then c1,a',Q+1,c',L,j2,?_,e⟩
   rw[Qw,V];exact f2.af c1 λa b c=>by have c:a=g.heap.size:=c;have:=e a b;omega
 ·rw[Qz oM]at n
  have z5:=z.size;have f4:=u.get gr λc=>by have c:N.heap.size=g.heap.size:=c;omega
  have f7:=((a9.ah A).af u λa b c=>by have c:a=g.heap.size:=c;have:=b9 a b;omega)
  refine⟨_,_,_,_,_,_,ae T rfl,ae T rfl,PS.mk f4 sM λn8 c9 n9 j3=>PS.mk j3 sM λo0 d0 o1 f3=>⟨_,_,_,_,_,_,ae f3 rfl,ae f3 rfl,Ok.mk ⟨_,_,_,_,_,_,λa=>R a\/aF f=some a,rfl,⟨?_,?_⟩,?_,?_⟩⟩⟩
  ·exact(((n.row (bytes:=24) dC (by rw[<-f5];exact b8)).af (c9.then d0) λa b c=>by have c:a=N.heap.size:=c;have:=C a b;omega)).mono λa b=>.inl b
  ·exact(((f7.row (bytes:=40) dC (by rw[<-f6];exact f8)).af (c9.then d0) λa b c=>by have c:a=N.heap.size:=c;have:=b9 a b;omega)).mono λa b=>.inr b
  ·rintro a (b|b)
   ·have:=C a b;have:=n.aB a b;have:=y.size;have:=b0.size;omega
   ·have:=b9 a b;have:=y.size;omega
  ·exact U.new (c9.then d0) λa b=>.inr (by have b:a=N.heap.size:=b;have:=k4.size;omega)
end
variable{a:Nat}{j:Type}
section
variable {w w':World} {D D' S:Nat->Prop} {d:aM} {ta pa:Option Addr} {tn tc pn pc:Nat}
def sA(a:bf):Bool:=if a.kind==4 then !within a.bq.length 1 16 else decide (0<a.bq.length)
def BF(a:List bf):Bool:=!within a.length 1 8||a.any sA
def Iz{b:j->Bool}{c:List j}{d:j}(e:c[a]? =some d)(f:(c.take a).any b=false)(g:b d=false):(c.take (a+1)).any b=false:=by
 rw[Qw,e,List.any_append,f];simp[g]
def KV{c:j->Bool}{d:List j}{b:j}(e:d[a]? =some b)(f:c b=true):d.any c=true:=List.any_eq_true.2 ⟨b,QZ e,f⟩
def fm{g:Type}{h:g->Int}:∀{b:List g} {c:Nat} {d:g},b[c]? =some d->cj h (b.take c)=0->cj h (b.take (c+1))=h d
 |[],c,d,a,_=>by simp at a
 |y::b,0,d,a,_=>by simp at a;subst a;simp[cj];intro a;exact a.symm
 |y::b,c+1,d,a,e=>by
  simp only[List.take_succ_cons,cj]at e⊢;split at e
  ·rename_i f;simp at f;exact absurd e f
  ·rename_i f;rw[if_neg f];exact fm (by simpa using a) e
def oq{c:Type}{b:c->Int}:∀{l:List c} {j:Nat},cj b (l.take j)≠0->cj b l=cj b (l.take j)
 |[],j,a=>by simp at a⊢
 |y::l,0,a=>by simp[cj]at a
 |y::l,j+1,a=>by
  simp only[List.take_succ_cons,cj]at a⊢;split
  ·rfl
  ·rename_i d;rw[if_neg d]at a;exact oq a
def IA(e:bb w D d ta tn pa pn):Calls XP 66 #[.agg #[.slice ta tn tc,.slice pa pn pc]] w (Ok λf w'=>f= .bool (qF d)/\ai w w'):=by
 have s:=e.aS.len;have t:=e.aS.dN;have hp:=e.Em.len;unfold aK at t;refine Ci (PA.mk λY u s1 v=>⟨_,_,_,ae v rfl,PC.ok bU ?_⟩);rintro _ _ ⟨rfl,rfl⟩;refine⟨_,rfl,al.not (al.mk (λj=>⟨_,_,_,ae v rfl,al.dec (λZ=>Ok.mk ⟨?_,u⟩) (λZ=>⟨_,_,_,ae v rfl,λk l w'=>∃b:Nat,l=b/\b<=tn/\k=tn-b/\(d.types.take b).any BF=false/\ai Y w',⟨_,0,rfl,Qj _,rfl,sM,ak.refl _⟩,?_⟩)⟩) (λj=>Ok.mk ⟨?_,u⟩))⟩
 ·unfold qF;rw[<-s,j,if_pos (by simp;omega)]
 rotate_left
 ·unfold qF;rw[<-s,j];rfl
 have x:qF d=d.types.any BF:=by unfold qF BF sA;rw[<-s,j,if_neg (by simp;omega)]
 rintro k l _ w2 ⟨b,rfl,hj,rfl,y,L⟩;have m:=u.then L;refine al.dec (λa8=>?_) (λa9=>?_)
 rotate_left
 ·rw[Qz oM]at y
  exact Ok.mk ⟨by rw[x,y],m⟩
 obtain⟨z,A,B,es,rfl,_,_,C,g,a2,h,c1,rfl,E⟩:=((e.ah m).aS).yV (i:=b) oM;have M:=E.len;have a0:=E.dN;unfold aK at a0;have N:=g 0 dC;simp only[mj,Nat.mul_one,Nat.add_zero]at N;refine⟨z,A,rfl,oM,oM,_,_,_,N,PA.mk λw3 k3 s3 g3=>PS.mk g3 sM λn k4 s4 O=>⟨_,_,_,ae O rfl,PC.ok bU ?_⟩⟩;rintro _ _ ⟨rfl,rfl⟩;have o:ai w2 n:=k3.new k4 λz t=>.inr oM;have F:BF B=true->Ok (λf w'=>f= .bool (qF d)/\ai w w') (.returned (.bool true)) n:=λa=>Ok.mk ⟨by rw[x,KV C a],m.then o⟩;refine⟨_,rfl,al.not (al.mk (λH=>⟨_,_,_,ae O rfl,λk l w'=>∃i:Nat,l=i/\i<=h/\k=h-i/\(B.take i).any sA=false/\ai n w',⟨_,0,rfl,Qj _,rfl,sM,ak.refl _⟩,?_⟩) (λH=>F (by unfold BF;rw[<-M,H];rfl)))⟩;rintro m' t' _ w5 ⟨i,rfl,hi,rfl,I,p⟩;have a3:=(m.then o).then p;refine al.dec (λa6=>?_) (λa7=>?_)
 rotate_left
 ·rw[Qz oM]at I
  exact⟨_,oM,b+1,aq oM,oM,rfl,Iz C y (by unfold BF;rw[<-M,H,I];rfl),(L.then o).then p⟩
 obtain⟨b2,a1,q,b0,rfl,_,_,P,a4,Q,R,S,rfl,T,b1,b3⟩:=((E.ah o).ah p).yV (i:=i) oM;have U:=T.len;have a5:=T.dN;unfold aK at a5;refine⟨b2,a1,rfl,oM,oM,bA (fM q Q R S) rfl a4 (PA.mk λw6 k6 s6 g6=>az (fM q Q R S) g6 rfl λJ k7 s7 K=>⟨_,ae K rfl,?_⟩)⟩;have V:ai w5 J:=k6.new k7 λz t=>.inr oM;have W:sA q=true->Ok (λf w'=>f= .bool (qF d)/\ai w w') (.returned (.bool true)) J:=λa=>Ok.mk ⟨by rw[x,KV C (by unfold BF;rw[KV P a];simp)],a3.then V⟩;have next:sA q=false->∃X,X<h-i/\∃r:Nat,IntKind.wrap .i64 ((i:Int)+1)=r/\r<=h/\X=h-r/\(B.take r).any sA=false/\ai n J:=λa=>
  ⟨_,oM,i+1,aq oM,oM,rfl,Iz P I a,p.then V⟩
 refine al.dA (λc=>⟨_,_,_,ae K rfl,PC.ok bU ?_⟩) (λc=>al.not (al.dA (λg=>absurd g c) (λ_=>⟨_,_,_,ae K rfl,al.dec (λe=>W ?_) (λe=>next ?_)⟩)))
 ·rintro _ _ ⟨rfl,rfl⟩
  refine⟨_,rfl,al.not (al.mk (λa=>al.not (al.dA (λ_=>next ?_) (λg=>absurd c g))) (λa=>W ?_))⟩
  ·unfold sA;rw[c,<-U,a];rfl
  ·unfold sA;rw[c,<-U,a];rfl
 ·unfold sA;rw[if_neg (by simpa using c)];simp only[decide_eq_true_eq];omega
 ·unfold sA;rw[if_neg (by simpa using c)];simp only[decide_eq_false_iff_not];omega
def FX(hT:eA w)(h:bb w D d ta tn pa pn)(hD:∀b,D b->b<w.heap.size):
  Calls XP 40 #[.agg #[.slice ta tn tc,.slice pa pn pc]] w (Ok λC w'=>C= XH (cN d)/\ai w w'):=by
 have hl:=h.aS.len;have g:=h.aS.dN;have b1:=h.Em.len;have a6:=h.Em.dN;unfold aK at g a6;refine Ak (PA.mk λw1 U s1 E=>⟨_,_,_,_,_,_,ae E rfl,ae E rfl,PC.ok (IA (h.ah U)) ?_⟩);rintro _ w2 ⟨rfl,V⟩;have W:=U.then V;have X:=V.get E id;refine⟨_,rfl,al.mk (λu=>Ok.mk ⟨by unfold cN;rw[u];rfl,W⟩) (λu=>⟨_,_,_,ae X rfl,λl c w'=>∃a:Nat,c=a/\a<=tn/\l=tn-a/\cj (λc=>cj (eU c) c) (d.types.take a)=0/\ai w2 w',⟨_,0,rfl,Qj _,rfl,rfl,ak.refl _⟩,?_⟩)⟩;rintro l c _ Y ⟨a,rfl,hj,rfl,v,F⟩;have x:=W.then F;have Z:=F.get X id;have H:∀{w':World},ai w w'->∀a e,d.types[a]? =some e->cj (λc=>cj (eU c) c) (d.types.take a)=0->∀y:Int,cj (eU e) e=y->y≠0->Ok (λC w'=>C= XH (cN d)/\ai w w') (.returned (XH y)) w':=by
  intro w' a2 a e z h0 y hr k;have m:=fm z h0;rw[hr]at m;have h2:=oq (l:=d.types) (j:=a+1) (by rw[m];exact k);refine Ok.mk ⟨?_,a2⟩;unfold cN;rw[u,h2,m];simp[k]
 refine al.dec (λb2=>?_) (λb3=>⟨_,_,_,ae Z rfl,λl c w'=>∃i:Nat,c=i/\i<=pn/\l=pn-i/\cj (lv d) (d.projs.take i)=0/\ai Y w',⟨_,0,rfl,Qj _,rfl,rfl,ak.refl _⟩,?_⟩)
 ·obtain⟨b,I,J,es,rfl,_,_,z,hc,b4,n1,c1,rfl,A⟩:=((h.ah x).aS).yV (i:=a) oM
  have b5:=A.len;have a7:=A.dN;unfold aK at a7;have a0:=hc 0 dC;simp only[mj,Nat.mul_one,Nat.add_zero]at a0;refine⟨b,I,rfl,oM,oM,_,_,_,a0,PA.mk λw4 p s4 g4=>PS.mk g4 sM λK L s5 B=>⟨_,_,_,ae B rfl,λl c w'=>∃i:Nat,c=i/\i<=n1/\l=n1-i/\cj (eU J) (J.take i)=0/\ai K w',⟨_,0,rfl,Qj _,rfl,rfl,ak.refl _⟩,?_⟩⟩;have a8:ai Y K:=p.new L λb g=>.inr oM;rintro m' t' _ M ⟨i,rfl,hi,rfl,f,n⟩;have q:=a8.then n;refine al.dec (λa3=>?_) (λa9=>?_)
  ·obtain⟨N,O,e,b0,rfl,_,_,o,P,Q,R,S,rfl,hM,b6,b7⟩:=(A.ah q).yV (i:=i) oM
   refine⟨N,O,rfl,oM,oM,bA (fM e Q R S) rfl P (PA.mk λw7 j s7 g7=>az (fM e Q R S) g7 rfl λw8 r s8 g8=>⟨_,_,_,ae (r.get (j.get (n.get B id) id) (by have:=n.size;omega)) rfl,au (fM e Q R S) g8 (PC.ok (Gf (hT.ah ?_) (A.ah ?_) (hM.ah ?_)) ?_)⟩)⟩
   ·exact(x.then q).then (j.new r λb g=>.inr oM)
   ·exact q.then (j.new r λb g=>.inr oM)
   ·exact j.new r λb g=>.inr oM
   ·rintro _ w9 ⟨rfl,k9⟩
    have a4:ai M w9:=ak.then (j.new r λb g=>.inr oM) k9;refine⟨_,rfl,al.dB (λk=>?_) (λT=>⟨_,oM,i+1,aq oM,oM,rfl,by rw[fm o f];exact T,n.then a4⟩)⟩;have m:=fm o f;exact H ((x.then q).then a4) a J z v _ (by rw[oq (j:=i+1) (by rw[m];exact k),m]) k
  ·rw[Qz oM]at f
   refine⟨_,oM,a+1,aq oM,oM,rfl,by rw[fm z v];exact f,F.then q⟩
 ·rw[Qz oM]at v
  rintro m' t' _ w4 ⟨i,rfl,hi,rfl,f,p⟩;have s:=x.then p;have a1:cN d=cj (lv d) d.projs:=by unfold cN;rw[u,v];simp
  refine al.dec (λa3=>?_) (λa9=>?_)
  ·obtain⟨N,O,e,b0,rfl,_,_,o,P,rfl,_⟩:=((h.ah s).Em).yV (i:=i) oM
   refine⟨N,O,rfl,oM,oM,bA (pk e) rfl P (PA.mk λK L s5 B=>az (pk e) B rfl λM n s6 g6=>?_)⟩;have t:ai w4 M:=L.new n λb g=>.inr oM;have a5:=t.get (p.get Z id) id;refine⟨_,_,_,_,_,_,ae a5 rfl,ae a5 rfl,au (pk e) g6 (PC.ok (Gh (h.ah (s.then t)) λb g=>by have:=hD b g;have:=(s.then t).size;omega) ?_)⟩;rintro _ w7 ⟨rfl,j⟩;refine⟨_,rfl,al.dB (λk=>Ok.mk ⟨?_,(s.then t).then j⟩) (λT=>⟨_,oM,i+1,aq oM,oM,rfl,by rw[fm o f];exact T,(p.then t).then j⟩)⟩;rw[a1,oq (j:=i+1) (by rw[fm o f];exact k),fm o f]
  ·rw[Qz oM]at f
   exact Ok.mk ⟨by rw[a1,f],s⟩
end
def cz(a:bP)(b:Int):Int×bj:=
 if cN a.decl≠0 then(cN a.decl,(FV a).2)else if eP a b=false then(1,(FV a).2)else FV a
def Uk(c:World)(b:bP)(a:Int)(d:Value)(e:World):Prop:=ai c e/\
 (((cz b a).1≠0/\d= .tuple #[.pointer none,XH (cz b a).1])\/
  ((cz b a).1=0/\∃f g,d= .tuple #[ZQ f,XH 0]/\bO e f g b a (cz b a).2/\(∀h,g h->c.heap.size<=h)/\(cz b a).2.S.l.length<=16777216))
section
variable {w w' w0 w1 w2:World} {p:Nat} {F E D:Nat->Prop} {c:bP} {self:Int}
def RC(hT:eA w0)(hL:Laid w0)(B:ai w0 w){tn Q C R:Nat}(hd:bb w D c.decl d tn r C)(hD:∀a,D a->a<w.heap.size)(hs:aH c.bM)(d4:aH c.every)(d5:aH c.start):
  Calls XP 19 #[vN c d tn Q r C R,XH self] w (Ok (Uk w c self)):=by
 refine Cf (PA.mk λf5 E f6 F=>⟨_,_,_,_,_,_,ae F rfl,ae F rfl,PC.ok (FX (hT.ah (B.then E)) (hd.ah E) λa b=>by have:=hD a b;omega) ?_⟩);rintro _ d6 ⟨rfl,b8⟩;have a3:=E.then b8;have b9:d6.heap[w.heap.size]? =some (.cells (dU c d tn Q r C R).toArray 27 (0,0)):=b8.get F id;refine⟨_,rfl,al.dB (λm=>Ok.mk ⟨a3,.inl ?_⟩) (λS=>au (He c d tn Q r C R) b9 (PC.ok NI ?_))⟩
 ·have:cz c self=(cN c.decl,(FV c).2):=by unfold cz;rw[if_pos m]
  rw[this];exact⟨m,rfl⟩
 rintro _ T ⟨rfl,c1⟩;have H:=a3.then c1;have U:=c1.get b9 id;refine⟨_,rfl,al.not (al.mk (λn=>?_) (λn=>Ok.mk ⟨H,.inl ?_⟩))⟩
 rotate_left
 ·have:cz c self=(1,(FV c).2):=by unfold cz;rw[if_neg (by simpa using S),if_pos n]
  rw[this];exact⟨show(1:Int)≠0 by decide,rfl⟩
 have a4:cz c self=FV c:=by unfold cz;rw[if_neg (by simpa using S),if_neg (by rw[n];simp)]
 have c2:iS c self:=⟨n,S,hs,d4,d5⟩
 have c3:=n;unfold eP within at c3;simp only[QK,decide_eq_true_eq]at c3;refine⟨_,ae U rfl,PC.ok (sF (B.then H) oM oM) ?_⟩;rintro _ c4 ⟨dp,rfl,d7,V⟩;obtain⟨Fd,c5,-,d8,-⟩:=d7;have I:∀a,Fd a->T.heap.size<=a/\a<c4.heap.size:=λa b=>⟨Nat.le_of_not_lt (d8 a b).2,c5.aB a b⟩
 have W:=H.then V;have X:=V.get U id;refine⟨_,_,rfl,al.dB (λm=>absurd rfl m) (λ_=>⟨_,_,_,_,_,_,ae X rfl,ae X rfl,PC.ok (KL (hd.ah W) λa b=>by have:=hD a b;have:=W.size;omega) ?_⟩)⟩;rintro _ c6 ⟨o,Ps,p,q,s,t,J,rfl,d9,K,L⟩;have c7:=W.then L;have e0:=L.get X id;have f8:=E.size;have g1:=H.size;have g2:=V.size;have g3:=L.size;have g4:=ax F;have e9:w.heap.size<T.heap.size:=ax U;refine⟨_,_,_,_,_,_,rfl,PS.mk e0 (by simp[dU]) λg5 e1 g6 e2=>PS.mk e2 (by simp[dU]) λY e3 g7 e4=>λu c8=>?_⟩;have Z:ak (λa=>a=w.heap.size) c6 Y:=e1.then e3;have M:ai Y u:=c8.af;have g8:u.heap.size=Y.heap.size:=by rw[c8.heap]
 have f:u.heap[w.heap.size]? =some (.cells (dU c o Ps p q s t).toArray 27 (0,0)):=M.get e4 id;have c9:ai w u:=(c7.new Z λa b=>.inr (by have b:a=w.heap.size:=b;omega)).then M;have i:∀{a:Nat},T.heap.size<=a->a≠w.heap.size:=λ{a} b=>by omega
 refine⟨λ_=>False,id,_,_,_,_,_,_,_,_,_,_,_,_,_,_,ae f rfl,ae f rfl,ae f rfl,ae f rfl,ae f rfl,ae f rfl,ae f rfl,ae f rfl,ae f rfl,ae f rfl,_,ae f rfl,id,_,ae f rfl,PC.ok (Jb oM) ?_⟩;rintro _ e5 ⟨j,rfl,d0,f2,f3,b4⟩;refine⟨_,rfl,b4,PC.ok Ij ?_⟩;rintro _ h ⟨tp,N,rfl,a5,O,d1⟩;have g9:=b4.size;have h2:=O.size;have d2:=a5.aB;refine⟨_,rfl,O,PA.mk λb5 P h3 e6=>⟨P,?_⟩⟩
 let g:jh:=⟨o,Ps,p,q,s,t,dp,none,0,0,j,tp⟩
 let a2:bj:=⟨⟨c.aD.toNat,[]⟩,TW c.uM.toNat,none,[],⟨c.cP,[],[]⟩⟩
 have d3:b5.heap[h.heap.size]? =some (.cells (w_ g c self none none none) 105 (0,0)):=e6;have a0:ai u b5:=(b4.then O).then P;have a1:=c9.then a0;have b6:∃v,aT b5 (λa=>∃k,(match k with|0=>a=h.heap.size|1=>J a|2=>Fd a|5=>a=j|6=>N a|_=>False:Prop)) v (recC h.heap.size (w_ g c self none none none) g c a2 false):=by
  refine aT.join (G:=λk a=>match k with|0=>a=h.heap.size|1=>J a|2=>Fd a|5=>a=j|6=>N a|_=>False) (λk=>?_) (λl a9 a e hj=>?_) λk a b=>?_
  ·match k with
   |0=>exact⟨rfl,d3⟩
   |1=>exact(((d9.af Z λa b x=>i (by have:=K a b;omega) x).ah M).ah a0)
   |2=>exact⟨Fd,((((c5.af L λ_ _ g=>g).af Z λa b x=>i (I a b).1 x).af M λ_ _ g=>g).af a0 λ_ _ g=>g),λa b=>b,rfl⟩
   |3=>intro x;cases x
   |4=>trivial
   |5=>exact⟨_,_,d0.ah (O.then P),λ_ g=>g,λa b=>b.elim⟩
   |6=>exact a5.ah P
   |k+7=>trivial
  ·have y:∀l:Nat,(match l with|0=>a=h.heap.size|1=>J a|2=>Fd a|5=>a=j|6=>N a|_=>False:Prop)->l=(if a<c4.heap.size then 2 else if a<c6.heap.size then 1 else if a<e5.heap.size then 5 else if a<h.heap.size then 6 else 0):=λl e=>by
    rcases l with _|_|_|_|_|_|_|l
    ·have e:a=h.heap.size:=e
     rw[if_neg oM,if_neg oM,if_neg oM,if_neg oM]
    ·have:=K a e;rw[if_neg oM,if_pos oM]
    ·have:=I a e;rw[if_pos oM]
    ·exact e.elim
    ·exact e.elim
    ·have e:a=j:=e
     rw[if_neg oM,if_neg oM,if_pos oM]
    ·have h5:=d1 a e;have h6:=d2 a e;rw[if_neg oM,if_neg oM,if_neg oM,if_pos oM]
    ·exact e.elim
   rw[y l e,<-y a9 hj]
  ·rcases k with _|_|_|_|_|_|_|k
   ·have b:a=h.heap.size:=b
    omega
   ·have:=K a b;omega
   ·have:=I a b;omega
   ·exact b.elim
   ·exact b.elim
   ·have b:a=j:=b
    omega
   ·have:=d2 a b;omega
   ·exact b.elim
 obtain⟨v,hp⟩:=b6;have b7:∀a,(∃k,(match k with|0=>a=h.heap.size|1=>J a|2=>Fd a|5=>a=j|6=>N a|_=>False:Prop))->w.heap.size<=a:=λa ⟨k,b⟩=>by
  rcases k with _|_|_|_|_|_|_|k
  ·have b:a=h.heap.size:=b
   omega
  ·have:=K a b;omega
  ·have:=I a b;omega
  ·exact b.elim
  ·exact b.elim
  ·have b:a=j:=b
   omega
  ·have:=d1 a b;omega
  ·exact b.elim
 refine PC.ok (xO (h:=g) (z1:=none) (z2:=none) (z3:=none) hp c2 ⟨hT,hL,B.then a1,λa b=>by have:=b7 a b;have:=B.size;omega⟩) ?_;rintro _ e7 ⟨rfl,a6,h',F',z,A,a7⟩;have e8:ic c a2=FV c:=rfl;rw[e8]at A a6⊢;have a8:ai w e7:=a1.new a7.af λa b=>.inr (b7 a b);refine⟨_,rfl,al.dB (λm=>Ok.mk ⟨a8,.inl ?_⟩) (λhz=>Ok.mk ⟨a8,.inr ?_⟩)⟩
 ·rw[a4];exact⟨m,rfl⟩
 ·rw[a4]
  exact⟨hz,_,F',rfl,⟨c2,h',z,A⟩,λa b=>(a7.new a b).elim (b7 a) λh5=>by have:=a1.size;omega,a6⟩
end
def KM(b:World):(callMethod (.iface 103 (ZQ a)) "State" #[XH e,XH m]).run XP b= .ok (.enter 402 #[ZQ a,XH e,XH m]) b:=kR
def FY(b:World):(callMethod (.iface 103 (ZQ a)) "Entries" #[]).run XP b= .ok (.enter 400 #[ZQ a]) b:=kR
def NJ(b:World):(callMethod (.iface 103 (ZQ a)) "Rows" #[XH e]).run XP b= .ok (.enter 401 #[ZQ a,XH e]) b:=kR
def TC(a:aM)(b:List aj)(c d:Int):gA:=match(cm a b).state c d with
 |none=>bz 14
 |some e=>⟨0,(0,0),e,[],[],false⟩
def Ac(c:aM)(d:List aj)(b a:Int):gA:=if b<0\/b>=(c.projs.length:Int)then bz 1 else⟨0,(0,0),⟨0,[]⟩,[],(nd (iw c d b) a 32).1,(nd (iw c d b) a 32).2⟩
section
variable {w w' w0 w1 w2:World} {p:Nat} {F E D:Nat->Prop} {cls:Nat->Nat} {h:jh} {c:bP} {self:Int} {X:bj}
def BA(a:cu w F cls p h c self X):Calls XP 89 #[ZQ p] w (Ok λb w'=>b= .iface 103 (ZQ h.bp)/\w=w'):=
 nE ⟨p,0,rfl,_,ae a.bh rfl,Ok.mk ⟨rfl,rfl⟩⟩
def RA(y:bO w p F c self X):Calls XP 55 #[ZQ p,XH e,XH m] w (Ok λz w'=>dO w (TC c.decl X.S.l e m) z w'/\ai w w'):=by
 obtain⟨A,h,cls,q⟩:=y;refine oK (PA.mk λB f S C=>PC.ok (BA (cu.ah q f)) ?_);rintro _ _ ⟨rfl,rfl⟩;have E:=cu.ah q f;have a:cO B h.bp (λb=>F b/\cls b=4) c.decl c.every.toNat X.S.l:=E.at' 4;refine⟨_,rfl,_,_,KM,PC.ok (Ja a) ?_⟩;rintro _ r ⟨j,k,l,G,rfl,n,s,g⟩;have H:=n.aB;have T:=g.size;refine⟨_,_,_,_,_,rfl,PA.mk λU I V J=>PS.mk J sM λW K Y L=>PS.mk L sM λM N Z o=>?_⟩;have d:ai r M:=I.new (K.then N) λb a=>.inr (by have a:b=r.heap.size:=a;omega);have t:=d.get (g.get C id) id;have b0:=d.size;have u:(((cm c.decl X.S.l).state e m).getD Gs).cells.length<=8:=CT (GD A.decl X.S.l).1 ⟨0,0,0,[],e,m,0,0,0,0⟩;unfold TC
 cases O:(cm c.decl X.S.l).state e m with
 |none=>
  refine al.tt rfl (az (gK (bz 14) none 0 0 none 0 0 none 0 0) t rfl λb1 P b2 Q=>au (gK (bz 14) none 0 0 none 0 0 none 0 0) Q (Ok.mk ⟨dO.plain rfl rfl rfl,?_⟩));exact((f.then g).then d).new P λb a=>.inr (by have a:b=w.heap.size:=a;omega)
 |some i=>
  rw[O]at n u o;refine al.ff rfl ⟨_,_,_,_,ae o rfl,ae o rfl,az (gK ⟨0,(0,0),i,[],[],false⟩ j k l none 0 0 none 0 0) t rfl λb3 v b4 R=>au (gK ⟨0,(0,0),i,[],[],false⟩ j k l none 0 0 none 0 0) R (Ok.mk ⟨?_,?_⟩)⟩
  ·refine⟨j,k,l,none,0,0,none,0,0,G,rfl,((n.ah d).af v λb a x=>by have x:b=w.heap.size:=x;have:=s b a;omega).row dC (by have:i.cells.length<=8:=u;show i.cells.length*32<=aK;unfold aK;omega),cU _ _,cU _ _,λb a=>⟨by have:=s b a;omega,by have:=H b a;omega⟩⟩
  ·exact((f.then g).then d).new v λb a=>.inr (by have a:b=w.heap.size:=a;omega)
def NK(c:aM)(a:List aj)(d:Int):(iw c a d).length<=a.length:=by
 unfold iw;split
 ·simp
 split
 ·simp
 ·rename_i b e
  have g:=Lk c a b (QZ e);have f:=(wZ (b.rows.map (·.2))).length_eq;rw[Q8]at f;show(b.rows.map (·.2)|>.foldr lY []).length<=_;omega
def MC(B:bO w p F c self X):Calls XP 56 #[ZQ p,XH e,XH m] w (Ok λg w'=>dO w (Ac c.decl X.S.l e m) g w'/\ai w w'):=by
 obtain⟨R,h,cls,C⟩:=B;refine mL (PA.mk λi j S s=>?_);have d:=cu.ah C j;have no:(e<0\/e>=(c.decl.projs.length:Int))->mg XP 53 (ZQ w.heap.size) (.agg (fg (bz 1) none 0 0 none 0 0 none 0 0).toArray) i λt=>il XP 53 (ZQ w.heap.size) t λE=>Ok (λg w'=>dO w (Ac c.decl X.S.l e m) g w'/\ai w w') (.returned E) t:=λH=>by
  refine az (gK (bz 1) none 0 0 none 0 0 none 0 0) s rfl λT I U J=>au (gK (bz 1) none 0 0 none 0 0 none 0 0) J (Ok.mk ⟨?_,j.new I λa b=>.inr (by have b:a=w.heap.size:=b;omega)⟩);unfold Ac;rw[if_pos H];exact dO.plain rfl rfl rfl
 have V:=(show bb i (λa=>F a/\cls a=1) c.decl h.ta h.tn h.pa h.pn from d.at' 1).Em.len;refine al.dec (λk=>no (.inl k)) (λk=>⟨p,0,rfl,_,_,_,ae d.bh rfl,al.dec (λu=>no (.inr oM)) (λu=>PC.ok (BA d) ?_)⟩);rintro _ _ ⟨rfl,rfl⟩;have b:cO i h.bp (λa=>F a/\cls a=4) c.decl c.every.toNat X.S.l:=d.at' 4;have W:X.S.l.length<=20000000:=b.1.2.2.2;have Y:=NK c.decl X.S.l e;refine⟨_,rfl,_,_,NJ,PC.ok (Mp b) ?_⟩;rintro _ Z ⟨⟨a0,a1,cc,G,rfl,f,l,hG⟩,K⟩;have hn:=f.len dC;have L:=f.jT;refine⟨_,_,_,rfl,PC.ok (KG (f.row dC (by unfold aK;omega)) f.aB L K oM) ?_⟩;rintro _ M ⟨a2,rfl,n,o,q,N,rfl,v,r,x⟩;have O:=v.aB;have a9:=l.size;have b0:=r.size;have b1:(nd (iw c.decl X.S.l e) m 32).1.length<=32:=by unfold nd;rw[Qy];omega
 have P:ai w M:=(j.then l).then r;refine⟨_,_,_,_,rfl,az (gK ⟨0,(0,0),⟨0,[]⟩,[],(nd (iw c.decl X.S.l e) m 32).1,(nd (iw c.decl X.S.l e) m 32).2⟩ none 0 0 none 0 0 n o q) (r.get (l.get s id) id) rfl λb2 y b3 Q=>au (gK ⟨0,(0,0),⟨0,[]⟩,[],(nd (iw c.decl X.S.l e) m 32).1,(nd (iw c.decl X.S.l e) m 32).2⟩ none 0 0 none 0 0 n o q) Q (Ok.mk ⟨?_,P.new y λa b=>.inr (by have b:a=w.heap.size:=b;omega)⟩)⟩;unfold Ac;rw[if_neg (by rintro(z|z);exact k z;exact u oM)];refine⟨none,0,0,none,0,0,n,o,q,N,rfl,cU _ _,cU _ _,(v.af y λa b A=>by have A:a=w.heap.size:=A;have:=x a b;omega).row dC (by show(nd (iw c.decl X.S.l e) m 32).1.length*24<=aK;unfold aK;omega),λa b=>⟨by have:=x a b;omega,by have:=O a b;omega⟩⟩
end
def BS{c:Type}{d:c->Bool}:∀{L:List c} {j:Nat} {a:c},L[j]? =some a->d a=true->(L.filter d)[((L.take j).filter d).length]? =some a
 |[],j,a,b,_=>by simp at b
 |x::L,0,a,b,e=>by simp at b;subst b;simp[e]
 |x::L,j+1,a,b,e=>by
  have f:=BS (L:=L) (j:=j) (by simpa using b) e;rw[List.take_succ_cons,List.filter_cons,List.filter_cons];split
  ·simpa using f
  ·exact f
variable{E g5:Nat×Nat}{g q:TypeId}
section
variable {w w' wz A B w1:World} {D:Nat->Prop} {a:Option Addr} {n c:Nat} {l:List cy} {O R1 R2 f most:Nat} {own L:List (Bx cy)} {pre:List (List Value)}
def Tn(c a:Int)(b:cy):Bool:=b.ev.aS==c&&b.ev.agg==a
def CQ{f:cy}{a:Option Addr}{n c:Nat}(j:Row aJ 8 w D a n f.ev.aP)(u:∀b,D b->b<w.heap.size):
  Calls XP 149 #[El f a n c] w (Ok λv w'=>∃a n c G,v=El f a n c/\Row aJ 8 w' G a n f.ev.aP/\(∀b,G b->w.heap.size<=b/\b<w'.heap.size)/\ai w w'):=by
 have x:=j.dN;have y:=j.len;refine yx (PA.mk λw1 o B g=>PA.mk λC h E k=>⟨_,_,_,ae (h.get g id) rfl,PC.ok (bC (j.ah (o.then h)) λb d=>by have:=u b d;omega) ?_⟩);rintro _ F ⟨p,q,r,G,rfl,s,i,l⟩;have g:=i.get (h.get g id) id;have k:=i.get k id;have H:=i.size;refine⟨_,_,_,rfl,PS.mk g sM λI m J z=>?_⟩;refine au (cs:=gG f p q r) (kW _ _ _ _) z (az (kW _ _ _ _) (m.get k (λe=>by have e:w1.heap.size=w.heap.size:=e;omega)) rfl λK t L A=>au (kW _ _ _ _) A (Ok.mk ⟨p,q,r,G,rfl,?_,?_,?_⟩))
 ·refine(((s.af m λb d e=>?_).af t λb d e=>?_).row (bytes:=8) dC (by rw[<-y];exact x))
  ·have e:b=w.heap.size:=e;have:=l b d;omega
  ·have e:b=w1.heap.size:=e;have:=l b d;omega
 ·intro b d
  have:=l b d;have:=s.aB b d;omega
 ·exact((((o.then h).then i).new m λb d=>.inr (by have d:b=w.heap.size:=d;omega)).new t λb d=>.inr (by have d:b=w1.heap.size:=d;omega))
def NY{f:cy}{h i:Nat}(k:w.heap[h]? =some (.cells #[XH e] g E))(l:w.heap[i]? =some (.cells #[XH m] q g5)):
  Calls XP 148 #[El f a n c,ZQ h,ZQ i] w (Ok λo w'=>o= .bool (Tn e m f)/\ai w w'):=by
 refine yw (PA.mk λw1 b p j=>⟨_,ae j rfl,_,ae (b.get k id) rfl,al.mk (λd=>⟨_,ae j rfl,_,ae (b.get l id) rfl,Ok.mk ⟨?_,b⟩⟩) (λd=>Ok.mk ⟨?_,b⟩)⟩)
 ·unfold Tn;rw[d];rfl
 ·unfold Tn;rw[d];rfl
structure Oh (wz:World) (O:Nat) (own:List (Bx cy)) (f most:Nat) (pre:List (List Value)) (A:World):Prop where
 af:ak (·=O) wz A
 dN:wz.heap.size+2<=A.heap.size
 mf:∃a n c G,A.heap[O]? =some (.cells #[.slice a n c] 50 (0,0))/\aO vF 133 G A a n c (((own.take pre.length).drop f).map (·.x))/\(∀b,G b->wz.heap.size+2<=b)/\n<=most
structure UA (wz:World) (O R1 R2:Nat) (own:List (Bx cy)) (f most:Nat) (A:World):Prop where
 af:ak (λb=>b=O\/b=R1\/b=R2) wz A
 r2:A.heap[R2]? =some (.cells #[.bool true] 4 (0,0))
 more:most<(own.drop f).length
 mf:∃a n c G,A.heap[R1]? =some (.cells #[.slice a n c] 50 (0,0))/\aO vF 133 G A a n c (((own.drop f).take most).map (·.x))/\(∀b,G b->wz.heap.size+2<=b)
def Oh.ah(d:Oh wz O own f most pre A)(b:ai A B):Oh wz O own f most pre B:=by
 obtain⟨e,g,a,n,c,G,h,i,j⟩:=d;exact⟨e.ah b,Xx g b.size,a,n,c,G,b.get h id,i.ah b,j⟩
def Oh.d_(p:O<wz.heap.size)(i:Oh wz O own f most pre A)(j:pO (wz.heap.size+1) A B):Oh wz O own f most pre B:=by
 obtain⟨k,q,a,n,c,G,l,m,h,o⟩:=i;obtain⟨g,r⟩:=j;exact⟨k.new g λd e=>.inr (by have e:d=wz.heap.size+1:=e;omega),oM,a,n,c,G,g.get l (λb=>by have b:O=wz.heap.size+1:=b;omega),m.af g λd e b=>by have b:d=wz.heap.size+1:=b;have:=h d e;omega,h,o⟩
def UA.d_(r:O<wz.heap.size/\R1<wz.heap.size/\R2<wz.heap.size)(i:UA wz O R1 R2 own f most A){k:Nat}(s:wz.heap.size<=k/\k<=wz.heap.size+1)(j:pO k A B):UA wz O R1 R2 own f most B:=by
 obtain⟨l,m,o,a,n,c,G,p,q,h⟩:=i;obtain⟨d,t⟩:=j;exact⟨l.new d λe g=>.inr (by have g:e=k:=g;omega),d.get m (λb=>by have b:R2=k:=b;omega),o,a,n,c,G,d.get p (λb=>by have b:R1=k:=b;omega),q.af d λe g b=>by have b:e=k:=b;have:=h e g;omega,h⟩
def SF{s t u v:Nat}{R:World->Prop}{Rx:World->Prop}(hO:O<wz.heap.size)(Y:wz.heap[s]? =some (.cells #[XH e] g E))(Z:wz.heap[t]? =some (.cells #[XH m] q g5))(h1:s≠O)(h2:t≠O)(w:∃k f,wz.heap[u]? =some (.cells #[.slice a n c] k f))(h3:u≠O)(x:∃k f,wz.heap[v]? =some (.cells #[.func (.func 148) #[] #[ZQ s,ZQ t]] k f))(h4:v≠O)(J:Row Lh.jk 120 wz D a n L)(hD:∀b,D b->b<wz.heap.size/\b≠O)(K:own=L.filter λb=>Tn e m b.x)(b6:L.length<=20000000)(hR:∀A B,R A->ak (nx wz) A B->R B)(hy:∀pre o A,Oh wz O own f most pre A->R A->sR [XH 0,El ⟨rl,false,(0,0)⟩ none 0 0] o->(∃b,own[pre.length]? =some b/\o=[XH (pre.length:Int),El b.x b.a b.n b.c])->jt XP (wz.heap.size+1) o A λb h=>(b=true/\Oh wz O own f most (pre++[o]) h/\R h)\/(b=false/\UA wz O R1 R2 own f most h/\Rx h))(M:Oh wz O own f most [] w1)(a4:R w1):
  Calls XP 214 #[.func (.yield (wz.heap.size+1)) #[] #[],ZQ u,ZQ v] w1 (λk h=>(∃a0,k= .returned a0)/\((R h/\∃l:List (List Value),Oh wz O own f most l h/\l.length=own.length)\/(UA wz O R1 R2 own f most h/\Rx h))):=by
 obtain⟨e3,f3,w⟩:=w;obtain⟨e4,f4,x⟩:=x;have hn:=J.len;refine ux ⟨_,_,_,ae (M.af.get w h3) rfl,λN a1 y w'=>∃(d:Nat) (pre:List (List Value)),y=d/\d<=n/\N=n-d/\a1=(pre.length:Int)/\pre.length=((L.take d).filter λb=>Tn e m b.x).length/\Oh wz O own f most pre w'/\R w',⟨_,0,[],rfl,Qj _,rfl,rfl,rfl,M,a4⟩,?_⟩;rintro N _ _ _ P ⟨d,pre,rfl,hj,rfl,rfl,j,p,Q⟩;refine al.dec (λb7=>?_) (λb8=>?_)
 ·obtain⟨b,i⟩:∃b,L[d]? =some b:=⟨_,Qq oM⟩
  obtain⟨a2,a3,es,ha,a5,a6,z,rfl,-⟩:=(J.af p.af λb i=>(hD b i).2).el d b i;have b3:pre.length<=20000000:=by
   rw[j];have h5:=List.length_filter_le (λb:Bx cy=>Tn e m b.x) (L.take d);have h6:=List.length_take_le d L;omega
  refine⟨a2,a3,ha,oM,oM,bA (es:=gG b.x b.a b.n b.c) (k:=13) (kW _ _ _ _) rfl (λy ht=>by rw[Qx];exact z y ht) (PA.mk λb9 a7 c1 a8=>az (kW b.x b.a b.n b.c) a8 rfl λa9 b0 c2 S=>?_)⟩;have T:ai P a9:=a7.new b0 λb i=>.inr (by have i:b=P.heap.size:=i;omega);have C:=p.ah T;refine⟨_,ae (C.af.get x h4) rfl,au (kW b.x b.a b.n b.c) S ⟨_,_,_,rfl,kR,PC.ok (NY (C.af.get Y h1) (C.af.get Z h2)) ?_⟩⟩;rintro _ b1 ⟨rfl,U⟩;have V:=T.then U;have W:=p.ah V;have X:=hR _ _ Q (ai.af V);refine⟨_,rfl,al.not (al.mk (λr=>?_) (λr=>⟨_,oM,d+1,pre,aq oM,oM,rfl,rfl,?_,W,X⟩))⟩
  rotate_left
  ·rw[Qw,i,List.filter_append,j];simp[r]
  refine au (kW b.x b.a b.n b.c) (U.get S id) ⟨_,rfl,(hy pre _ b1 W X ?_ ⟨b,?_,rfl⟩).mono ?_⟩
  ·exact λφ F=>F pre.length b.x.ev.origin b.x.ev.seq b.x.ev.ay b.a b.n b.c b.x.ev.aS b.x.ev.agg b.x.ev.field b.x.ev.op b.x.ev.arg b.x.ev.key b.x.void b.x.Ek.1 b.x.Ek.2
  ·rw[K,j];exact BS i r
  ·rintro b' h (⟨rfl,H,b5⟩|⟨rfl,I,b2⟩)
   ·refine al.ff rfl ⟨_,oM,d+1,pre++[_],aq oM,oM,rfl,?_,?_,H,b5⟩
    ·rw[aq oM];simp
    ·rw[Qw,i,List.filter_append,QX,QX,<-j];simp[r]
   ·exact al.tt rfl ⟨⟨_,rfl⟩,.inr ⟨I,b2⟩⟩
 ·rw[Qz oM]at j
  exact⟨⟨_,rfl⟩,.inl ⟨Q,pre,p,by rw[K];exact j⟩⟩
end
end Go.Proofs.YtjgjkeponbeekaaGreatDoor

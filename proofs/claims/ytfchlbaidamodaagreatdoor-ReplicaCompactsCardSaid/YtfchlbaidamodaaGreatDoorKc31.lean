import Derived.Test.YtfchlbaidamodaaGreatDoorKc30
set_option linter.all false
set_option maxRecDepth 20000
namespace Go.Proofs.YtfchlbaidamodaaGreatDoor
open Go.ax
section
variable {w w' w0 w1 w2:World} {p:Nat} {F E Dv:Nat->Prop} {cls:Nat->Nat} {h:ko} {c:cz} {self:Int} {X:bw} {m:dz} {va ea:Option Addr} {vn vc en ec:Nat}
def kU.vf(a:kU c self):1<=c.chunk/\c.chunk<=32:=by
 have:=a.right;unfold gG within at this;simp only[QK,decide_eq_true_eq]at this;omega
def kf(hr:bP w p F c self X)(he:Env w0 w F)(V:Row aP 8 w Dv va vn m.vec)(f2:∀a,Dv a->a<w.heap.size/\¬F a)(c7:Row fZ 96 w E ea en m.events)(hE:∀a,E a->a<w.heap.size/\¬F a)(hl:X.S.l.length<=18000000):
  Calls ZQ 23 #[ZX p,kD m va vn vc ea en ec] w (Ok λW w'=>∃s g,W= .tuple #[s,QH (bA c self X m).2.1]/\fx w g (bA c self X m).1 s w'/\bP w' p g c self (bA c self X m).2.2/\de F w g w'):=by
 have b0:=hr;obtain⟨y,h,cls,i⟩:=hr;have J:=i.aF;obtain⟨f3,h7,h9⟩:=y.bl;have i0:=y.vf;refine lY (PA.mk λw8 Y s8 g8=>?_);have h8:=c_.af i Y;have no:∀{w1:World} {j:Int},ai w w1->bA c self X m=([],j,X)->Ok (λW w'=>∃s g,W= .tuple #[s,QH (bA c self X m).2.1]/\fx w g (bA c self X m).1 s w'/\bP w' p g c self (bA c self X m).2.2/\de F w g w') (.returned (.tuple #[.slice none 0 0,QH j])) w1:=λ{w1 j} K Z=>by
  rw[Z];exact Ok.mk ⟨_,F,rfl,fx.nil _ _ _,b0.af K,ai.keep K,λa b=>.inl b⟩
 refine⟨p,0,rfl,_,ae h8.bG rfl,fQ Tryz.underlying95 ⟨_,rfl,?_⟩⟩;have c8:DL w (λa=>F a/\cls a=2) h.dp h.lp X.D X.log:=i.at' 2
 cases z:X.log with
 |none=>
  obtain⟨Fd,-,-,k⟩:=c8;rw[z]at k;have k:h.lp=none:=k;rw[k];exact al.tt rfl (no Y (by unfold bA;rw[z]))
 |some a8=>
 obtain⟨a9,a0,a6,-⟩:=DL.Qo (z▸c8) (he.sub λa b=>b.1) λa b=>J a b.1;have L:∀{r},(if dJ m c.bl.toNat c.chunk≠0 then([],dJ m c.bl.toNat c.chunk,X)else if m.qF≠self then([],1,X)else if m.kind=3 then ia c self X m else
   if m.kind≠4 then(mE X.S self m c.chunk,0,{X with fP:=X.fP.AP m.ck m.vec X.S.vec})else
   if X.S.missing m.vec c.chunk=[]then([],0,{X with fP:=X.fP.AP m.ck m.vec X.S.vec})else([⟨3,self,m.ck,[],X.S.missing m.vec c.chunk⟩],0,{X with fP:=X.fP.AP m.ck m.vec X.S.vec}))=r->bA c self X m=r:=λ{r} n=>by rw[<-n];unfold bA;rw[z]
 rw[a0];refine al.ff rfl λf4 c9=>?_;have M:ai w f4:=Y.then c9.keep;have d0:=c_.af i M;have d1:=(c9.keep (S:=λ_=>False)).get g8 id;refine aw (j_ m va vn vc ea en ec) d1 ⟨p,0,rfl,_,ae d0.bG rfl,p,0,rfl,_,ae d0.bG rfl,?_⟩;rw[f3];refine PC.ok (Qd (V.af M) (c7.af M) oM) ?_;rintro _ i1 ⟨rfl,d2⟩;have a1:=M.then d2;have f5:=c_.af i a1;have d3:=d2.get d1 id;refine⟨_,rfl,al.dw (λt=>no a1 (L (if_pos t))) (λt=>⟨_,ae d3 rfl,p,0,rfl,_,ae f5.bG rfl,λf6 d4=>?_⟩)⟩;have l:ai w f6:=a1.then d4.keep;have i2:=c_.af i l;have b8:=(d4.keep (S:=λ_=>False)).get d3 id;have b9:¬dJ m c.bl.toNat c.chunk≠0:=by simpa using t
 refine al.dw (λN=>no l (L ((if_neg b9).trans (if_pos N)))) (λN=>⟨_,ae b8 rfl,al.dX (λk=>?_) (λk=>λd5 d6=>?_)⟩)
 ·have Z:=L (((if_neg b9).trans (if_neg (by simpa using N))).trans (if_pos k))
  have d7:m.events.length<=1000:=by
   have e:=t;unfold dJ at e;simp only at e;rw[if_pos k]at e;split at e
   ·cases e
   ·unfold ez at e
    split at e
    ·cases e
    split at e
    ·cases e
    ·omega
  refine aw (j_ m va vn vc ea en ec) b8 (PC.ok (Qp (b0.af l) (he.af l) z (c7.af l) (λa b=>⟨by have:=(hE a b).1;have:=l.size;omega,(hE a b).2⟩) d7 hl) ?_);rintro _ i3 ⟨s,g,rfl,b1,g0,b2⟩;have g1:=b1;obtain⟨a2,n2,c2,a7,D,rfl,o2,o3,o4,o5,o6⟩:=b1;refine⟨_,_,_,_,rfl,Ok.mk ?_⟩;have f0:=l.size;rw[Z];exact⟨_,g,rfl,⟨a2,n2,c2,a7,D,rfl,o2,o3,o4,λa b=>⟨by have:=(o5 a b).1;omega,(o5 a b).2⟩,λa b=>⟨by have:=(o6 a b).1;omega,(o6 a b).2⟩⟩,g0,(ai.keep l).then b2.keep,λa b=>(b2.new a b).imp id λe=>oM⟩
 ·have c0:ai w d5:=l.then d6.keep
  have O:=c_.af i c0;have c1:=(d6.keep (S:=λ_=>False)).get b8 id;have d8:eG d5 h.tp (λa=>F a/\cls a=6) X.fP:=O.at' 6;have fz:=(O.at' 3).1;have nS:¬(F p/\cls p=6):=λj=>by have:=j.2;rw[i.Kp.2]at this;cases this
  have d9:¬(F w.heap.size/\cls w.heap.size=6):=λj=>by have:=J _ j.1;omega
  refine⟨λa=>F a/\cls a=6,p,0,rfl,nS,_,ae O.bG rfl,d9,_,ae c1 rfl,d9,_,_,_,ae c1 rfl,p,0,rfl,_,ae O.bG rfl,PC.ok (mi fz) ?_⟩;rintro _ g2 ⟨a2,n2,c2,G,rfl,e0,A,hG⟩;have hN:X.S.n<=64:=fz.1.n;have g3:Row aP 8 g2 G a2 n2 X.S.vec:=e0.row dC (by rw[X.S.b_];unfold aQ;omega);have i4:=c0.size;have i5:=A.size;have B:=c0.then A;refine⟨_,_,_,rfl,ai.keep A,PC.ok (Kr (d8.af A) ((V.af B).uv) g3.uv λ_=>dN.2 λa b n=>?_) ?_⟩
  ·have:=hG a (e0.self a b);have:=J a n.1;omega
  rintro _ c4 ⟨G6,rfl,a3,b3⟩;obtain⟨P,f,C,d,-⟩:=(c_.af i B).Ec cj (k:=6) (G':=G6) (C2:=mf p (h.cells c self) h c {X with fP:=X.fP.AP m.ck m.vec X.S.vec} X.S.l) b3 a3.aF a3 λa4 G hj t=>by
   rcases a4 with _|_|_|_|_|_|_|a4<;>first|exact t|exact absurd rfl hj
  have o:de F w P c4:=⟨(ai.keep B).then d.keep,λa b=>(d.new a b).imp id λe=>by have:=B.size;omega⟩
  have Q:=d.keep.get (A.get c1 id) λn=>by have:=J _ n;omega
  have b4:=(V.af B).keep d.keep λa b=>(f2 a b).2;have i6:=o.keep.size;have c5:=λ{r} n=>L (r:=r) (((if_neg b9).trans (if_neg (by simpa using N))).trans ((if_neg k).trans n));refine⟨_,rfl,b3.keep,_,ae Q rfl,al.dw (λR=>λe1 g4=>?_) (λR=>λe2 g5=>?_)⟩
  ·have H:ai c4 e1:=g4.keep
   have u:=c_.af C H;have i7:=H.size;refine⟨p,0,rfl,_,ae u.bG rfl,p,0,rfl,_,ae u.bG rfl,aw (j_ m va vn vc ea en ec) (H.get Q id) ⟨p,0,rfl,_,ae u.bG rfl,PC.ok (Ks (u.at' 3).1 (show X.S.l.length<=20000000 by omega) (b4.af H)) ?_⟩⟩;rintro _ g6 c6;obtain⟨a5,S,c3,rfl⟩:=c6.sl;have b5:ai e1 g6:=by obtain⟨_,_,_,_,_,_,_,_,_,_,_,K⟩:=c6;exact K
   refine⟨_,_,_,rfl,Ok.mk ?_⟩;rw[c5 (if_pos R)];exact⟨_,P,rfl,c6.out u.aF oM,⟨y,h,f,c_.af u b5⟩,(o.keep.af H).af b5,o.new⟩
  ·have q:ai c4 e2:=g5.keep
   have I:=c_.af C q;have i8:=q.size;refine⟨p,0,rfl,_,ae I.bG rfl,_,_,_,ae (q.get Q id) rfl,p,0,rfl,_,ae I.bG rfl,PC.ok (zN (I.at' 3).1 (by show X.S.l.length<=_;omega) (b4.af q)) ?_⟩;rintro _ e3 ⟨a5,S,c3,G3,rfl,T,v,g7⟩;have e4:=T.len dC;have b6:=T.aF;have e5:=c_.af I v;have i9:=v.size;have d7:(X.S.missing m.vec c.chunk).length<=32:=by
    unfold aq.missing;rw[Qy];omega
   change aV fZ 59 G3 e3 a5 S c3 (X.S.missing m.vec c.chunk)at T
   refine⟨_,_,_,rfl,al.dec (λh6=>λe6 g9=>?_) (λhz=>Ok.mk ?_)⟩
   ·have e7:X.S.missing m.vec c.chunk≠[]:=λj=>by
     have b7:S=(X.S.missing m.vec c.chunk).length:=e4;rw[j,List.length_nil]at b7;omega
    have x:ai e3 e6:=g9.keep;have e8:=c_.af e5 x;have j0:=x.size;refine⟨p,0,rfl,_,ae e8.bG rfl,_,ae (x.get (v.get (q.get Q id) id) id) rfl,PA.mk λh0 U j1 h2=>Ok.mk ?_⟩;have hm:bB e2 [⟨3,self,m.ck,[],X.S.missing m.vec c.chunk⟩] (.slice (ZZ e6.heap.size) 1 1) h0:=bB.one (m:=⟨3,self,m.ck,[],X.S.missing m.vec c.chunk⟩) (va:=none) (vn:=0) (vc:=0) (D:=G3) h2 ⟨eE _ _,((T.af x).af U).row dC (by unfold aQ;omega)⟩ (λa b=>⟨g7 a b,by have:=b6 a b;omega,by have:=b6 a b;omega⟩) oM ((v.then x).then U);rw[c5 ((if_neg (by simpa using R)).trans (if_neg e7))];exact⟨_,P,rfl,hm.out I.aF oM,⟨y,h,f,c_.af e8 U⟩,(((o.keep.af q).af v).af x).af U,o.new⟩
   ·have e9:X.S.missing m.vec c.chunk=[]:=QW (by
     have b7:S=(X.S.missing m.vec c.chunk).length:=e4;omega)
    rw[c5 ((if_neg (by simpa using R)).trans (if_pos e9))];exact⟨_,P,rfl,fx.nil _ _ _,⟨y,h,f,e5⟩,(o.keep.af q).af v,o.new⟩
end
variable{e:Int}
section
variable {w w' w0 w1 w2:World} {p:Nat} {F E Dv:Nat->Prop} {cls:Nat->Nat} {h:ko} {c:cz} {self:Int} {X:bw}
def FU(P:bP w p F c self X)(u:Env w0 w F)(Q:aN e):
  Calls ZQ 26 #[ZX p,QH e] w (Ok λR w'=>∃s,R= QH (iS c X e).1/\bP w' p s c self (iS c X e).2/\de F w s w'/\(iS c X e).2.S.l.length<=16777216):=by
 obtain⟨C,h,cls,t⟩:=P;have b8:=t.aF;have b9:=t.Kp;have v:bS w F cls (recC p (yQ h c self h.lp (ZZ h.sp) (ZZ h.bp)) {h with lp:=none} c {X with log:=none} false):=
  ⟨λk=>by
   have g:=t.at' k;rcases k with _|_|_|_|_|_|_|k<;>first|exact g|trivial|(intro S;cases S)|(obtain⟨Fd,j,x,T⟩:=g;exact⟨Fd,j,x,rfl⟩),t.aF⟩
 obtain⟨Fd,U,o,-⟩:=(show DL w (λa=>F a/\cls a=2) h.dp none X.D none from v.at' 2)
 refine nE ⟨p,0,rfl,_,ae (v.at' 0).2 rfl,PC.ok (Md U Q) ?_⟩;rintro _ V ⟨E,rfl,H,I⟩;obtain⟨W,Y,y,q,-⟩:=v.Ec iw (k:=2) (G':=E) (C2:=recC p (yQ h c self h.lp (ZZ h.sp) (ZZ h.bp)) {h with lp:=none} c {X with log:=none,D:=X.D.eA e} false) ⟨I.keep.mono λa _ b=>o a b,λa b=>(I.new a b).imp (o a) id⟩ (λa b=>H.aF a b) ⟨E,H,λa b=>b,rfl⟩ λd G l g=>by
  rcases d with _|_|_|_|_|_|_|d<;>first|exact g|exact absurd rfl l
 obtain⟨J,Db,b,K,hD⟩:=(show Mw V (λa=>W a/\Y a=5) h.wp c.buffer.toNat X.waits from y.at' 5)
 refine⟨rfl,p,0,rfl,_,ae (y.at' 0).2 rfl,PC.ok (vG b) ?_⟩;rintro _ c0 ⟨rfl,L,Z⟩;obtain⟨m,i,f,n,-⟩:=y.Ec iw (k:=5) (G':=J) (C2:=recC p (yQ h c self h.lp (ZZ h.sp) (ZZ h.bp)) {h with lp:=none} c {X with log:=none,D:=X.D.eA e,waits:=[]} false) ⟨Z.mono λa _ b=>K a b,λa b=>.inl (K a b)⟩ L.Qs ⟨J,_,L,λ_ h=>h,λa b=>b.elim⟩ λd G l g=>by
  rcases d with _|_|_|_|_|_|_|d<;>first|exact g|exact absurd rfl l
 refine⟨rfl,p,0,rfl,_,ae (f.at' 0).2 rfl,PC.ok (Kt (f.at' 6)) ?_⟩;rintro _ z ⟨rfl,a3,M⟩;have A:bS z m i (recC p (yQ h c self h.lp (ZZ h.sp) (ZZ h.bp)) {h with lp:=none} c {X with log:=none,D:=X.D.eA e,waits:=[],fP:=⟨X.fP.dx,[],[]⟩} false):=f.same iw (k:=6) M a3 λd G l g=>by
  rcases d with _|_|_|_|_|_|_|d<;>first|exact g|exact absurd rfl l
 have N:de F w m z:=by
  have j:=q.trans n;exact⟨j.keep.new (M.mono λa _ b=>b.1) λa b=>j.new a b,j.new⟩
 have a5:=u.Ec N;have b3:=DL.nY (show DL z (λa=>m a/\i a=2) h.dp none (X.D.eA e) none from A.at' 2) (a5.sub λa b=>b.1);refine⟨rfl,p,0,rfl,_,ae (A.at' 0).2 rfl,PC.ok (Pk u.laid b3) ?_⟩;rintro _ c1 ⟨rfl,a0,b4⟩;obtain⟨G2,b5,a6,b6,-⟩:=DL.OG (Y:=λ_=>False) (a0.mono λa b=>b.elim id False.elim) b4;obtain⟨c2,b7,a7,a1,-⟩:=A.Ec iw (k:=2) (G':=G2) (C2:=recC p (yQ h c self h.lp (ZZ h.sp) (ZZ h.bp)) {h with lp:=none} c {X with log:=none,D:=dH (X.D.eA e),waits:=[],fP:=⟨X.fP.dx,[],[]⟩} false) a6 b6 (by
   obtain⟨Fd,j,x,T⟩:=b5;exact⟨Fd,j,x,rfl⟩) λd G l g=>by
  rcases d with _|_|_|_|_|_|_|d<;>first|exact g|exact absurd rfl l
 have O:=N.trans a1;refine⟨rfl,PC.ok (zO (h:={h with lp:=none}) (z1:=h.lp) (z2:=ZZ h.sp) (z3:=ZZ h.bp) a7 C (u.Ec O)) ?_⟩;rintro _ c3 ⟨rfl,a8,h',s,r,B,a9⟩;exact⟨_,rfl,Ok.mk ⟨s,rfl,⟨C,h',r,B⟩,O.trans a9,a8⟩⟩
def Sq(s:bP w p F c self X)(t:aN e):
  Calls ZQ 59 #[ZX p,QH e] w (Ok λu w'=>∃m,u= .tuple #[]/\bP w' p m c self {X with D:=X.D.Ma e}/\de F w m w'):=by
 obtain⟨v,h,cls,i⟩:=s;obtain⟨Fd,x,j,d⟩:=(show DL w (λa=>F a/\cls a=2) h.dp h.lp X.D X.log from i.at' 2)
 refine oK ⟨p,0,rfl,_,ae i.bG rfl,PC.ok (Pz t x) ?_⟩;rintro _ n ⟨rfl,y,k⟩;have z:c_ n F cls p h c self {X with D:=X.D.Ma e}:=bS.same i cj (k:=2) (k.keep.mono λa _ b=>j a b) (by
  refine⟨Fd,y,j,?_⟩;show match X.log with
   |none=>h.lp=none
   |some l=>l.aX≠[]/\∃f g,h.lp=some ⟨f,0,none⟩/\jr n h.dp f g l/\∀a,g a->(F a/\cls a=2)/\¬Fd a
  cases o:X.log with
  |none=>rw[o]at d;exact d
  |some l=>
   rw[o]at d;obtain⟨A,f,g,B,C,q⟩:=d;exact⟨A,f,g,B,C.keep k.keep λa b=>(q a b).2,q⟩) λr G E H=>by
  rcases r with _|_|_|_|_|_|_|r<;>first|exact H|exact absurd rfl E
 exact⟨rfl,Ok.mk ⟨F,rfl,⟨v,h,cls,z⟩,k.keep.mono λa _ b=>(j a b).1,λa b=>.inl b⟩⟩
def EY{V:cY}{D:ak}{l:List ah}{size:Int}(b:(aU V D l size).no=0):(aU V D l size).V.aX≠[]:=by
 revert b
 unfold aU;split
 ·rename_i a;intro h;exact absurd h a
 split
 ·rename_i a;intro h;exact absurd h a
 ·exact DD
def zn(R:bP w p F c self X)(B:Env w0 w F)(hl:X.S.l.length<=18000000):
  Calls ZQ 25 #[ZX p] w (Ok λa2 w'=>∃S,a2= QH (eC c X).1/\bP w' p S c self (eC c X).2/\de F w S w'):=by
 have a6:=R;obtain⟨T,h,cls,o⟩:=R;have a8:=o.aF;refine lZ ⟨p,0,rfl,_,ae o.bG rfl,fQ Tryz.underlying95 ⟨_,rfl,?_⟩⟩;have U:DL w (λa=>F a/\cls a=2) h.dp h.lp X.D X.log:=o.at' 2
 cases m:X.log with
 |none=>
  obtain⟨Fd,-,-,j⟩:=U;rw[m]at j;have j:h.lp=none:=j;rw[j];have q:eC c X=(15,X):=by unfold eC;rw[m]
  rw[q];exact al.tt rfl (Ok.mk ⟨F,rfl,a6,de.refl _ _⟩)
 |some d=>
 obtain⟨z,f,C,-⟩:=DL.Qo (m▸U) (B.sub λa b=>b.1) λa b=>a8 a b.1;have E:∀{k},(if(aU d X.D X.S.l c.aZ).no≠0 then((aU d X.D X.S.l c.aZ).no,{X with D:=(aU d X.D X.S.l c.aZ).D})else(0,{X with D:=(aU d X.D X.S.l c.aZ).D,log:=some (aU d X.D X.S.l c.aZ).V}))=k->eC c X=k:=λ{k} H=>by rw[<-H];unfold eC;rw[m]
 rw[f];refine al.ff rfl λw9 d9=>?_;have V:ai w w9:=d9.keep;have n:=c_.af o V;have W:=o.Kp;have I:¬(F p/\cls p=2):=λr=>by have:=r.2;rw[W.2]at this;cases this
 refine⟨λa=>F a/\cls a=2,p,0,rfl,I,_,ae n.bG rfl,p,0,rfl,I,_,ae n.bG rfl,p,0,rfl,_,ae n.bG rfl,p,0,rfl,I,_,ae n.bG rfl,PC.ok (sD (n.at' 3).1 oM) ?_⟩;rintro _ s ⟨b6,b7,cc,G,rfl,Y,J,hG⟩;have A:=c_.af n J;have t:=V.then J;have a9:=Y.aF;obtain⟨Z,i,-,K⟩:=DL.Qo (show DL s (λa=>F a/\cls a=2) h.dp h.lp X.D (some d)from m▸A.at' 2) ((B.af t).sub λa b=>b.1) λa b=>A.aF a b.1;have H:Z=z:=by rw[f]at i;cases i;rfl
 subst H;refine⟨_,_,_,rfl,ai.keep J,?_⟩;rw[f];refine PC.ok (Jo B.laid K (Y.row dC (by unfold aQ;omega)) a9 oM) ?_;have a0:=EY (V:=d) (D:=X.D) (l:=X.S.l) (size:=c.aZ);generalize aU d X.D X.S.l c.aZ=k at E a0;rintro _ a3 ⟨L,a4,b0,a5,⟨u,rfl,b1⟩|⟨u,q3,rfl,b2⟩⟩
 ·obtain⟨Fd,h1,h2,j,h4⟩:=b1
  have M:∀a,¬(a<s.heap.size/\¬(F a/\cls a=2))->(F a/\cls a=2)\/s.heap.size<=a:=λa b=>by
   rcases Nat.lt_or_ge a s.heap.size with N|N
   ·exact .inl (Classical.byContradiction λh8=>b ⟨N,h8⟩)
   ·exact .inr N
  have a1:aj (λa=>F a/\cls a=2) s a3:=a5.mono λa b8 b=>(M a b).resolve_right oM;obtain⟨O,l,g,v,-⟩:=A.fr cj (k:=2) (G':=λa=>Fd a\/L a) (C2:=mf p (h.cells c self) h c {X with D:=k.D} X.S.l) a1 (λa b=>b.elim (λx=>M a λh6=>(j a x).2 (.inl h6)) λx=>M a (b0 a x).2) (λa b=>b.elim (h1.aF a) (a4.aF a)) (by
    refine⟨Fd,h1,λa b=>.inl b,?_⟩;show match X.log with
     |none=>h.lp=none
     |some d=>d.aX≠[]/\∃z Fl,h.lp=some ⟨z,0,none⟩/\jr a3 h.dp z Fl d/\∀a,Fl a->(Fd a\/L a)/\¬Fd a
    rw[m];exact⟨C,Z,L,f,a4,λa b=>⟨.inr b,λhd=>(j a hd).2 (.inr b)⟩⟩) λy G P q=>by
   rcases y with _|_|_|_|_|_|_|y<;>first|exact q|exact absurd rfl P
  refine⟨_,_,rfl,a1,al.dX (λQ=>absurd Q u) (λ_=>Ok.mk ?_)⟩;rw[E (if_pos u)];exact⟨O,rfl,⟨T,h,l,g⟩,(ai.keep t).then v.keep,λa b=>(v.new a b).imp id λx=>by have:=t.size;omega⟩
 ·obtain⟨G2,b3,v,b4,hY⟩:=DL.Ii b2 a5 (a0 u)
  obtain⟨O,l,g,e,-⟩:=A.Ec cj (k:=2) (G':=G2) (C2:=mf p (h.cells c self) {h with lp:=ZZ q3} c {X with D:=k.D,log:=some k.V} X.S.l) v b4 b3 λy G P q=>by
   rcases y with _|_|_|_|_|_|_|y<;>first|exact q|exact absurd rfl P
  refine⟨_,_,rfl,v.keep,al.dX (λ_=>⟨p,0,rfl,PS.mk (g.at' 0).2 sM λb9 a7 c0 b5=>Ok.mk ?_⟩) (λQ=>absurd rfl Q)⟩;rw[E (if_neg (by simpa using u))];exact⟨O,rfl,⟨T,{h with lp:=ZZ q3},l,c_.store g a7 b5⟩,((ai.keep t).then e.keep).then (a7.mono λa _ r=>by have r:a=p:=r;rw[r];exact W.1),λa b=>(e.new a b).imp id λx=>by have:=t.size;omega⟩
end
variable{C m:Int}{c7:List bD}{M:aR}
section
variable {w w' w0 w1 w2:World} {p:Nat} {F E D:Nat->Prop} {c:cz} {self:Int}
def cC(c:cz)(a:Option Addr)(tn b:Nat)(d:Option Addr)(e f:Nat):List Value:=[QH c.bl,QH c.nY,QH c.aZ,QH c.chunk,QH c.buffer,QH c.dx,QH c.every,QH c.start,.slice a tn b,.slice d e f]
abbrev lK(c:cz)(a:Option Addr)(tn b:Nat)(d:Option Addr)(e f:Nat):Value:=.agg (cC c a tn b d e f).toArray
def gD(c:cz)(a:Option Addr)(tn b:Nat)(d:Option Addr)(e f:Nat):jg ZQ 28 (cC c a tn b d e f)=true:=kR
def pw:Calls ZQ 70 #[QH e,QH m,QH C] w (Ok λa w'=>a= .bool (within e m C)/\w=w'):=by
 refine vO (al.dec (λb=>Ok.mk ⟨?_,rfl⟩) (λb=>Ok.mk ⟨?_,rfl⟩))
 ·simp[within];omega
 ·simp[within];omega
def Qt{y z:Option Addr}{tn A B C:Nat}:Calls ZQ 33 #[lK c y tn A z B C,QH self] w (Ok λk w'=>k= .bool (gG c self)/\ai w w'):=by
 refine Aj (PA.mk λw1 s J b=>?_);have K:∀{l m n:Int} {o:Bool->Prop} {t:List PanicEntry->World->Prop},o (within l m n)->∃p u v,(Value.func (.func 70) #[] #[])= .func (.func p) u v/\enters ZQ p=true/\PC ZQ p (u++ #[QH l,QH m,QH n]++v) w1 (λE F=>∃(x:Bool),E= .bool x/\F=w1/\o x) t:=λ{l m n o t} q=>by
  refine⟨_,_,_,rfl,kR,PC.ok pw ?_⟩;rintro _ _ ⟨rfl,rfl⟩;exact⟨_,rfl,rfl,q⟩
 have no:gG c self=false->Ok (λk w'=>k= .bool (gG c self)/\ai w w') (.returned (.bool false)) w1:=λH=>Ok.mk ⟨by rw[H],s⟩;have d:gG c self=(within c.bl 1 64&&(within self 0 (c.bl-1)&&(within c.nY 64 262144&&(decide (c.aZ>=1)&&(decide (c.every>=1)&&(within c.chunk 1 32&&(within c.buffer 1 256&&(within c.dx 1 1048576&&decide (c.start>=0))))))))):=by
  unfold gG;simp only[Bool.and_assoc]
 refine⟨_,ae b rfl,_,_,_,rfl,kR,PC.ok pw ?_⟩;rintro _ _ ⟨rfl,rfl⟩;refine⟨_,rfl,al.mk (λa=>⟨_,ae b rfl,_,_,_,rfl,kR,PC.ok pw ?_⟩) (λa=>no (by rw[d,a];rfl))⟩;have I:IntKind.wrap .i64 (c.bl-1)=c.bl-1:=wrap_i64 (by have:=bO.1 a;unfold aN;omega);rw[I];rintro _ _ ⟨rfl,rfl⟩;refine⟨_,rfl,al.mk (λe=>⟨_,ae b rfl,_,_,_,rfl,kR,PC.ok pw ?_⟩) (λe=>no (by rw[d,a,e];rfl))⟩;rintro _ _ ⟨rfl,rfl⟩;refine⟨_,rfl,al.mk (λf=>⟨_,ae b rfl,al.mk (λg=>⟨_,ae b rfl,al.mk (λh=>⟨_,ae b rfl,_,_,_,rfl,kR,PC.ok pw ?_⟩) (λh=>no (by rw[d,a,e,f,g,h];rfl))⟩) (λg=>no (by rw[d,a,e,f,g];rfl))⟩) (λf=>no (by rw[d,a,e,f];rfl))⟩;rintro _ _ ⟨rfl,rfl⟩;refine⟨_,rfl,al.mk (λi=>⟨_,ae b rfl,_,_,_,rfl,kR,PC.ok pw ?_⟩) (λi=>no (by rw[d,a,e,f,g,h,i];rfl))⟩;rintro _ _ ⟨rfl,rfl⟩;refine⟨_,rfl,al.mk (λj=>⟨_,ae b rfl,_,_,_,rfl,kR,PC.ok pw ?_⟩) (λj=>no (by rw[d,a,e,f,g,h,i,j];rfl))⟩;rintro _ _ ⟨rfl,rfl⟩;refine⟨_,rfl,al.mk (λr=>⟨_,ae b rfl,Ok.mk ⟨by rw[d,a,e,f,g,h,i,j,r];rfl,s⟩⟩) (λr=>no (by rw[d,a,e,f,g,h,i,j,r];rfl))⟩
def SR{a b:Nat}(c:M.types[a]? =some c7)(e:b<c7.length):M.Ed (a:Int) (b:Int)=c7[b]? :=by
 have f:=(Qv.1 c).1;have d:M.at (a:Int)=c7:=by
  unfold aR.at;rw[if_pos (bO.2 ⟨oM,oM⟩),Qx,QQ,c];rfl
 unfold aR.Ed;rw[d,if_pos (by simp only[QK,bO];exact⟨⟨oM,oM⟩,oM,oM⟩),Qx]
end
section
variable {w w' w0 w1 w2:World} {p:Nat} {F E D:Nat->Prop} {c:cz} {self:Int}
def MT{ta pa:Option Addr}{tn tc K pc:Nat}(h:bh w D M ta tn pa K)(hD:∀a,D a->a<w.heap.size):
  Calls ZQ 35 #[.agg #[.slice ta tn tc,.slice pa K pc]] w (Ok λa7 w'=>∃t AW a1 e u k G,a7= .agg #[.slice t AW a1,.slice e u k]/\bh w' G M t AW e u/\(∀a,G a->w.heap.size<=a/\a<w'.heap.size)/\ai w w'):=by
 have f4:=h.bd.len;have b8:=h.bd.d_;have f5:=h.Bk.len;have f6:=h.Bk.d_;refine xR (PA.mk λL k4 s4 g4=>PA.mk λw5 k5 s5 g5=>⟨_,_,_,ae (k5.get g4 id) rfl,?_⟩);have v:=k4.then k5;refine AZ (aV.nil (c:=wH) (e:=128) w5) Mh (h.Bk.af v) (λa b=>⟨by have:=hD a b;omega,λc=>by cases c⟩) (by rw[List.length_nil];unfold aQ at*;omega) (by rw[List.length_nil];unfold aQ at*;unfold maxLen;omega) λe k f Fp d1 k8 j6 d2=>⟨_,_,_,rfl,PA.mk λj7 g0 j8 g1=>PS.mk g1 sM λj9 g2 k0 g3=>PS.mk g3 sM λr g6 k1 g7=>?_⟩
 rw[List.nil_append,Xz]at d1;have a9:=d1.alone;have b9:∀a,aI e=some a->w5.heap.size<=a/\a<f.heap.size:=λa b=>⟨(d2 a b).elim False.elim id,a9.aF a b⟩
 have z8:=k8.size;have x:ai w5 f:=k8.mono λa _ c=>by cases c
 have y:ai f r:=(g0.new g2 λa b=>.inr (by have b:a=f.heap.size:=b;omega)).new g6 λa b=>.inr (by have b:a=f.heap.size:=b;omega);have b0:ai w r:=(v.then x).then y;have gp:=y.get (x.get (k5.get g4 id) id) id;have gr:=y.get (x.get g5 id) id;have b1:r.heap[f.heap.size]? =some (.cells #[.slice none 0 0,.slice e (0+K) k] 25 (0,0)):=g7;rw[Xz]at b1;have k2:=y.size;refine⟨_,_,_,ae gp rfl,λz a2 w'=>∃i:Nat,a2=i/\i<=tn/\z=tn-i/\aj (·=f.heap.size) r w'/\∃N O oc P,w'.heap[f.heap.size]? =some (.cells #[.slice N O oc,.slice e K k] 25 (0,0))/\aV lv 130 P w' N O oc (M.types.take i)/\∀a,P a->r.heap.size<=a,
  ⟨_,0,rfl,Qj _,rfl,aj.refl _,none,0,0,λ_=>False,b1,aV.nil _,λ_ h=>h.elim⟩,?_⟩
 rintro z _ _ Q ⟨i,rfl,hj,rfl,s,N,O,oc,P,R,m,A⟩;have S:ai w Q:=b0.new s λa b=>.inr (by have b:a=f.heap.size:=b;have:=v.size;have:=x.size;omega);have zk:=s.size;have b2:=s.get gp λc=>by have c:w.heap.size=f.heap.size:=c;have:=k4.size;omega
 refine al.dec (λk3=>?_) (λk6=>?_)
 ·have g8:i<M.types.length:=oM
  have T:M.types[i]? =some M.types[i]:=Qq g8;generalize M.types[i]=n at T;obtain⟨a,c1,es,ha,b,k7,c4,fa,fn,fc,rfl,U⟩:=(h.bd.af S).el i n T;have c0:=c4 0 dC;have g9:lv.k=1:=rfl;rw[g9,Nat.mul_one]at c0;have h0:=U.len;have c2:=U.d_;refine⟨a,c1,ha,oM,oM,fa,fn,fc,by rw[Qx];exact c0,PA.mk λk9 h3 l0 h4=>PS.mk h4 sM λj h6 l3 h7=>PA.mk λl4 d3 l5 h8=>PS.mk h8 sM λB d4 l6 h9=>?_⟩;have p:ai Q B:=((h3.new h6 λa b=>.inr (by have b:a=Q.heap.size:=b;omega)).then d3).new d4 λa b=>.inr (by have b:a=j.heap.size:=b;omega);have d5:=d4.get (d3.get h7 id) oM;have d6:=p.get b2 id;have l7:=p.size;have d7:=S.then p;refine⟨_,_,_,ae d5 rfl,λz a2 w'=>∃g:Nat,a2=g/\g<=fn/\z=fn-g/\aj (·=j.heap.size) B w'/\∃C E V W,w'.heap[j.heap.size]? =some (.cells #[.slice C E V] 130 (0,0))/\aV pT 123 W w' C E V (n.take g)/\∀a,W a->B.heap.size<=a,
   ⟨_,0,rfl,Qj _,rfl,aj.refl _,none,0,0,λ_=>False,h9,aV.nil _,λ_ h=>h.elim⟩,?_⟩
  rintro z _ _ d8 ⟨g,rfl,hk,rfl,q,C,E,V,W,gx,o,F⟩;have zx:=q.size;have b3:ai w d8:=d7.new q λa b=>.inr (by have b:a=j.heap.size:=b;have:=S.size;omega);have b4:=q.get d6 λc=>by have c:w.heap.size=j.heap.size:=c;have:=aC b2;omega
  refine al.dec (λj4=>?_) (λj5=>?_)
  ·have d9:g<n.length:=oM
   have H:n[g]? =some n[g]:=Qq d9;have a3:=SR T d9;rw[H]at a3;obtain⟨fb,fo,e3,-,-,-,-,ya,yn,yc,rfl,-,b5⟩:=(U.af p).el g n[g] H;generalize n[g]=I at H a3 b5;refine⟨_,_,_,_,_,_,ae b4 rfl,ae b4 rfl,PC.ok (px (h.af b3) λa b=>by have:=hD a b;have:=b3.size;omega) ?_⟩;rw[a3];rintro _ e0 ⟨e1,X,Y,cc,Fm,rfl,c3,e2⟩;have e4:=c3.aF;have l8:=e1.size;refine cu (Ku I X Y cc) ⟨_,rfl,PA.mk λl9 i0 m0 i1=>aD (fD I X Y cc) i1 rfl λi2 i3 m1 Z=>?_⟩;have a4:ai e0 i2:=i0.new i3 λa b=>.inr (by have b:a=e0.heap.size:=b;omega);have a6:=e1.then a4;have e6:=a6.get gx id;refine⟨_,_,_,ae e6 rfl,_,_,_,_,_,_,ae Z rfl,ae Z rfl,ae Z rfl,ae Z rfl,PA.mk λi4 e5 m2 i5=>?_⟩;have a0:=a6.then e5;have e8:=(c3.af a4).af e5;have m3:=c3.len dC;have a8:Row gC 32 i4 Fm X Y I.bH:=e8.row dC (by
    obtain⟨_,_,_,_,_,_,_,_,_,_,hq,a8,_⟩:=(U.af p).el g I H;have h1:=a8.d_;have h2:=a8.len;rw[<-h2];exact h1)
   refine fh (c:=pT) (x:=I) (o.af a0) RX i5 (D:=Fm) ⟨X,Y,cc,rfl,a8,b5⟩ (λa b=>⟨by have:=e4 a b;have:=a4.size;omega,λc=>by have:=o.aF a (o.self a c);have:=e2 a b;omega⟩) (by rw[Qy];unfold aQ at*;omega) (by rw[Qy];unfold aQ at c2;unfold maxLen;omega) λa' c' m4 J e9 c5 c6=>⟨_,_,_,rfl,?_⟩
   have i6:¬aI C=some j.heap.size:=λc=>by have:=F _ (o.self _ c);omega
   have m5:=a0.size;have m6:=c5.size;have d:∀a,J a->B.heap.size<=a:=λa b=>by
    rcases c6 a b with l|l|l
    ·exact F a l
    ·have:=e2 a l;omega
    ·omega
   refine PS.mk (c5.get (a0.get gx id) i6) sM λm7 e7 m8 i7=>⟨_,oM,g+1,an (by unfold aQ at c2;omega),oM,rfl,((q.af a0).new c5 λa b=>.inr (F a (o.self a b))).then e7,a',E+1,c',J,i7,?_,d⟩
   rw[Qw,H];exact e9.keep e7 λa b c=>by have c:a=j.heap.size:=c;have:=d a b;omega
  ·rw[Qz oM]at o
   have i8:aj (·=j.heap.size) B d8:=q;have b6:=q.get (p.get R id) λc=>by have c:f.heap.size=j.heap.size:=c;have:=aC R;omega
   refine⟨_,_,_,ae b6 rfl,_,_,_,ae gx rfl,PA.mk λi9 c7 m9 j0=>?_⟩;have a5:ai Q i9:=(p.new q λa b=>.inr (by have b:a=j.heap.size:=b;omega)).then c7;refine fh (c:=lv) (x:=n) (m.af a5) NO j0 (D:=W) ⟨C,E,V,rfl,(o.af c7).row dC (by rw[<-h0];exact c2)⟩ (λa b=>⟨by have:=o.aF a b;omega,λc=>by have:=m.aF a (m.self a c);have:=F a b;omega⟩) (by rw[Qy];unfold aQ at*;omega) (by rw[Qy];unfold aQ at b8;unfold maxLen;omega) λa' c' n0 J f0 c8 c6=>⟨_,_,_,rfl,?_⟩
   have j1:¬aI N=some f.heap.size:=λc=>by have:=A _ (m.self _ c);omega
   have n1:=a5.size;have n2:=c8.size;have d:∀a,J a->r.heap.size<=a:=λa b=>by
    rcases c6 a b with l|l|l
    ·exact A a l
    ·have:=F a l;omega
    ·omega
   refine PS.mk (c8.get (c7.get b6 id) j1) sM λn3 b7 n4 j2=>⟨_,oM,i+1,an (by unfold aQ at b8;omega),oM,rfl,((s.af a5).new c8 λa b=>.inr (A a (m.self a b))).then b7,a',O+1,c',J,j2,?_,d⟩
   rw[Qw,T];exact f0.keep b7 λa b c=>by have c:a=f.heap.size:=c;have:=d a b;omega
 ·rw[Qz oM]at m
  have z5:=x.size;have f1:=s.get gr λc=>by have c:L.heap.size=f.heap.size:=c;omega
  have f2:=((a9.af y).keep s λa b c=>by have c:a=f.heap.size:=c;have:=b9 a b;omega)
  refine⟨_,_,_,_,_,_,ae R rfl,ae R rfl,PS.mk f1 sM λn8 c9 n9 j3=>PS.mk j3 sM λo0 d0 o1 f3=>⟨_,_,_,_,_,_,ae f3 rfl,ae f3 rfl,Ok.mk ⟨_,_,_,_,_,_,λa=>P a\/aI e=some a,rfl,⟨?_,?_⟩,?_,?_⟩⟩⟩
  ·exact(((m.row (bytes:=24) dC (by rw[<-f4];exact b8)).keep (c9.then d0) λa b c=>by have c:a=L.heap.size:=c;have:=A a b;omega)).mono λa b=>.inl b
  ·exact(((f2.row (bytes:=40) dC (by rw[<-f5];exact f6)).keep (c9.then d0) λa b c=>by have c:a=L.heap.size:=c;have:=b9 a b;omega)).mono λa b=>.inr b
  ·rintro a (b|b)
   ·have:=A a b;have:=m.aF a b;have:=v.size;have:=b0.size;omega
   ·have:=b9 a b;have:=v.size;omega
  ·exact S.new (c9.then d0) λa b=>.inr (by have b:a=L.heap.size:=b;have:=k4.size;omega)
end
variable{a:Nat}{j:Type}
section
variable {w w':World} {D D' S:Nat->Prop} {d:aR} {ta pa:Option Addr} {tn tc pn pc:Nat}
def ue(a:bD):Bool:=if a.kind==4 then !within a.bH.length 1 16 else decide (0<a.bH.length)
def DK(a:List bD):Bool:=!within a.length 1 8||a.any ue
def KM{b:j->Bool}{c:List j}{d:j}(e:c[a]? =some d)(f:(c.take a).any b=false)(g:b d=false):(c.take (a+1)).any b=false:=by
 rw[Qw,e,List.any_append,f];simp[g]
def Nz{c:j->Bool}{d:List j}{b:j}(e:d[a]? =some b)(f:c b=true):d.any c=true:=List.any_eq_true.2 ⟨b,QZ e,f⟩
def fX{g:Type}{h:g->Int}:∀{b:List g} {c:Nat} {d:g},b[c]? =some d->cO h (b.take c)=0->cO h (b.take (c+1))=h d
 |[],c,d,a,_=>by simp at a
 |y::b,0,d,a,_=>by simp at a;subst a;simp[cO];intro a;exact a.symm
 |y::b,c+1,d,a,e=>by
  simp only[List.take_succ_cons,cO]at e⊢;split at e
  ·rename_i f;simp at f;exact absurd e f
  ·rename_i f;rw[if_neg f];exact fX (by simpa using a) e
def pB{c:Type}{b:c->Int}:∀{l:List c} {j:Nat},cO b (l.take j)≠0->cO b l=cO b (l.take j)
 |[],j,a=>by simp at a⊢
 |y::l,0,a=>by simp[cO]at a
 |y::l,j+1,a=>by
  simp only[List.take_succ_cons,cO]at a⊢;split
  ·rfl
  ·rename_i d;rw[if_neg d]at a;exact pB a
def KN(e:bh w D d ta tn pa pn):Calls ZQ 67 #[.agg #[.slice ta tn tc,.slice pa pn pc]] w (Ok λf w'=>f= .bool (sj d)/\ai w w'):=by
 have s:=e.bd.len;have t:=e.bd.d_;have hp:=e.Bk.len;unfold aQ at t;refine Ev (PA.mk λY u s1 v=>⟨_,_,_,ae v rfl,PC.ok cK ?_⟩);rintro _ _ ⟨rfl,rfl⟩;refine⟨_,rfl,al.not (al.mk (λj=>⟨_,_,_,ae v rfl,al.dec (λZ=>Ok.mk ⟨?_,u⟩) (λZ=>⟨_,_,_,ae v rfl,λk l w'=>∃b:Nat,l=b/\b<=tn/\k=tn-b/\(d.types.take b).any DK=false/\ai Y w',⟨_,0,rfl,Qj _,rfl,sM,aj.refl _⟩,?_⟩)⟩) (λj=>Ok.mk ⟨?_,u⟩))⟩
 ·unfold sj;rw[<-s,j,if_pos (by simp;omega)]
 rotate_left
 ·unfold sj;rw[<-s,j];rfl
 have x:sj d=d.types.any DK:=by unfold sj DK ue;rw[<-s,j,if_neg (by simp;omega)]
 rintro k l _ w2 ⟨b,rfl,hj,rfl,y,L⟩;have m:=u.then L;refine al.dec (λa8=>?_) (λa9=>?_)
 rotate_left
 ·rw[Qz oM]at y
  exact Ok.mk ⟨by rw[x,y],m⟩
 obtain⟨z,A,B,es,rfl,_,_,C,g,a2,h,c1,rfl,E⟩:=((e.af m).bd).sS (i:=b) oM;have M:=E.len;have a0:=E.d_;unfold aQ at a0;have N:=g 0 dC;simp only[lv,Nat.mul_one,Nat.add_zero]at N;refine⟨z,A,rfl,oM,oM,_,_,_,N,PA.mk λw3 k3 s3 g3=>PS.mk g3 sM λn k4 s4 O=>⟨_,_,_,ae O rfl,PC.ok cK ?_⟩⟩;rintro _ _ ⟨rfl,rfl⟩;have o:ai w2 n:=k3.new k4 λz t=>.inr oM;have F:DK B=true->Ok (λf w'=>f= .bool (sj d)/\ai w w') (.returned (.bool true)) n:=λa=>Ok.mk ⟨by rw[x,Nz C a],m.then o⟩;refine⟨_,rfl,al.not (al.mk (λH=>⟨_,_,_,ae O rfl,λk l w'=>∃i:Nat,l=i/\i<=h/\k=h-i/\(B.take i).any ue=false/\ai n w',⟨_,0,rfl,Qj _,rfl,sM,aj.refl _⟩,?_⟩) (λH=>F (by unfold DK;rw[<-M,H];rfl)))⟩;rintro m' t' _ w5 ⟨i,rfl,hi,rfl,I,p⟩;have a3:=(m.then o).then p;refine al.dec (λa6=>?_) (λa7=>?_)
 rotate_left
 ·rw[Qz oM]at I
  exact⟨_,oM,b+1,an oM,oM,rfl,KM C y (by unfold DK;rw[<-M,H,I];rfl),(L.then o).then p⟩
 obtain⟨b2,a1,q,b0,rfl,_,_,P,a4,Q,R,S,rfl,T,b1,b3⟩:=((E.af o).af p).sS (i:=i) oM;have U:=T.len;have a5:=T.d_;unfold aQ at a5;refine⟨b2,a1,rfl,oM,oM,br (fD q Q R S) rfl a4 (PA.mk λw6 k6 s6 g6=>aD (fD q Q R S) g6 rfl λJ k7 s7 K=>⟨_,ae K rfl,?_⟩)⟩;have V:ai w5 J:=k6.new k7 λz t=>.inr oM;have W:ue q=true->Ok (λf w'=>f= .bool (sj d)/\ai w w') (.returned (.bool true)) J:=λa=>Ok.mk ⟨by rw[x,Nz C (by unfold DK;rw[Nz P a];simp)],a3.then V⟩;have next:ue q=false->∃X,X<h-i/\∃r:Nat,IntKind.wrap .i64 ((i:Int)+1)=r/\r<=h/\X=h-r/\(B.take r).any ue=false/\ai n J:=λa=>
  ⟨_,oM,i+1,an oM,oM,rfl,KM P I a,p.then V⟩
 refine al.dX (λc=>⟨_,_,_,ae K rfl,PC.ok cK ?_⟩) (λc=>al.not (al.dX (λg=>absurd g c) (λ_=>⟨_,_,_,ae K rfl,al.dec (λe=>W ?_) (λe=>next ?_)⟩)))
 ·rintro _ _ ⟨rfl,rfl⟩
  refine⟨_,rfl,al.not (al.mk (λa=>al.not (al.dX (λ_=>next ?_) (λg=>absurd c g))) (λa=>W ?_))⟩
  ·unfold ue;rw[c,<-U,a];rfl
  ·unfold ue;rw[c,<-U,a];rfl
 ·unfold ue;rw[if_neg (by simpa using c)];simp only[decide_eq_true_eq];omega
 ·unfold ue;rw[if_neg (by simpa using c)];simp only[decide_eq_false_iff_not];omega
def Ij(hT:eM w)(h:bh w D d ta tn pa pn)(hD:∀b,D b->b<w.heap.size):
  Calls ZQ 32 #[.agg #[.slice ta tn tc,.slice pa pn pc]] w (Ok λC w'=>C= QH (dd d)/\ai w w'):=by
 have hl:=h.bd.len;have g:=h.bd.d_;have b1:=h.Bk.len;have a6:=h.Bk.d_;unfold aQ at g a6;refine BO (PA.mk λw1 U s1 E=>⟨_,_,_,_,_,_,ae E rfl,ae E rfl,PC.ok (KN (h.af U)) ?_⟩);rintro _ w2 ⟨rfl,V⟩;have W:=U.then V;have X:=V.get E id;refine⟨_,rfl,al.mk (λu=>Ok.mk ⟨by unfold dd;rw[u];rfl,W⟩) (λu=>⟨_,_,_,ae X rfl,λl c w'=>∃a:Nat,c=a/\a<=tn/\l=tn-a/\cO (λc=>cO (fK c) c) (d.types.take a)=0/\ai w2 w',⟨_,0,rfl,Qj _,rfl,rfl,aj.refl _⟩,?_⟩)⟩;rintro l c _ Y ⟨a,rfl,hj,rfl,v,F⟩;have x:=W.then F;have Z:=F.get X id;have H:∀{w':World},ai w w'->∀a e,d.types[a]? =some e->cO (λc=>cO (fK c) c) (d.types.take a)=0->∀y:Int,cO (fK e) e=y->y≠0->Ok (λC w'=>C= QH (dd d)/\ai w w') (.returned (QH y)) w':=by
  intro w' a2 a e z h0 y hr k;have m:=fX z h0;rw[hr]at m;have h2:=pB (l:=d.types) (j:=a+1) (by rw[m];exact k);refine Ok.mk ⟨?_,a2⟩;unfold dd;rw[u,h2,m];simp[k]
 refine al.dec (λb2=>?_) (λb3=>⟨_,_,_,ae Z rfl,λl c w'=>∃i:Nat,c=i/\i<=pn/\l=pn-i/\cO (mK d) (d.projs.take i)=0/\ai Y w',⟨_,0,rfl,Qj _,rfl,rfl,aj.refl _⟩,?_⟩)
 ·obtain⟨b,I,J,es,rfl,_,_,z,hc,b4,n1,c1,rfl,A⟩:=((h.af x).bd).sS (i:=a) oM
  have b5:=A.len;have a7:=A.d_;unfold aQ at a7;have a0:=hc 0 dC;simp only[lv,Nat.mul_one,Nat.add_zero]at a0;refine⟨b,I,rfl,oM,oM,_,_,_,a0,PA.mk λw4 p s4 g4=>PS.mk g4 sM λK L s5 B=>⟨_,_,_,ae B rfl,λl c w'=>∃i:Nat,c=i/\i<=n1/\l=n1-i/\cO (fK J) (J.take i)=0/\ai K w',⟨_,0,rfl,Qj _,rfl,rfl,aj.refl _⟩,?_⟩⟩;have a8:ai Y K:=p.new L λb g=>.inr oM;rintro m' t' _ M ⟨i,rfl,hi,rfl,f,n⟩;have q:=a8.then n;refine al.dec (λa3=>?_) (λa9=>?_)
  ·obtain⟨N,O,e,b0,rfl,_,_,o,P,Q,R,S,rfl,hM,b6,b7⟩:=(A.af q).sS (i:=i) oM
   refine⟨N,O,rfl,oM,oM,br (fD e Q R S) rfl P (PA.mk λw7 j s7 g7=>aD (fD e Q R S) g7 rfl λw8 r s8 g8=>⟨_,_,_,ae (r.get (j.get (n.get B id) id) (by have:=n.size;omega)) rfl,aw (fD e Q R S) g8 (PC.ok (Is (hT.af ?_) (A.af ?_) (hM.af ?_)) ?_)⟩)⟩
   ·exact(x.then q).then (j.new r λb g=>.inr oM)
   ·exact q.then (j.new r λb g=>.inr oM)
   ·exact j.new r λb g=>.inr oM
   ·rintro _ w9 ⟨rfl,k9⟩
    have a4:ai M w9:=aj.then (j.new r λb g=>.inr oM) k9;refine⟨_,rfl,al.dw (λk=>?_) (λT=>⟨_,oM,i+1,an oM,oM,rfl,by rw[fX o f];exact T,n.then a4⟩)⟩;have m:=fX o f;exact H ((x.then q).then a4) a J z v _ (by rw[pB (j:=i+1) (by rw[m];exact k),m]) k
  ·rw[Qz oM]at f
   refine⟨_,oM,a+1,an oM,oM,rfl,by rw[fX z v];exact f,F.then q⟩
 ·rw[Qz oM]at v
  rintro m' t' _ w4 ⟨i,rfl,hi,rfl,f,p⟩;have s:=x.then p;have a1:dd d=cO (mK d) d.projs:=by unfold dd;rw[u,v];simp
  refine al.dec (λa3=>?_) (λa9=>?_)
  ·obtain⟨N,O,e,b0,rfl,_,_,o,P,rfl,_⟩:=((h.af s).Bk).sS (i:=i) oM
   refine⟨N,O,rfl,oM,oM,br (qH e) rfl P (PA.mk λK L s5 B=>aD (qH e) B rfl λM n s6 g6=>?_)⟩;have t:ai w4 M:=L.new n λb g=>.inr oM;have a5:=t.get (p.get Z id) id;refine⟨_,_,_,_,_,_,ae a5 rfl,ae a5 rfl,aw (qH e) g6 (PC.ok (It (h.af (s.then t)) λb g=>by have:=hD b g;have:=(s.then t).size;omega) ?_)⟩;rintro _ w7 ⟨rfl,j⟩;refine⟨_,rfl,al.dw (λk=>Ok.mk ⟨?_,(s.then t).then j⟩) (λT=>⟨_,oM,i+1,an oM,oM,rfl,by rw[fX o f];exact T,(p.then t).then j⟩)⟩;rw[a1,pB (j:=i+1) (by rw[fX o f];exact k),fX o f]
  ·rw[Qz oM]at f
   exact Ok.mk ⟨by rw[a1,f],s⟩
end
def bj(a:cz)(b:Int):Int×bw:=
 if dd a.decl≠0 then(dd a.decl,(qA a).2)else if gG a b=false then(1,(qA a).2)else qA a
def MU(c:World)(b:cz)(a:Int)(d:Value)(e:World):Prop:=ai c e/\
 (((bj b a).1≠0/\d= .tuple #[.pointer none,QH (bj b a).1])\/
  ((bj b a).1=0/\∃f g,d= .tuple #[ZX f,QH 0]/\bP e f g b a (bj b a).2/\(∀h,g h->c.heap.size<=h)/\(bj b a).2.S.l.length<=16777216))
section
variable {w w' w0 w1 w2:World} {p:Nat} {F E D:Nat->Prop} {c:cz} {self:Int}
def Be(hT:eM w0)(hL:Laid w0)(z:ai w0 w){A B:Option Addr}{tn Q C R:Nat}(hd:bh w D c.decl A tn B C)(hD:∀a,D a->a<w.heap.size)(hs:aN c.aZ)(d3:aN c.every)(d4:aN c.start):
  Calls ZQ 12 #[lK c A tn Q B C R,QH self] w (Ok (MU w c self)):=by
 refine Er (PA.mk λf3 E f4 F=>⟨_,_,_,_,_,_,ae F rfl,ae F rfl,PC.ok (Ij (hT.af (z.then E)) (hd.af E) λa b=>by have:=hD a b;omega) ?_⟩);rintro _ d5 ⟨rfl,b8⟩;have a3:=E.then b8;have b9:d5.heap[w.heap.size]? =some (.cells (cC c A tn Q B C R).toArray 28 (0,0)):=b8.get F id;refine⟨_,rfl,al.dw (λl=>Ok.mk ⟨a3,.inl ?_⟩) (λS=>aw (gD c A tn Q B C R) b9 (PC.ok Qt ?_))⟩
 ·have:bj c self=(dd c.decl,(qA c).2):=by unfold bj;rw[if_pos l]
  rw[this];exact⟨l,rfl⟩
 rintro _ T ⟨rfl,c0⟩;have H:=a3.then c0;have U:=c0.get b9 id;refine⟨_,rfl,al.not (al.mk (λm=>?_) (λm=>Ok.mk ⟨H,.inl ?_⟩))⟩
 rotate_left
 ·have:bj c self=(1,(qA c).2):=by unfold bj;rw[if_neg (by simpa using S),if_pos m]
  rw[this];exact⟨show(1:Int)≠0 by decide,rfl⟩
 have a4:bj c self=qA c:=by unfold bj;rw[if_neg (by simpa using S),if_neg (by rw[m];simp)]
 have c1:kU c self:=⟨m,S,hs,d3,d4⟩
 have c2:=m;unfold gG within at c2;simp only[QK,decide_eq_true_eq]at c2;refine⟨_,ae U rfl,PC.ok (uk (z.then H) oM oM) ?_⟩;rintro _ c3 ⟨dp,rfl,d6,V⟩;obtain⟨Fd,c4,-,d7,-⟩:=d6;have I:∀a,Fd a->T.heap.size<=a/\a<c3.heap.size:=λa b=>⟨Nat.le_of_not_lt (d7 a b).2,c4.aF a b⟩
 have W:=H.then V;have X:=V.get U id;refine⟨_,_,rfl,al.dw (λl=>absurd rfl l) (λ_=>⟨_,_,_,_,_,_,ae X rfl,ae X rfl,PC.ok (MT (hd.af W) λa b=>by have:=hD a b;have:=W.size;omega) ?_⟩)⟩;rintro _ c5 ⟨n,AW,o,p,q,r,J,rfl,d8,K,L⟩;have c6:=W.then L;have d9:=L.get X id;have f5:=E.size;have f6:=H.size;have g1:=V.size;have g2:=L.size;have g3:=aC F;have e8:w.heap.size<T.heap.size:=aC U;refine⟨_,_,_,_,_,_,rfl,PS.mk d9 (by simp[cC]) λg4 e0 g5 e1=>PS.mk e1 (by simp[cC]) λY e2 g6 e3=>λs c7=>?_⟩;have Z:aj (λa=>a=w.heap.size) c5 Y:=e0.then e2;have M:ai Y s:=c7.keep;have g7:s.heap.size=Y.heap.size:=by rw[c7.heap]
 have e:s.heap[w.heap.size]? =some (.cells (cC c n AW o p q r).toArray 28 (0,0)):=M.get e3 id;have c8:ai w s:=(c6.new Z λa b=>.inr (by have b:a=w.heap.size:=b;omega)).then M;have h:∀{a:Nat},T.heap.size<=a->a≠w.heap.size:=λ{a} b=>by omega
 refine⟨λ_=>False,id,_,_,_,_,_,_,_,_,_,_,_,_,_,_,ae e rfl,ae e rfl,ae e rfl,ae e rfl,ae e rfl,ae e rfl,ae e rfl,ae e rfl,ae e rfl,ae e rfl,_,ae e rfl,id,_,ae e rfl,PC.ok (Lk oM) ?_⟩;rintro _ e4 ⟨i,rfl,c9,e9,f2,b4⟩;refine⟨_,rfl,b4,PC.ok Kv ?_⟩;rintro _ g ⟨tp,N,rfl,a5,O,d0⟩;have g8:=b4.size;have g9:=O.size;have d1:=a5.aF;refine⟨_,rfl,O,PA.mk λb5 P h2 e5=>⟨P,?_⟩⟩
 let f:ko:=⟨n,AW,o,p,q,r,dp,none,0,0,i,tp⟩
 let a2:bw:=⟨⟨c.bl.toNat,[]⟩,eS c.nY.toNat,none,[],⟨c.dx,[],[]⟩⟩
 have d2:b5.heap[g.heap.size]? =some (.cells (yQ f c self none none none) 99 (0,0)):=e5;have a0:ai s b5:=(b4.then O).then P;have a1:=c8.then a0;have b6:∃t,bS b5 (λa=>∃k,(match k with|0=>a=g.heap.size|1=>J a|2=>Fd a|5=>a=i|6=>N a|_=>False:Prop)) t (recC g.heap.size (yQ f c self none none none) f c a2 false):=by
  refine bS.join (G:=λk a=>match k with|0=>a=g.heap.size|1=>J a|2=>Fd a|5=>a=i|6=>N a|_=>False) (λk=>?_) (λj a9 a d hj=>?_) λk a b=>?_
  ·match k with
   |0=>exact⟨rfl,d2⟩
   |1=>exact(((d8.keep Z λa b u=>h (by have:=K a b;omega) u).af M).af a0)
   |2=>exact⟨Fd,((((c4.keep L λ_ _ f=>f).keep Z λa b u=>h (I a b).1 u).keep M λ_ _ f=>f).keep a0 λ_ _ f=>f),λa b=>b,rfl⟩
   |3=>intro u;cases u
   |4=>trivial
   |5=>exact⟨_,_,c9.af (O.then P),λ_ f=>f,λa b=>b.elim⟩
   |6=>exact a5.af P
   |k+7=>trivial
  ·have v:∀j:Nat,(match j with|0=>a=g.heap.size|1=>J a|2=>Fd a|5=>a=i|6=>N a|_=>False:Prop)->j=(if a<c3.heap.size then 2 else if a<c5.heap.size then 1 else if a<e4.heap.size then 5 else if a<g.heap.size then 6 else 0):=λj d=>by
    rcases j with _|_|_|_|_|_|_|j
    ·have d:a=g.heap.size:=d
     rw[if_neg oM,if_neg oM,if_neg oM,if_neg oM]
    ·have:=K a d;rw[if_neg oM,if_pos oM]
    ·have:=I a d;rw[if_pos oM]
    ·exact d.elim
    ·exact d.elim
    ·have d:a=i:=d
     rw[if_neg oM,if_neg oM,if_pos oM]
    ·have h5:=d0 a d;have h6:=d1 a d;rw[if_neg oM,if_neg oM,if_neg oM,if_pos oM]
    ·exact d.elim
   rw[v j d,<-v a9 hj]
  ·rcases k with _|_|_|_|_|_|_|k
   ·have b:a=g.heap.size:=b
    omega
   ·have:=K a b;omega
   ·have:=I a b;omega
   ·exact b.elim
   ·exact b.elim
   ·have b:a=i:=b
    omega
   ·have:=d1 a b;omega
   ·exact b.elim
 obtain⟨t,hp⟩:=b6;have b7:∀a,(∃k,(match k with|0=>a=g.heap.size|1=>J a|2=>Fd a|5=>a=i|6=>N a|_=>False:Prop))->w.heap.size<=a:=λa ⟨k,b⟩=>by
  rcases k with _|_|_|_|_|_|_|k
  ·have b:a=g.heap.size:=b
   omega
  ·have:=K a b;omega
  ·have:=I a b;omega
  ·exact b.elim
  ·exact b.elim
  ·have b:a=i:=b
   omega
  ·have:=d0 a b;omega
  ·exact b.elim
 refine PC.ok (zO (h:=f) (z1:=none) (z2:=none) (z3:=none) hp c1 ⟨hT,hL,z.then a1,λa b=>by have:=b7 a b;have:=z.size;omega⟩) ?_;rintro _ e6 ⟨rfl,a6,h',F',x,y,a7⟩;have e7:eR c a2=qA c:=rfl;rw[e7]at y a6⊢;have a8:ai w e6:=a1.new a7.keep λa b=>.inr (b7 a b);refine⟨_,rfl,al.dw (λl=>Ok.mk ⟨a8,.inl ?_⟩) (λhz=>Ok.mk ⟨a8,.inr ?_⟩)⟩
 ·rw[a4];exact⟨l,rfl⟩
 ·rw[a4]
  exact⟨hz,_,F',rfl,⟨c1,h',x,y⟩,λa b=>(a7.new a b).elim (b7 a) λh5=>by have:=a1.size;omega,a6⟩
end
def MV(b:World):(callMethod (.iface 97 (ZX a)) "State" #[QH e,QH m]).run ZQ b= .ok (.enter 391 #[ZX a,QH e,QH m]) b:=kR
def Ik(b:World):(callMethod (.iface 97 (ZX a)) "Entries" #[]).run ZQ b= .ok (.enter 389 #[ZX a]) b:=kR
def Qu(b:World):(callMethod (.iface 97 (ZX a)) "Rows" #[QH e]).run ZQ b= .ok (.enter 390 #[ZX a,QH e]) b:=kR
def ET(a:aR)(b:List ah)(c d:Int):ve:=match(cG a b).state c d with
 |none=>pN 14
 |some e=>⟨0,(0,0),e,[],[],false⟩
def yF(c:aR)(d:List ah)(b a:Int):ve:=if b<0\/b>=(c.projs.length:Int)then pN 1 else⟨0,(0,0),⟨0,[]⟩,[],(ot (jm c d b) a 32).1,(ot (jm c d b) a 32).2⟩
section
variable {w w' w0 w1 w2:World} {p:Nat} {F E D:Nat->Prop} {cls:Nat->Nat} {h:ko} {c:cz} {self:Int} {X:bw}
def DE(a:c_ w F cls p h c self X):Calls ZQ 66 #[ZX p] w (Ok λb w'=>b= .iface 97 (ZX h.bp)/\w=w'):=
 oN ⟨p,0,rfl,_,ae a.bG rfl,Ok.mk ⟨rfl,rfl⟩⟩
def A_(y:bP w p F c self X):Calls ZQ 31 #[ZX p,QH e,QH m] w (Ok λz w'=>ju w (ET c.decl X.S.l e m) z w'/\ai w w'):=by
 obtain⟨A,h,cls,q⟩:=y;refine p_ (PA.mk λB f S C=>PC.ok (DE (c_.af q f)) ?_);rintro _ _ ⟨rfl,rfl⟩;have E:=c_.af q f;have a:dF B h.bp (λb=>F b/\cls b=4) c.decl c.every.toNat X.S.l:=E.at' 4;refine⟨_,rfl,_,_,MV,PC.ok (Lj a) ?_⟩;rintro _ r ⟨j,k,l,G,rfl,n,s,g⟩;have H:=n.aF;have T:=g.size;refine⟨_,_,_,_,_,rfl,PA.mk λU I V J=>PS.mk J sM λW K Y L=>PS.mk L sM λM N Z o=>?_⟩;have d:ai r M:=I.new (K.then N) λb a=>.inr (by have a:b=r.heap.size:=a;omega);have t:=d.get (g.get C id) id;have b0:=d.size;have u:(((cG c.decl X.S.l).state e m).getD IB).cells.length<=8:=Fq (IP A.decl X.S.l).1 ⟨0,0,0,[],e,m,0,0,0,0⟩;unfold ET
 cases O:(cG c.decl X.S.l).state e m with
 |none=>
  refine al.tt rfl (aD (lR (pN 14) none 0 0 none 0 0 none 0 0) t rfl λb1 P b2 Q=>aw (lR (pN 14) none 0 0 none 0 0 none 0 0) Q (Ok.mk ⟨ju.plain rfl rfl rfl,?_⟩));exact((f.then g).then d).new P λb a=>.inr (by have a:b=w.heap.size:=a;omega)
 |some i=>
  rw[O]at n u o;refine al.ff rfl ⟨_,_,_,_,ae o rfl,ae o rfl,aD (lR ⟨0,(0,0),i,[],[],false⟩ j k l none 0 0 none 0 0) t rfl λb3 v b4 R=>aw (lR ⟨0,(0,0),i,[],[],false⟩ j k l none 0 0 none 0 0) R (Ok.mk ⟨?_,?_⟩)⟩
  ·refine⟨j,k,l,none,0,0,none,0,0,G,rfl,((n.af d).keep v λb a x=>by have x:b=w.heap.size:=x;have:=s b a;omega).row dC (by have:i.cells.length<=8:=u;show i.cells.length*32<=aQ;unfold aQ;omega),eE _ _,eE _ _,λb a=>⟨by have:=s b a;omega,by have:=H b a;omega⟩⟩
  ·exact((f.then g).then d).new v λb a=>.inr (by have a:b=w.heap.size:=a;omega)
def QA(c:aR)(a:List ah)(d:Int):(jm c a d).length<=a.length:=by
 unfold jm;split
 ·simp
 split
 ·simp
 ·rename_i b e
  have g:=NP c a b (QZ e);have f:=(yP (b.rows.map (·.2))).length_eq;rw[Q8]at f;show(b.rows.map (·.2)|>.foldr ng []).length<=_;omega
def sH(B:bP w p F c self X):Calls ZQ 49 #[ZX p,QH e,QH m] w (Ok λg w'=>ju w (yF c.decl X.S.l e m) g w'/\ai w w'):=by
 obtain⟨R,h,cls,C⟩:=B;refine nG (PA.mk λi j S s=>?_);have d:=c_.af C j;have no:(e<0\/e>=(c.decl.projs.length:Int))->xJ ZQ 46 (ZX w.heap.size) (.agg (n_ (pN 1) none 0 0 none 0 0 none 0 0).toArray) i λt=>ow ZQ 46 (ZX w.heap.size) t λE=>Ok (λg w'=>ju w (yF c.decl X.S.l e m) g w'/\ai w w') (.returned E) t:=λH=>by
  refine aD (lR (pN 1) none 0 0 none 0 0 none 0 0) s rfl λT I U J=>aw (lR (pN 1) none 0 0 none 0 0 none 0 0) J (Ok.mk ⟨?_,j.new I λa b=>.inr (by have b:a=w.heap.size:=b;omega)⟩);unfold yF;rw[if_pos H];exact ju.plain rfl rfl rfl
 have V:=(show bh i (λa=>F a/\cls a=1) c.decl h.ta h.tn h.pa h.pn from d.at' 1).Bk.len;refine al.dec (λk=>no (.inl k)) (λk=>⟨p,0,rfl,_,_,_,ae d.bG rfl,al.dec (λu=>no (.inr oM)) (λu=>PC.ok (DE d) ?_)⟩);rintro _ _ ⟨rfl,rfl⟩;have b:dF i h.bp (λa=>F a/\cls a=4) c.decl c.every.toNat X.S.l:=d.at' 4;have W:X.S.l.length<=20000000:=b.1.2.2.2;have Y:=QA c.decl X.S.l e;refine⟨_,rfl,_,_,Qu,PC.ok (OY b) ?_⟩;rintro _ Z ⟨⟨a0,a1,cc,G,rfl,f,l,hG⟩,K⟩;have hn:=f.len dC;have L:=f.jx;refine⟨_,_,_,rfl,PC.ok (MO (f.row dC (by unfold aQ;omega)) f.aF L K oM) ?_⟩;rintro _ M ⟨a2,rfl,n,o,q,N,rfl,v,r,x⟩;have O:=v.aF;have a9:=l.size;have b0:=r.size;have b1:(ot (jm c.decl X.S.l e) m 32).1.length<=32:=by unfold ot;rw[Qy];omega
 have P:ai w M:=(j.then l).then r;refine⟨_,_,_,_,rfl,aD (lR ⟨0,(0,0),⟨0,[]⟩,[],(ot (jm c.decl X.S.l e) m 32).1,(ot (jm c.decl X.S.l e) m 32).2⟩ none 0 0 none 0 0 n o q) (r.get (l.get s id) id) rfl λb2 y b3 Q=>aw (lR ⟨0,(0,0),⟨0,[]⟩,[],(ot (jm c.decl X.S.l e) m 32).1,(ot (jm c.decl X.S.l e) m 32).2⟩ none 0 0 none 0 0 n o q) Q (Ok.mk ⟨?_,P.new y λa b=>.inr (by have b:a=w.heap.size:=b;omega)⟩)⟩;unfold yF;rw[if_neg (by rintro(z|z);exact k z;exact u oM)];refine⟨none,0,0,none,0,0,n,o,q,N,rfl,eE _ _,eE _ _,(v.keep y λa b A=>by have A:a=w.heap.size:=A;have:=x a b;omega).row dC (by show(ot (jm c.decl X.S.l e) m 32).1.length*24<=aQ;unfold aQ;omega),λa b=>⟨by have:=x a b;omega,by have:=O a b;omega⟩⟩
end
def DZ{c:Type}{d:c->Bool}:∀{L:List c} {j:Nat} {a:c},L[j]? =some a->d a=true->(L.filter d)[((L.take j).filter d).length]? =some a
 |[],j,a,b,_=>by simp at b
 |x::L,0,a,b,e=>by simp at b;subst b;simp[e]
 |x::L,j+1,a,b,e=>by
  have f:=DZ (L:=L) (j:=j) (by simpa using b) e;rw[List.take_succ_cons,List.filter_cons,List.filter_cons];split
  ·simpa using f
  ·exact f
variable{F g8:Nat×Nat}{g q:TypeId}
section
variable {w w' wz A B w1:World} {D:Nat->Prop} {a:Option Addr} {n c:Nat} {l:List df} {O R1 R2 f most:Nat} {own L:List (Bx df)} {pre:List (List Value)}
def VB(c a:Int)(b:df):Bool:=b.ev.bd==c&&b.ev.agg==a
def Fh{f:df}{a:Option Addr}{n c:Nat}(j:Row aP 8 w D a n f.ev.aK)(u:∀b,D b->b<w.heap.size):
  Calls ZQ 162 #[GP f a n c] w (Ok λv w'=>∃a n c G,v=GP f a n c/\Row aP 8 w' G a n f.ev.aK/\(∀b,G b->w.heap.size<=b/\b<w'.heap.size)/\ai w w'):=by
 have x:=j.d_;have y:=j.len;refine Ay (PA.mk λw1 o B g=>PA.mk λC h E k=>⟨_,_,_,ae (h.get g id) rfl,PC.ok (cH (j.af (o.then h)) λb d=>by have:=u b d;omega) ?_⟩);rintro _ F ⟨p,q,r,G,rfl,s,i,l⟩;have g:=i.get (h.get g id) id;have k:=i.get k id;have H:=i.size;refine⟨_,_,_,rfl,PS.mk g sM λI m J z=>?_⟩;refine aw (cs:=iG f p q r) (mg _ _ _ _) z (aD (mg _ _ _ _) (m.get k (λe=>by have e:w1.heap.size=w.heap.size:=e;omega)) rfl λK t L A=>aw (mg _ _ _ _) A (Ok.mk ⟨p,q,r,G,rfl,?_,?_,?_⟩))
 ·refine(((s.keep m λb d e=>?_).keep t λb d e=>?_).row (bytes:=8) dC (by rw[<-y];exact x))
  ·have e:b=w.heap.size:=e;have:=l b d;omega
  ·have e:b=w1.heap.size:=e;have:=l b d;omega
 ·intro b d
  have:=l b d;have:=s.aF b d;omega
 ·exact((((o.then h).then i).new m λb d=>.inr (by have d:b=w.heap.size:=d;omega)).new t λb d=>.inr (by have d:b=w1.heap.size:=d;omega))
def QT{f:df}{h i:Nat}(k:w.heap[h]? =some (.cells #[QH e] g F))(l:w.heap[i]? =some (.cells #[QH m] q g8)):
  Calls ZQ 161 #[GP f a n c,ZX h,ZX i] w (Ok λo w'=>o= .bool (VB e m f)/\ai w w'):=by
 refine Ax (PA.mk λw1 b p j=>⟨_,ae j rfl,_,ae (b.get k id) rfl,al.mk (λd=>⟨_,ae j rfl,_,ae (b.get l id) rfl,Ok.mk ⟨?_,b⟩⟩) (λd=>Ok.mk ⟨?_,b⟩)⟩)
 ·unfold VB;rw[d];rfl
 ·unfold VB;rw[d];rfl
structure Rk (wz:World) (O:Nat) (own:List (Bx df)) (f most:Nat) (pre:List (List Value)) (A:World):Prop where
 keep:aj (·=O) wz A
 d_:wz.heap.size+2<=A.heap.size
 pG:∃a n c G,A.heap[O]? =some (.cells #[.slice a n c] 43 (0,0))/\aV Ab 160 G A a n c (((own.take pre.length).drop f).map (·.x))/\(∀b,G b->wz.heap.size+2<=b)/\n<=most
structure W_ (wz:World) (O R1 R2:Nat) (own:List (Bx df)) (f most:Nat) (A:World):Prop where
 keep:aj (λb=>b=O\/b=R1\/b=R2) wz A
 r2:A.heap[R2]? =some (.cells #[.bool true] 4 (0,0))
 more:most<(own.drop f).length
 pG:∃a n c G,A.heap[R1]? =some (.cells #[.slice a n c] 43 (0,0))/\aV Ab 160 G A a n c (((own.drop f).take most).map (·.x))/\(∀b,G b->wz.heap.size+2<=b)
def Rk.af(d:Rk wz O own f most pre A)(b:ai A B):Rk wz O own f most pre B:=by
 obtain⟨e,g,a,n,c,G,h,i,j⟩:=d;exact⟨e.af b,Xx g b.size,a,n,c,G,b.get h id,i.af b,j⟩
def Rk.fr(p:O<wz.heap.size)(i:Rk wz O own f most pre A)(j:qV (wz.heap.size+1) A B):Rk wz O own f most pre B:=by
 obtain⟨k,q,a,n,c,G,l,m,h,o⟩:=i;obtain⟨g,r⟩:=j;exact⟨k.new g λd e=>.inr (by have e:d=wz.heap.size+1:=e;omega),oM,a,n,c,G,g.get l (λb=>by have b:O=wz.heap.size+1:=b;omega),m.keep g λd e b=>by have b:d=wz.heap.size+1:=b;have:=h d e;omega,h,o⟩
def W_.fr(r:O<wz.heap.size/\R1<wz.heap.size/\R2<wz.heap.size)(i:W_ wz O R1 R2 own f most A){k:Nat}(s:wz.heap.size<=k/\k<=wz.heap.size+1)(j:qV k A B):W_ wz O R1 R2 own f most B:=by
 obtain⟨l,m,o,a,n,c,G,p,q,h⟩:=i;obtain⟨d,t⟩:=j;exact⟨l.new d λe g=>.inr (by have g:e=k:=g;omega),d.get m (λb=>by have b:R2=k:=b;omega),o,a,n,c,G,d.get p (λb=>by have b:R1=k:=b;omega),q.keep d λe g b=>by have b:e=k:=b;have:=h e g;omega,h⟩
def UZ{s t u v:Nat}{R:World->Prop}{Rx:World->Prop}(hO:O<wz.heap.size)(Y:wz.heap[s]? =some (.cells #[QH e] g F))(Z:wz.heap[t]? =some (.cells #[QH m] q g8))(h1:s≠O)(h2:t≠O)(w:∃k f,wz.heap[u]? =some (.cells #[.slice a n c] k f))(h3:u≠O)(x:∃k f,wz.heap[v]? =some (.cells #[.func (.func 161) #[] #[ZX s,ZX t]] k f))(h4:v≠O)(J:Row NJ.k_ 120 wz D a n L)(hD:∀b,D b->b<wz.heap.size/\b≠O)(K:own=L.filter λb=>VB e m b.x)(b6:L.length<=20000000)(hR:∀A B,R A->aj (oF wz) A B->R B)(hy:∀pre o A,Rk wz O own f most pre A->R A->uw [QH 0,GP ⟨sY,false,(0,0)⟩ none 0 0] o->(∃b,own[pre.length]? =some b/\o=[QH (pre.length:Int),GP b.x b.a b.n b.c])->ks ZQ (wz.heap.size+1) o A λb h=>(b=true/\Rk wz O own f most (pre++[o]) h/\R h)\/(b=false/\W_ wz O R1 R2 own f most h/\Rx h))(M:Rk wz O own f most [] w1)(a4:R w1):
  Calls ZQ 226 #[.func (.yield (wz.heap.size+1)) #[] #[],ZX u,ZX v] w1 (λk h=>(∃a0,k= .returned a0)/\((R h/\∃l:List (List Value),Rk wz O own f most l h/\l.length=own.length)\/(W_ wz O R1 R2 own f most h/\Rx h))):=by
 obtain⟨e3,f3,w⟩:=w;obtain⟨e4,f4,x⟩:=x;have hn:=J.len;refine wu ⟨_,_,_,ae (M.keep.get w h3) rfl,λN a1 y w'=>∃(d:Nat) (pre:List (List Value)),y=d/\d<=n/\N=n-d/\a1=(pre.length:Int)/\pre.length=((L.take d).filter λb=>VB e m b.x).length/\Rk wz O own f most pre w'/\R w',⟨_,0,[],rfl,Qj _,rfl,rfl,rfl,M,a4⟩,?_⟩;rintro N _ _ _ P ⟨d,pre,rfl,hj,rfl,rfl,j,p,Q⟩;refine al.dec (λb7=>?_) (λb8=>?_)
 ·obtain⟨b,i⟩:∃b,L[d]? =some b:=⟨_,Qq oM⟩
  obtain⟨a2,a3,es,ha,a5,a6,z,rfl,-⟩:=(J.keep p.keep λb i=>(hD b i).2).el d b i;have b3:pre.length<=20000000:=by
   rw[j];have h5:=List.length_filter_le (λb:Bx df=>VB e m b.x) (L.take d);have h6:=List.length_take_le d L;omega
  refine⟨a2,a3,ha,oM,oM,br (es:=iG b.x b.a b.n b.c) (k:=13) (mg _ _ _ _) rfl (λy ht=>by rw[Qx];exact z y ht) (PA.mk λb9 a7 c0 a8=>aD (mg b.x b.a b.n b.c) a8 rfl λa9 b0 c1 S=>?_)⟩;have T:ai P a9:=a7.new b0 λb i=>.inr (by have i:b=P.heap.size:=i;omega);have C:=p.af T;refine⟨_,ae (C.keep.get x h4) rfl,aw (mg b.x b.a b.n b.c) S ⟨_,_,_,rfl,kR,PC.ok (QT (C.keep.get Y h1) (C.keep.get Z h2)) ?_⟩⟩;rintro _ b1 ⟨rfl,U⟩;have V:=T.then U;have W:=p.af V;have X:=hR _ _ Q (ai.keep V);refine⟨_,rfl,al.not (al.mk (λr=>?_) (λr=>⟨_,oM,d+1,pre,an oM,oM,rfl,rfl,?_,W,X⟩))⟩
  rotate_left
  ·rw[Qw,i,List.filter_append,j];simp[r]
  refine aw (mg b.x b.a b.n b.c) (U.get S id) ⟨_,rfl,(hy pre _ b1 W X ?_ ⟨b,?_,rfl⟩).mono ?_⟩
  ·exact λφ E=>E pre.length b.x.ev.origin b.x.ev.seq b.x.ev.aA b.a b.n b.c b.x.ev.bd b.x.ev.agg b.x.ev.field b.x.ev.op b.x.ev.arg b.x.ev.key b.x.void b.x.GO.1 b.x.GO.2
  ·rw[K,j];exact DZ i r
  ·rintro b' h (⟨rfl,H,b5⟩|⟨rfl,I,b2⟩)
   ·refine al.ff rfl ⟨_,oM,d+1,pre++[_],an oM,oM,rfl,?_,?_,H,b5⟩
    ·rw[an oM];simp
    ·rw[Qw,i,List.filter_append,QX,QX,<-j];simp[r]
   ·exact al.tt rfl ⟨⟨_,rfl⟩,.inr ⟨I,b2⟩⟩
 ·rw[Qz oM]at j
  exact⟨⟨_,rfl⟩,.inl ⟨Q,pre,p,by rw[K];exact j⟩⟩
end
end Go.Proofs.YtfchlbaidamodaaGreatDoor

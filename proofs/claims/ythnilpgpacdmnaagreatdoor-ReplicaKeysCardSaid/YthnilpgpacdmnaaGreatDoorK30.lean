import Derived.Test.YthnilpgpacdmnaaGreatDoorK29
namespace Go.Proofs.YthnilpgpacdmnaaGreatDoor
open Go.au
set_option linter.unusedVariables false
set_option maxRecDepth 20000
section
variable {w w' w0 w1 w2:World} {p:Nat} {F E Dv:Nat->Prop} {cls:Nat->Nat} {h:iP} {c:cy} {self:Int} {X:bE} {m:cN} {va ea:Option Addr} {vn vc en ec:Nat}
theorem MC (hr:bz w p F c self X) (he:Env w0 w F) {V:dU} (a6:X.log=some V) (c3:Row f_ 96 w E ea en m.events) (O:∀a,E a->a<w.heap.size/\¬F a) (a7:m.events.length<=1000) (hl:X.S.l.length<=18000000):
  Calls Tryz.prog 64 #[.pointer (some ⟨p,0,none⟩),jb m va vn vc ea en ec] w (Ok λa5 w'=>∃P f,a5= .tuple #[P,.int .i64 (np c self X m).2.1]/\ej w f (np c self X m).1 P w'/\bz w' p f c self (np c self X m).2.2/\cz F w f w'):=by
 obtain⟨i,h,cls,Q⟩:=hr;have R:=Q.aC;refine lS (PA.mk λS r s8 T=>?_);obtain⟨b,U⟩:∃b,b=jV c X m.events:=⟨_,rfl⟩
 have z:∀{A},(if b.1=[]then([yi X.S self m.bD],0,{X with waits:=b.2})else
   if(cR c {X with waits:=b.2} b.1).1≠0 then([],(cR c {X with waits:=b.2} b.1).1,{(cR c {X with waits:=b.2} b.1).2 with waits:=[]})else([yi (cR c {X with waits:=b.2} b.1).2.S self m.bD],0,(cR c {X with waits:=b.2} b.1).2))=A->np c self X m=A:=λ{A} e=>by rw [<-e,U];rfl
 refine⟨λw'=>∃f g,bz w' p f c self g/\cz F w f w'/\(∀a,f a->F a\/S.heap.size<=a)/\w'.heap[w.heap.size]? =some (.cells (bH m va vn vc ea en ec).toArray 42 (0,0))/\np c self X m=([yi g.S self m.bD],0,g),?_,?_⟩
 ·refine⟨_,_,_,ae T rfl,PC.ok (MD (cu.ah Q r) i (c3.ah r) (λa d=>⟨by have:=(O a d).1;omega,(O a d).2⟩) a7 hl) ?_⟩
  rw [<-U];rintro _ W ⟨Y,on,oc,Lo,B,b0,Do,rfl,C,Z,c4,b2,j,s,c5,e0⟩;have hn:=C.len dC;have c6:Lo.length=b.1.length:=by rw [<-Z,Q8]
  have b3:=eg.unbox C c4 λa d=>⟨(s a d).1,(s a d).2.1⟩
  rw [PV,Z]at b3;have b4:Row f_ 96 W (λa=>aF Y=some a\/Do a) Y on b.1:=b3.row dC (by unfold aI;omega);have H:cz F w B W:=⟨(ai.af r).then j.af,λa d=>(j.new a d).imp id λh1=>oM⟩
  have I:∀a,B a->F a\/S.heap.size<=a:=j.new;have b5:=j.af.get T λe=>by have:=R _ e;omega
  have c7:=(he.ah r).Bq j;refine⟨_,_,_,rfl,al.dec (λd9=>?_) (λhz=>?_)⟩
  rotate_left
  ·have b6:b.1=[]:=QW oM
   exact⟨B,{X with waits:=b.2},⟨i,h,b0,b2⟩,H,I,b5,z (if_pos b6)⟩
  have b7:b.1≠[]:=λt=>by rw [t,List.length_nil]at c6;omega
  refine PC.ok (Hv b2 i c7 (V:=V) a6 b4 (λa d=>d.elim (λt=>⟨C.aC a t,λe=>(c5 a t).2 e.1⟩) λe=>⟨(s a e).1,(s a e).2.2⟩) (by show X.S.l.length+_<=_;omega)) ?_;rintro _ c8 ⟨rfl,l,F2,a1,u,J,-⟩;have a0:=H.trans J;have e1:=H.af.size;refine⟨_,rfl,al.df (λb8=>?_) (λh0=>?_)⟩
  ·obtain⟨a2,Db,d,hM,hD⟩:=(show Mh c8 (λa=>F2 a/\a1 a=5) l.wp c.buffer.toNat (cR c {X with waits:=b.2} b.1).2.waits from u.at' 5)
   refine⟨p,0,rfl,_,ae (u.at' 0).2 rfl,PC.ok (tj d) ?_⟩;rintro _ e2 ⟨rfl,a3,c9⟩;obtain⟨F3,n,K,o,-⟩:=u.Bq bB (k:=5) (G':=a2) (C2:=km p (l.cells c self) l c {(cR c {X with waits:=b.2} b.1).2 with waits:=[]} (cR c {X with waits:=b.2} b.1).2.S.l) ⟨c9.mono λa _ d=>hM a d,λa d=>.inl (hM a d)⟩ a3.ME ⟨a2,_,a3,λ_ h=>h,λa d=>d.elim⟩ λa4 G hj hc=>by
    rcases a4 with _|_|_|_|_|_|_|a4<;>first|exact hc|exact absurd rfl hj
   refine⟨rfl,Ok.mk ?_⟩;rw [z ((if_neg b7).trans (if_pos b8))];exact⟨_,F3,rfl,ej.nil _ _ _,⟨i,l,n,K⟩,a0.trans o⟩
  ·refine⟨F2,(cR c {X with waits:=b.2} b.1).2,⟨i,l,a1,u⟩,a0,λa d=>(J.new a d).elim (I a) λL=>.inr (by have:=j.af.size;omega),J.af.get b5 λe=>?_,z ((if_neg b7).trans (if_neg (by simpa using h0)))⟩
   rcases I _ e with L|L
   ·have:=R _ L;omega
   ·omega
 ·rintro _ d0 ⟨f,g,d1,M,e3,d2,d3⟩ b9 d4
  obtain⟨-,h',q,N⟩:=d1;have v:ai d0 b9:=d4.af;have k:=cu.ah N v;refine⟨p,0,rfl,_,ae k.bg rfl,p,0,rfl,_,ae k.bg rfl,_,ae (v.get d2 id) rfl,PC.ok (Hn (k.at' 3).1) ?_⟩;rintro _ d5 ⟨a8,n2,c2,G,rfl,c0,hG,x⟩;have c1:=c0.aC;have e4:=M.af.size;have z2:=v.size;have d6:=x.size;refine⟨_,_,_,_,_,_,_,_,_,rfl,PA.mk λd7 y e5 d8=>?_⟩;have hm:aZ b9 [yi g.S self m.bD] (.slice (some ⟨d5.heap.size,0,none⟩) 1 1) d7:=aZ.one (D:=G) d8 ⟨(c0.ah y).row dC (by show g.S.vec.length*8<=aI;rw [g.S.br];have:g.S.n<=64:=(k.at' 3).1.1.n;unfold aI;omega),dy _ _⟩ (λa d=>⟨hG a d,by have:=c1 a d;omega,by have:=c1 a d;omega⟩) d6 (x.then y);rw [d3];exact Ok.mk ⟨_,f,rfl,hm.out k.aC oM,⟨i,h',q,cu.ah k (x.then y)⟩,((M.af.ah v).ah x).ah y,M.new⟩
end
section
variable {w w' w0 w1 w2:World} {p:Nat} {F E Dv:Nat->Prop} {cls:Nat->Nat} {h:iP} {c:cy} {self:Int} {X:bE} {m:cN} {va ea:Option Addr} {vn vc en ec:Nat}
theorem kH.EK (a:kH c self):1<=c.chunk/\c.chunk<=32:=by
 have:=a.right;unfold jh within at this;simp only [QK,decide_eq_true_eq]at this;omega
theorem pJ (hr:bz w p F c self X) (he:Env w0 w F) (V:Row aG 8 w Dv va vn m.vec) (f2:∀a,Dv a->a<w.heap.size/\¬F a) (c7:Row f_ 96 w E ea en m.events) (hE:∀a,E a->a<w.heap.size/\¬F a) (hl:X.S.l.length<=18000000):
  Calls Tryz.prog 31 #[.pointer (some ⟨p,0,none⟩),jb m va vn vc ea en ec] w (Ok λW w'=>∃s g,W= .tuple #[s,.int .i64 (bT c self X m).2.1]/\ej w g (bT c self X m).1 s w'/\bz w' p g c self (bT c self X m).2.2/\cz F w g w'):=by
 have b0:=hr;obtain⟨y,h,cls,i⟩:=hr;have J:=i.aC;obtain⟨g0,i2,i3⟩:=y.bR;have i4:=y.EK;refine kf (PA.mk λw8 Y s8 g8=>?_);have h8:=cu.ah i Y;have no:∀{w1:World} {j:Int},ai w w1->bT c self X m=([],j,X)->Ok (λW w'=>∃s g,W= .tuple #[s,.int .i64 (bT c self X m).2.1]/\ej w g (bT c self X m).1 s w'/\bz w' p g c self (bT c self X m).2.2/\cz F w g w') (.returned (.tuple #[.slice none 0 0,.int .i64 j])) w1:=λ{w1 j} K Z=>by
  rw [Z];exact Ok.mk ⟨_,F,rfl,ej.nil _ _ _,b0.ah K,ai.af K,λa b=>.inl b⟩
 refine⟨p,0,rfl,_,ae h8.bg rfl,fG Tryz.underlying81 ⟨_,rfl,?_⟩⟩;have c8:DL w (λa=>F a/\cls a=2) h.dp h.lp X.D X.log:=i.at' 2
 cases z:X.log with
 |none=>
  obtain⟨Fd,-,-,k⟩:=c8;rw [z]at k;have k:h.lp=none:=k;rw [k];exact al.tt rfl (no Y (by unfold bT;rw [z]))
 |some a8=>
 obtain⟨a9,a0,a6,-⟩:=DL.MB (z▸c8) (he.sub λa b=>b.1) λa b=>J a b.1;have L:∀{r},(if eX m c.bR.toNat c.chunk≠0 then([],eX m c.bR.toNat c.chunk,X)else if m.oA≠self then([],1,X)else if m.kind=3 then np c self X m else
   if m.kind≠4 then(kN X.S self m c.chunk,0,{X with fu:=X.fu.yj m.bD m.vec X.S.vec})else
   if X.S.missing m.vec c.chunk=[]then([],0,{X with fu:=X.fu.yj m.bD m.vec X.S.vec})else([⟨3,self,m.bD,[],X.S.missing m.vec c.chunk⟩],0,{X with fu:=X.fu.yj m.bD m.vec X.S.vec}))=r->bT c self X m=r:=λ{r} n=>by rw [<-n];unfold bT;rw [z]
 rw [a0];refine al.ff rfl λg1 c9=>?_;have M:ai w g1:=Y.then c9.af;have d0:=cu.ah i M;have d1:=(c9.af (S:=λ_=>False)).get g8 id;refine ar (iJ m va vn vc ea en ec) d1 ⟨p,0,rfl,_,ae d0.bg rfl,p,0,rfl,_,ae d0.bg rfl,?_⟩;rw [g0];refine PC.ok (Mv (V.ah M) (c7.ah M) oM) ?_;rintro _ i5 ⟨rfl,d2⟩;have a1:=M.then d2;have g2:=cu.ah i a1;have d3:=d2.get d1 id;refine⟨_,rfl,al.df (λt=>no a1 (L (if_pos t))) (λt=>⟨_,ae d3 rfl,p,0,rfl,_,ae g2.bg rfl,λg3 d4=>?_⟩)⟩;have l:ai w g3:=a1.then d4.af;have i6:=cu.ah i l;have b8:=(d4.af (S:=λ_=>False)).get d3 id;have b9:¬eX m c.bR.toNat c.chunk≠0:=by simpa using t
 refine al.df (λN=>no l (L ((if_neg b9).trans (if_pos N)))) (λN=>⟨_,ae b8 rfl,al.dJ (λk=>?_) (λk=>λd5 d6=>?_)⟩)
 ·have Z:=L (((if_neg b9).trans (if_neg (by simpa using N))).trans (if_pos k))
  have d7:m.events.length<=1000:=by
   have e:=t;unfold eX at e;simp only at e;rw [if_pos k]at e;split at e
   ·cases e
   ·unfold eH at e
    split at e
    ·cases e
    split at e
    ·cases e
    ·omega
  refine ar (iJ m va vn vc ea en ec) b8 (PC.ok (MC (b0.ah l) (he.ah l) z (c7.ah l) (λa b=>⟨by have:=(hE a b).1;have:=l.size;omega,(hE a b).2⟩) d7 hl) ?_);rintro _ i7 ⟨s,g,rfl,b1,g4,b2⟩;have g5:=b1;obtain⟨a2,n2,c2,a7,D,rfl,o2,o3,o4,o5,o6⟩:=b1;refine⟨_,_,_,_,rfl,Ok.mk ?_⟩;have f0:=l.size;rw [Z];exact⟨_,g,rfl,⟨a2,n2,c2,a7,D,rfl,o2,o3,o4,λa b=>⟨by have:=(o5 a b).1;omega,(o5 a b).2⟩,λa b=>⟨by have:=(o6 a b).1;omega,(o6 a b).2⟩⟩,g4,(ai.af l).then b2.af,λa b=>(b2.new a b).imp id λe=>oM⟩
 ·have c0:ai w d5:=l.then d6.af
  have O:=cu.ah i c0;have c1:=(d6.af (S:=λ_=>False)).get b8 id;have d8:dA d5 h.tp (λa=>F a/\cls a=6) X.fu:=O.at' 6;have eR:=(O.at' 3).1;have nS:¬(F p/\cls p=6):=λj=>by have:=j.2;rw [i.Hu.2]at this;cases this
  have d9:¬(F w.heap.size/\cls w.heap.size=6):=λj=>by have:=J _ j.1;omega
  refine⟨λa=>F a/\cls a=6,p,0,rfl,nS,_,ae O.bg rfl,d9,_,ae c1 rfl,d9,_,_,_,ae c1 rfl,p,0,rfl,_,ae O.bg rfl,PC.ok (kq eR) ?_⟩;rintro _ g6 ⟨a2,n2,c2,G,rfl,e0,A,hG⟩;have hN:X.S.n<=64:=eR.1.n;have g7:Row aG 8 g6 G a2 n2 X.S.vec:=e0.row dC (by rw [X.S.br];unfold aI;omega);have i8:=c0.size;have i9:=A.size;have B:=c0.then A;refine⟨_,_,_,rfl,ai.af A,PC.ok (Hw (d8.ah A) ((V.ah B).r_) g7.r_ λ_=>cV.2 λa b n=>?_) ?_⟩
  ·have:=hG a (e0.self a b);have:=J a n.1;omega
  rintro _ c4 ⟨G6,rfl,a3,b3⟩;obtain⟨P,f,C,d,-⟩:=(cu.ah i B).Bq bB (k:=6) (G':=G6) (C2:=km p (h.cells c self) h c {X with fu:=X.fu.yj m.bD m.vec X.S.vec} X.S.l) b3 a3.aC a3 λa4 G hj t=>by
   rcases a4 with _|_|_|_|_|_|_|a4<;>first|exact t|exact absurd rfl hj
  have o:cz F w P c4:=⟨(ai.af B).then d.af,λa b=>(d.new a b).imp id λe=>by have:=B.size;omega⟩
  have Q:=d.af.get (A.get c1 id) λn=>by have:=J _ n;omega
  have b4:=(V.ah B).af d.af λa b=>(f2 a b).2;have j0:=o.af.size;have c5:=λ{r} n=>L (r:=r) (((if_neg b9).trans (if_neg (by simpa using N))).trans ((if_neg k).trans n));refine⟨_,rfl,b3.af,_,ae Q rfl,al.df (λR=>λe1 g9=>?_) (λR=>λe2 h0=>?_)⟩
  ·have H:ai c4 e1:=g9.af
   have u:=cu.ah C H;have j1:=H.size;refine⟨p,0,rfl,_,ae u.bg rfl,p,0,rfl,_,ae u.bg rfl,ar (iJ m va vn vc ea en ec) (H.get Q id) ⟨p,0,rfl,_,ae u.bg rfl,PC.ok (Hx (u.at' 3).1 (show X.S.l.length<=20000000 by omega) (b4.ah H)) ?_⟩⟩;rintro _ h2 c6;obtain⟨a5,S,c3,rfl⟩:=c6.sl;have b5:ai e1 h2:=by obtain⟨_,_,_,_,_,_,_,_,_,_,_,K⟩:=c6;exact K
   refine⟨_,_,_,rfl,Ok.mk ?_⟩;rw [c5 (if_pos R)];exact⟨_,P,rfl,c6.out u.aC oM,⟨y,h,f,cu.ah u b5⟩,(o.af.ah H).ah b5,o.new⟩
  ·have q:ai c4 e2:=h0.af
   have I:=cu.ah C q;have j2:=q.size;refine⟨p,0,rfl,_,ae I.bg rfl,_,_,_,ae (q.get Q id) rfl,p,0,rfl,_,ae I.bg rfl,PC.ok (xg (I.at' 3).1 (by show X.S.l.length<=_;omega) (b4.ah q)) ?_⟩;rintro _ e3 ⟨a5,S,c3,G3,rfl,T,v,h6⟩;have e4:=T.len dC;have b6:=T.aC;have e5:=cu.ah I v;have j3:=v.size;have d7:(X.S.missing m.vec c.chunk).length<=32:=by
    unfold aw.missing;rw [Qy];omega
   change aO f_ 60 G3 e3 a5 S c3 (X.S.missing m.vec c.chunk)at T
   refine⟨_,_,_,rfl,al.dec (λi1=>λe6 h7=>?_) (λhz=>Ok.mk ?_)⟩
   ·have e7:X.S.missing m.vec c.chunk≠[]:=λj=>by
     have b7:S=(X.S.missing m.vec c.chunk).length:=e4;rw [j,List.length_nil]at b7;omega
    have x:ai e3 e6:=h7.af;have e8:=cu.ah e5 x;have j4:=x.size;refine⟨p,0,rfl,_,ae e8.bg rfl,_,ae (x.get (v.get (q.get Q id) id) id) rfl,PA.mk λh9 U j5 i0=>Ok.mk ?_⟩;have hm:aZ e2 [⟨3,self,m.bD,[],X.S.missing m.vec c.chunk⟩] (.slice (some ⟨e6.heap.size,0,none⟩) 1 1) h9:=aZ.one (m:=⟨3,self,m.bD,[],X.S.missing m.vec c.chunk⟩) (va:=none) (vn:=0) (vc:=0) (D:=G3) i0 ⟨dy _ _,((T.ah x).ah U).row dC (by unfold aI;omega)⟩ (λa b=>⟨h6 a b,by have:=b6 a b;omega,by have:=b6 a b;omega⟩) oM ((v.then x).then U);rw [c5 ((if_neg (by simpa using R)).trans (if_neg e7))];exact⟨_,P,rfl,hm.out I.aC oM,⟨y,h,f,cu.ah e8 U⟩,(((o.af.ah q).ah v).ah x).ah U,o.new⟩
   ·have e9:X.S.missing m.vec c.chunk=[]:=QW (by
     have b7:S=(X.S.missing m.vec c.chunk).length:=e4;omega)
    rw [c5 ((if_neg (by simpa using R)).trans (if_pos e9))];exact⟨_,P,rfl,ej.nil _ _ _,⟨y,h,f,e5⟩,(o.af.ah q).ah v,o.new⟩
end
variable{e:Int}
section
variable {w w' w0 w1 w2:World} {p:Nat} {F E Dv:Nat->Prop} {cls:Nat->Nat} {h:iP} {c:cy} {self:Int} {X:bE}
theorem Mi (P:bz w p F c self X) (u:Env w0 w F) (Q:aK e):
  Calls Tryz.prog 34 #[.pointer (some ⟨p,0,none⟩),.int .i64 e] w (Ok λR w'=>∃s,R= .int .i64 (Av c X e).1/\bz w' p s c self (Av c X e).2/\cz F w s w'/\(Av c X e).2.S.l.length<=16777216):=by
 obtain⟨C,h,cls,t⟩:=P;have b8:=t.aC;have b9:=t.Hu;have v:bt w F cls (recC p (wq h c self h.lp (some ⟨h.sp,0,none⟩) (some ⟨h.bp,0,none⟩)) {h with lp:=none} c {X with log:=none} false):=
  ⟨λk=>by
   have g:=t.at' k;rcases k with _|_|_|_|_|_|_|k<;>first|exact g|trivial|(intro S;cases S)|(obtain⟨Fd,j,x,T⟩:=g;exact⟨Fd,j,x,rfl⟩),t.aC⟩
 obtain⟨Fd,U,o,-⟩:=(show DL w (λa=>F a/\cls a=2) h.dp none X.D none from v.at' 2)
 refine lQ ⟨p,0,rfl,_,ae (v.at' 0).2 rfl,PC.ok (I_ U Q) ?_⟩;rintro _ V ⟨E,rfl,H,I⟩;obtain⟨W,Y,y,q,-⟩:=v.Bq fR (k:=2) (G':=E) (C2:=recC p (wq h c self h.lp (some ⟨h.sp,0,none⟩) (some ⟨h.bp,0,none⟩)) {h with lp:=none} c {X with log:=none,D:=X.D.z_ e} false) ⟨I.af.mono λa _ b=>o a b,λa b=>(I.new a b).imp (o a) id⟩ (λa b=>H.aC a b) ⟨E,H,λa b=>b,rfl⟩ λd G l g=>by
  rcases d with _|_|_|_|_|_|_|d<;>first|exact g|exact absurd rfl l
 obtain⟨J,Db,b,K,hD⟩:=(show Mh V (λa=>W a/\Y a=5) h.wp c.buffer.toNat X.waits from y.at' 5)
 refine⟨rfl,p,0,rfl,_,ae (y.at' 0).2 rfl,PC.ok (tj b) ?_⟩;rintro _ c0 ⟨rfl,L,Z⟩;obtain⟨m,i,f,n,-⟩:=y.Bq fR (k:=5) (G':=J) (C2:=recC p (wq h c self h.lp (some ⟨h.sp,0,none⟩) (some ⟨h.bp,0,none⟩)) {h with lp:=none} c {X with log:=none,D:=X.D.z_ e,waits:=[]} false) ⟨Z.mono λa _ b=>K a b,λa b=>.inl (K a b)⟩ L.ME ⟨J,_,L,λ_ h=>h,λa b=>b.elim⟩ λd G l g=>by
  rcases d with _|_|_|_|_|_|_|d<;>first|exact g|exact absurd rfl l
 refine⟨rfl,p,0,rfl,_,ae (f.at' 0).2 rfl,PC.ok (Hy (f.at' 6)) ?_⟩;rintro _ z ⟨rfl,a3,M⟩;have A:bt z m i (recC p (wq h c self h.lp (some ⟨h.sp,0,none⟩) (some ⟨h.bp,0,none⟩)) {h with lp:=none} c {X with log:=none,D:=X.D.z_ e,waits:=[],fu:=⟨X.fu.cQ,[],[]⟩} false):=f.same fR (k:=6) M a3 λd G l g=>by
  rcases d with _|_|_|_|_|_|_|d<;>first|exact g|exact absurd rfl l
 have N:cz F w m z:=by
  have j:=q.trans n;exact⟨j.af.new (M.mono λa _ b=>b.1) λa b=>j.new a b,j.new⟩
 have a5:=u.Bq N;have b3:=DL.ug (show DL z (λa=>m a/\i a=2) h.dp none (X.D.z_ e) none from A.at' 2) (a5.sub λa b=>b.1);refine⟨rfl,p,0,rfl,_,ae (A.at' 0).2 rfl,PC.ok (LF u.laid b3) ?_⟩;rintro _ c1 ⟨rfl,a0,b4⟩;obtain⟨G2,b5,a6,b6,-⟩:=DL.KZ (Y:=λ_=>False) (a0.mono λa b=>b.elim id False.elim) b4;obtain⟨c2,b7,a7,a1,-⟩:=A.Bq fR (k:=2) (G':=G2) (C2:=recC p (wq h c self h.lp (some ⟨h.sp,0,none⟩) (some ⟨h.bp,0,none⟩)) {h with lp:=none} c {X with log:=none,D:=yY (X.D.z_ e),waits:=[],fu:=⟨X.fu.cQ,[],[]⟩} false) a6 b6 (by
   obtain⟨Fd,j,x,T⟩:=b5;exact⟨Fd,j,x,rfl⟩) λd G l g=>by
  rcases d with _|_|_|_|_|_|_|d<;>first|exact g|exact absurd rfl l
 have O:=N.trans a1;refine⟨rfl,PC.ok (xh (h:={h with lp:=none}) (z1:=h.lp) (z2:=some ⟨h.sp,0,none⟩) (z3:=some ⟨h.bp,0,none⟩) a7 C (u.Bq O)) ?_⟩;rintro _ c3 ⟨rfl,a8,h',s,r,B,a9⟩;exact⟨_,rfl,Ok.mk ⟨s,rfl,⟨C,h',r,B⟩,O.trans a9,a8⟩⟩
theorem Om (s:bz w p F c self X) (t:aK e):
  Calls Tryz.prog 35 #[.pointer (some ⟨p,0,none⟩),.int .i64 e] w (Ok λu w'=>∃m,u= .tuple #[]/\bz w' p m c self {X with D:=X.D.PQ e}/\cz F w m w'):=by
 obtain⟨v,h,cls,i⟩:=s;obtain⟨Fd,x,j,d⟩:=(show DL w (λa=>F a/\cls a=2) h.dp h.lp X.D X.log from i.at' 2)
 refine mP ⟨p,0,rfl,_,ae i.bg rfl,PC.ok (LV t x) ?_⟩;rintro _ n ⟨rfl,y,k⟩;have z:cu n F cls p h c self {X with D:=X.D.PQ e}:=bt.same i bB (k:=2) (k.af.mono λa _ b=>j a b) (by
  refine⟨Fd,y,j,?_⟩;show match X.log with
   |none=>h.lp=none
   |some l=>l.bC≠[]/\∃f g,h.lp=some ⟨f,0,none⟩/\gY n h.dp f g l/\∀a,g a->(F a/\cls a=2)/\¬Fd a
  cases o:X.log with
  |none=>rw [o]at d;exact d
  |some l=>
   rw [o]at d;obtain⟨A,f,g,B,C,q⟩:=d;exact⟨A,f,g,B,C.af k.af λa b=>(q a b).2,q⟩) λr G E H=>by
  rcases r with _|_|_|_|_|_|_|r<;>first|exact H|exact absurd rfl E
 exact⟨rfl,Ok.mk ⟨F,rfl,⟨v,h,cls,z⟩,k.af.mono λa _ b=>(j a b).1,λa b=>.inl b⟩⟩
theorem Ck {V:dU} {D:an} {l:List aj} {size:Int} (b:(cm V D l size).no=0):(cm V D l size).V.bC≠[]:=by
 revert b
 unfold cm;split
 ·rename_i a;intro h;exact absurd h a
 split
 ·rename_i a;intro h;exact absurd h a
 ·exact AU
theorem GX (R:bz w p F c self X) (B:Env w0 w F) (hl:X.S.l.length<=18000000):
  Calls Tryz.prog 36 #[.pointer (some ⟨p,0,none⟩)] w (Ok λa2 w'=>∃S,a2= .int .i64 (gJ c X).1/\bz w' p S c self (gJ c X).2/\cz F w S w'):=by
 have a6:=R;obtain⟨T,h,cls,o⟩:=R;have a8:=o.aC;refine kh ⟨p,0,rfl,_,ae o.bg rfl,fG Tryz.underlying81 ⟨_,rfl,?_⟩⟩;have U:DL w (λa=>F a/\cls a=2) h.dp h.lp X.D X.log:=o.at' 2
 cases m:X.log with
 |none=>
  obtain⟨Fd,-,-,j⟩:=U;rw [m]at j;have j:h.lp=none:=j;rw [j];have q:gJ c X=(15,X):=by unfold gJ;rw [m]
  rw [q];exact al.tt rfl (Ok.mk ⟨F,rfl,a6,cz.refl _ _⟩)
 |some d=>
 obtain⟨z,f,C,-⟩:=DL.MB (m▸U) (B.sub λa b=>b.1) λa b=>a8 a b.1;have E:∀{k},(if(cm d X.D X.S.l c.bN).no≠0 then((cm d X.D X.S.l c.bN).no,{X with D:=(cm d X.D X.S.l c.bN).D})else(0,{X with D:=(cm d X.D X.S.l c.bN).D,log:=some (cm d X.D X.S.l c.bN).V}))=k->gJ c X=k:=λ{k} H=>by rw [<-H];unfold gJ;rw [m]
 rw [f];refine al.ff rfl λw9 d9=>?_;have V:ai w w9:=d9.af;have n:=cu.ah o V;have W:=o.Hu;have I:¬(F p/\cls p=2):=λr=>by have:=r.2;rw [W.2]at this;cases this
 refine⟨λa=>F a/\cls a=2,p,0,rfl,I,_,ae n.bg rfl,p,0,rfl,I,_,ae n.bg rfl,p,0,rfl,_,ae n.bg rfl,p,0,rfl,I,_,ae n.bg rfl,PC.ok (qj (n.at' 3).1 oM) ?_⟩;rintro _ s ⟨b6,b7,cc,G,rfl,Y,J,hG⟩;have A:=cu.ah n J;have t:=V.then J;have a9:=Y.aC;obtain⟨Z,i,-,K⟩:=DL.MB (show DL s (λa=>F a/\cls a=2) h.dp h.lp X.D (some d)from m▸A.at' 2) ((B.ah t).sub λa b=>b.1) λa b=>A.aC a b.1;have H:Z=z:=by rw [f]at i;cases i;rfl
 subst H;refine⟨_,_,_,rfl,ai.af J,?_⟩;rw [f];refine PC.ok (GA B.laid K (Y.row dC (by unfold aI;omega)) a9 oM) ?_;have a0:=Ck (V:=d) (D:=X.D) (l:=X.S.l) (size:=c.bN);generalize cm d X.D X.S.l c.bN=k at E a0;rintro _ a3 ⟨L,a4,b0,a5,⟨u,rfl,b1⟩|⟨u,q3,rfl,b2⟩⟩
 ·obtain⟨Fd,h1,h2,j,h4⟩:=b1
  have M:∀a,¬(a<s.heap.size/\¬(F a/\cls a=2))->(F a/\cls a=2)\/s.heap.size<=a:=λa b=>by
   rcases Nat.lt_or_ge a s.heap.size with N|N
   ·exact .inl (Classical.byContradiction λh8=>b ⟨N,h8⟩)
   ·exact .inr N
  have a1:ak (λa=>F a/\cls a=2) s a3:=a5.mono λa b8 b=>(M a b).resolve_right oM;obtain⟨O,l,g,v,-⟩:=A.dZ bB (k:=2) (G':=λa=>Fd a\/L a) (C2:=km p (h.cells c self) h c {X with D:=k.D} X.S.l) a1 (λa b=>b.elim (λx=>M a λh6=>(j a x).2 (.inl h6)) λx=>M a (b0 a x).2) (λa b=>b.elim (h1.aC a) (a4.aC a)) (by
    refine⟨Fd,h1,λa b=>.inl b,?_⟩;show match X.log with
     |none=>h.lp=none
     |some d=>d.bC≠[]/\∃z Fl,h.lp=some ⟨z,0,none⟩/\gY a3 h.dp z Fl d/\∀a,Fl a->(Fd a\/L a)/\¬Fd a
    rw [m];exact⟨C,Z,L,f,a4,λa b=>⟨.inr b,λhd=>(j a hd).2 (.inr b)⟩⟩) λy G P q=>by
   rcases y with _|_|_|_|_|_|_|y<;>first|exact q|exact absurd rfl P
  refine⟨_,_,rfl,a1,al.dJ (λQ=>absurd Q u) (λ_=>Ok.mk ?_)⟩;rw [E (if_pos u)];exact⟨O,rfl,⟨T,h,l,g⟩,(ai.af t).then v.af,λa b=>(v.new a b).imp id λx=>by have:=t.size;omega⟩
 ·obtain⟨G2,b3,v,b4,hY⟩:=DL.Fc b2 a5 (a0 u)
  obtain⟨O,l,g,e,-⟩:=A.Bq bB (k:=2) (G':=G2) (C2:=km p (h.cells c self) {h with lp:=some ⟨q3,0,none⟩} c {X with D:=k.D,log:=some k.V} X.S.l) v b4 b3 λy G P q=>by
   rcases y with _|_|_|_|_|_|_|y<;>first|exact q|exact absurd rfl P
  refine⟨_,_,rfl,v.af,al.dJ (λ_=>⟨p,0,rfl,PS.mk (g.at' 0).2 sM λb9 a7 c0 b5=>Ok.mk ?_⟩) (λQ=>absurd rfl Q)⟩;rw [E (if_neg (by simpa using u))];exact⟨O,rfl,⟨T,{h with lp:=some ⟨q3,0,none⟩},l,cu.store g a7 b5⟩,((ai.af t).then e.af).then (a7.mono λa _ r=>by have r:a=p:=r;rw [r];exact W.1),λa b=>(e.new a b).imp id λx=>by have:=t.size;omega⟩
end
variable{c7:List a_}{J:aM}
section
variable {w w' w0 w1 w2:World} {p:Nat} {F E D:Nat->Prop} {c:cy} {self:Int}
def gw (c:cy) (a:Option Addr) (tn b:Nat) (d:Option Addr) (e f:Nat):List Value:=[.int .i64 c.bR,.int .i64 c.ug,.int .i64 c.bN,.int .i64 c.chunk,.int .i64 c.buffer,.int .i64 c.cQ,.int .i64 c.every,.int .i64 c.start,.slice a tn b,.slice d e f]
abbrev pI (c:cy) (a:Option Addr) (tn b:Nat) (d:Option Addr) (e f:Nat):Value:=.agg (gw c a tn b d e f).toArray
theorem uj (c:cy) (a:Option Addr) (tn b:Nat) (d:Option Addr) (e f:Nat):gP Tryz.prog 27 (gw c a tn b d e f)=true:=kR
theorem nu {a b c:Int}:Calls Tryz.prog 52 #[.int .i64 a,.int .i64 b,.int .i64 c] w (Ok λd w'=>d= .bool (within a b c)/\w=w'):=by
 refine tw (al.dec (λe=>Ok.mk ⟨?_,rfl⟩) (λe=>Ok.mk ⟨?_,rfl⟩))
 ·simp [within];omega
 ·simp [within];omega
theorem MF {y z:Option Addr} {tn A B C:Nat}:Calls Tryz.prog 22 #[pI c y tn A z B C,.int .i64 self] w (Ok λk w'=>k= .bool (jh c self)/\ai w w'):=by
 refine xD (PA.mk λw1 s J b=>?_);have K:∀{l m n:Int} {o:Bool->Prop} {t:List PanicEntry->World->Prop},o (within l m n)->∃p u v,(Value.func (.func 52) #[] #[])= .func (.func p) u v/\enters Tryz.prog p=true/\PC Tryz.prog p (u++ #[.int .i64 l,.int .i64 m,.int .i64 n]++v) w1 (λE F=>∃(x:Bool),E= .bool x/\F=w1/\o x) t:=λ{l m n o t} q=>by
  refine⟨_,_,_,rfl,kR,PC.ok nu ?_⟩;rintro _ _ ⟨rfl,rfl⟩;exact⟨_,rfl,rfl,q⟩
 have no:jh c self=false->Ok (λk w'=>k= .bool (jh c self)/\ai w w') (.returned (.bool false)) w1:=λH=>Ok.mk ⟨by rw [H],s⟩;have d:jh c self=(within c.bR 1 64&&(within self 0 (c.bR-1)&&(within c.ug 64 262144&&(decide (c.bN>=1)&&(decide (c.every>=1)&&(within c.chunk 1 32&&(within c.buffer 1 256&&(within c.cQ 1 1048576&&decide (c.start>=0))))))))):=by
  unfold jh;simp only [Bool.and_assoc]
 refine⟨_,ae b rfl,_,_,_,rfl,kR,PC.ok nu ?_⟩;rintro _ _ ⟨rfl,rfl⟩;refine⟨_,rfl,al.mk (λa=>⟨_,ae b rfl,_,_,_,rfl,kR,PC.ok nu ?_⟩) (λa=>no (by rw [d,a];rfl))⟩;have I:IntKind.wrap .i64 (c.bR-1)=c.bR-1:=wrap_i64 (by have:=bj.1 a;unfold aK;omega);rw [I];rintro _ _ ⟨rfl,rfl⟩;refine⟨_,rfl,al.mk (λe=>⟨_,ae b rfl,_,_,_,rfl,kR,PC.ok nu ?_⟩) (λe=>no (by rw [d,a,e];rfl))⟩;rintro _ _ ⟨rfl,rfl⟩;refine⟨_,rfl,al.mk (λf=>⟨_,ae b rfl,al.mk (λg=>⟨_,ae b rfl,al.mk (λh=>⟨_,ae b rfl,_,_,_,rfl,kR,PC.ok nu ?_⟩) (λh=>no (by rw [d,a,e,f,g,h];rfl))⟩) (λg=>no (by rw [d,a,e,f,g];rfl))⟩) (λf=>no (by rw [d,a,e,f];rfl))⟩;rintro _ _ ⟨rfl,rfl⟩;refine⟨_,rfl,al.mk (λi=>⟨_,ae b rfl,_,_,_,rfl,kR,PC.ok nu ?_⟩) (λi=>no (by rw [d,a,e,f,g,h,i];rfl))⟩;rintro _ _ ⟨rfl,rfl⟩;refine⟨_,rfl,al.mk (λj=>⟨_,ae b rfl,_,_,_,rfl,kR,PC.ok nu ?_⟩) (λj=>no (by rw [d,a,e,f,g,h,i,j];rfl))⟩;rintro _ _ ⟨rfl,rfl⟩;refine⟨_,rfl,al.mk (λr=>⟨_,ae b rfl,Ok.mk ⟨by rw [d,a,e,f,g,h,i,j,r];rfl,s⟩⟩) (λr=>no (by rw [d,a,e,f,g,h,i,j,r];rfl))⟩
theorem OO {a b:Nat} (c:J.types[a]? =some c7) (e:b<c7.length):J.Br (a:Int) (b:Int)=c7[b]? :=by
 have f:=(Qv.1 c).1;have d:J.at (a:Int)=c7:=by
  unfold aM.at;rw [if_pos (bj.2 ⟨oM,oM⟩),Qx,QQ,c];rfl
 unfold aM.Br;rw [d,if_pos (by simp only [QK,bj];exact⟨⟨oM,oM⟩,oM,oM⟩),Qx]
end
section
variable {w w' w0 w1 w2:World} {p:Nat} {F E D:Nat->Prop} {c:cy} {self:Int}
theorem JQ {ta pa:Option Addr} {tn tc L pc:Nat} (h:aW w D J ta tn pa L) (hD:∀a,D a->a<w.heap.size):
  Calls Tryz.prog 24 #[.agg #[.slice ta tn tc,.slice pa L pc]] w (Ok λa7 w'=>∃t BX a1 e u k G,a7= .agg #[.slice t BX a1,.slice e u k]/\aW w' G J t BX e u/\(∀a,G a->w.heap.size<=a/\a<w'.heap.size)/\ai w w'):=by
 have g1:=h.aT.len;have b8:=h.aT.dt;have g2:=h.yF.len;have g3:=h.yF.dt;refine vk (PA.mk λM k4 s4 g4=>PA.mk λw5 k5 s5 g5=>⟨_,_,_,ae (k5.get g4 id) rfl,?_⟩);have v:=k4.then k5;refine yt (aO.nil (c:=t_) (e:=119) w5) Jd (h.yF.ah v) (λa b=>⟨by have:=hD a b;omega,λc=>by cases c⟩) (by rw [List.length_nil];unfold aI at*;omega) (by rw [List.length_nil];unfold aI at*;unfold maxLen;omega) λe k f Fp d1 k8 k0 d2=>⟨_,_,_,rfl,PA.mk λk1 g6 k2 g7=>PS.mk g7 sM λk3 g8 k6 g9=>PS.mk g9 sM λr h0 k7 h3=>?_⟩
 rw [List.nil_append,Xz]at d1;have a9:=d1.alone;have b9:∀a,aF e=some a->w5.heap.size<=a/\a<f.heap.size:=λa b=>⟨(d2 a b).elim False.elim id,a9.aC a b⟩
 have z8:=k8.size;have x:ai w5 f:=k8.mono λa _ c=>by cases c
 have y:ai f r:=(g6.new g8 λa b=>.inr (by have b:a=f.heap.size:=b;omega)).new h0 λa b=>.inr (by have b:a=f.heap.size:=b;omega);have b0:ai w r:=(v.then x).then y;have gp:=y.get (x.get (k5.get g4 id) id) id;have gr:=y.get (x.get g5 id) id;have b1:r.heap[f.heap.size]? =some (.cells #[.slice none 0 0,.slice e (0+L) k] 25 (0,0)):=h3;rw [Xz]at b1;have k9:=y.size;refine⟨_,_,_,ae gp rfl,λz a2 w'=>∃i:Nat,a2=i/\i<=tn/\z=tn-i/\ak (·=f.heap.size) r w'/\∃N O oc P,w'.heap[f.heap.size]? =some (.cells #[.slice N O oc,.slice e L k] 25 (0,0))/\aO jE 107 P w' N O oc (J.types.take i)/\∀a,P a->r.heap.size<=a,
  ⟨_,0,rfl,Qj _,rfl,ak.refl _,none,0,0,λ_=>False,b1,aO.nil _,λ_ h=>h.elim⟩,?_⟩
 rintro z _ _ Q ⟨i,rfl,hj,rfl,s,N,O,oc,P,R,m,A⟩;have S:ai w Q:=b0.new s λa b=>.inr (by have b:a=f.heap.size:=b;have:=v.size;have:=x.size;omega);have zk:=s.size;have b2:=s.get gp λc=>by have c:w.heap.size=f.heap.size:=c;have:=k4.size;omega
 refine al.dec (λl0=>?_) (λl3=>?_)
 ·have h4:i<J.types.length:=oM
  have T:J.types[i]? =some J.types[i]:=Qq h4;generalize J.types[i]=n at T;obtain⟨a,c1,es,ha,b,l4,c4,fa,fn,fc,rfl,U⟩:=(h.aT.ah S).el i n T;have c0:=c4 0 dC;have h6:jE.k=1:=rfl;rw [h6,Nat.mul_one]at c0;have h7:=U.len;have c2:=U.dt;refine⟨a,c1,ha,oM,oM,fa,fn,fc,by rw [Qx];exact c0,PA.mk λl5 h8 l6 h9=>PS.mk h9 sM λj i0 l7 i1=>PA.mk λl8 d3 l9 i2=>PS.mk i2 sM λB d4 m0 i3=>?_⟩;have p:ai Q B:=((h8.new i0 λa b=>.inr (by have b:a=Q.heap.size:=b;omega)).then d3).new d4 λa b=>.inr (by have b:a=j.heap.size:=b;omega);have d5:=d4.get (d3.get i1 id) oM;have d6:=p.get b2 id;have m1:=p.size;have d7:=S.then p;refine⟨_,_,_,ae d5 rfl,λz a2 w'=>∃g:Nat,a2=g/\g<=fn/\z=fn-g/\ak (·=j.heap.size) B w'/\∃C E V W,w'.heap[j.heap.size]? =some (.cells #[.slice C E V] 107 (0,0))/\aO nQ 110 W w' C E V (n.take g)/\∀a,W a->B.heap.size<=a,
   ⟨_,0,rfl,Qj _,rfl,ak.refl _,none,0,0,λ_=>False,i3,aO.nil _,λ_ h=>h.elim⟩,?_⟩
  rintro z _ _ d8 ⟨g,rfl,hk,rfl,q,C,E,V,W,gx,o,F⟩;have zx:=q.size;have b3:ai w d8:=d7.new q λa b=>.inr (by have b:a=j.heap.size:=b;have:=S.size;omega);have b4:=q.get d6 λc=>by have c:w.heap.size=j.heap.size:=c;have:=ay b2;omega
  refine al.dec (λj8=>?_) (λj9=>?_)
  ·have d9:g<n.length:=oM
   have H:n[g]? =some n[g]:=Qq d9;have a3:=OO T d9;rw [H]at a3;obtain⟨fb,fo,e3,-,-,-,-,ya,yn,yc,rfl,-,b5⟩:=(U.ah p).el g n[g] H;generalize n[g]=I at H a3 b5;refine⟨_,_,_,_,_,_,ae b4 rfl,ae b4 rfl,PC.ok (nw (h.ah b3) λa b=>by have:=hD a b;have:=b3.size;omega) ?_⟩;rw [a3];rintro _ e0 ⟨e1,X,Y,cc,Fm,rfl,c3,e2⟩;have e4:=c3.aC;have m2:=e1.size;refine bF (Hz I X Y cc) ⟨_,rfl,PA.mk λm3 i4 m4 i5=>az (eD I X Y cc) i5 rfl λi6 i7 m5 Z=>?_⟩;have a4:ai e0 i6:=i4.new i7 λa b=>.inr (by have b:a=e0.heap.size:=b;omega);have a6:=e1.then a4;have e6:=a6.get gx id;refine⟨_,_,_,ae e6 rfl,_,_,_,_,_,_,ae Z rfl,ae Z rfl,ae Z rfl,ae Z rfl,PA.mk λi8 e5 m6 i9=>?_⟩;have a0:=a6.then e5;have e8:=(c3.ah a4).ah e5;have m7:=c3.len dC;have a8:Row fp 32 i8 Fm X Y I.bh:=e8.row dC (by
    obtain⟨_,_,_,_,_,_,_,_,_,_,hq,a8,_⟩:=(U.ah p).el g I H;have h1:=a8.dt;have h2:=a8.len;rw [<-h2];exact h1)
   refine dQ (c:=nQ) (x:=I) (o.ah a0) NR i9 (D:=Fm) ⟨X,Y,cc,rfl,a8,b5⟩ (λa b=>⟨by have:=e4 a b;have:=a4.size;omega,λc=>by have:=o.aC a (o.self a c);have:=e2 a b;omega⟩) (by rw [Qy];unfold aI at*;omega) (by rw [Qy];unfold aI at c2;unfold maxLen;omega) λa' c' m8 K e9 c5 c6=>⟨_,_,_,rfl,?_⟩
   have j0:¬aF C=some j.heap.size:=λc=>by have:=F _ (o.self _ c);omega
   have m9:=a0.size;have n0:=c5.size;have d:∀a,K a->B.heap.size<=a:=λa b=>by
    rcases c6 a b with l|l|l
    ·exact F a l
    ·have:=e2 a l;omega
    ·omega
   refine PS.mk (c5.get (a0.get gx id) j0) sM λn1 e7 n2 j1=>⟨_,oM,g+1,aq (by unfold aI at c2;omega),oM,rfl,((q.ah a0).new c5 λa b=>.inr (F a (o.self a b))).then e7,a',E+1,c',K,j1,?_,d⟩
   rw [Qw,H];exact e9.af e7 λa b c=>by have c:a=j.heap.size:=c;have:=d a b;omega
  ·rw [Qz oM]at o
   have j2:ak (·=j.heap.size) B d8:=q;have b6:=q.get (p.get R id) λc=>by have c:f.heap.size=j.heap.size:=c;have:=ay R;omega
   refine⟨_,_,_,ae b6 rfl,_,_,_,ae gx rfl,PA.mk λj3 c7 n3 j4=>?_⟩;have a5:ai Q j3:=(p.new q λa b=>.inr (by have b:a=j.heap.size:=b;omega)).then c7;refine dQ (c:=jE) (x:=n) (m.ah a5) Ko j4 (D:=W) ⟨C,E,V,rfl,(o.ah c7).row dC (by rw [<-h7];exact c2)⟩ (λa b=>⟨by have:=o.aC a b;omega,λc=>by have:=m.aC a (m.self a c);have:=F a b;omega⟩) (by rw [Qy];unfold aI at*;omega) (by rw [Qy];unfold aI at b8;unfold maxLen;omega) λa' c' n4 K f0 c8 c6=>⟨_,_,_,rfl,?_⟩
   have j5:¬aF N=some f.heap.size:=λc=>by have:=A _ (m.self _ c);omega
   have n8:=a5.size;have n9:=c8.size;have d:∀a,K a->r.heap.size<=a:=λa b=>by
    rcases c6 a b with l|l|l
    ·exact A a l
    ·have:=F a l;omega
    ·omega
   refine PS.mk (c8.get (c7.get b6 id) j5) sM λo0 b7 o1 j6=>⟨_,oM,i+1,aq (by unfold aI at b8;omega),oM,rfl,((s.ah a5).new c8 λa b=>.inr (A a (m.self a b))).then b7,a',O+1,c',K,j6,?_,d⟩
   rw [Qw,T];exact f0.af b7 λa b c=>by have c:a=f.heap.size:=c;have:=d a b;omega
 ·rw [Qz oM]at m
  have z5:=x.size;have f1:=s.get gr λc=>by have c:M.heap.size=f.heap.size:=c;omega
  have f2:=((a9.ah y).af s λa b c=>by have c:a=f.heap.size:=c;have:=b9 a b;omega)
  refine⟨_,_,_,_,_,_,ae R rfl,ae R rfl,PS.mk f1 sM λo2 c9 o3 j7=>PS.mk j7 sM λo4 d0 o5 g0=>⟨_,_,_,_,_,_,ae g0 rfl,ae g0 rfl,Ok.mk ⟨_,_,_,_,_,_,λa=>P a\/aF e=some a,rfl,⟨?_,?_⟩,?_,?_⟩⟩⟩
  ·exact(((m.row (bytes:=24) dC (by rw [<-g1];exact b8)).af (c9.then d0) λa b c=>by have c:a=M.heap.size:=c;have:=A a b;omega)).mono λa b=>.inl b
  ·exact(((f2.row (bytes:=40) dC (by rw [<-g2];exact g3)).af (c9.then d0) λa b c=>by have c:a=M.heap.size:=c;have:=b9 a b;omega)).mono λa b=>.inr b
  ·rintro a (b|b)
   ·have:=A a b;have:=m.aC a b;have:=v.size;have:=b0.size;omega
   ·have:=b9 a b;have:=v.size;omega
  ·exact S.new (c9.then d0) λa b=>.inr (by have b:a=M.heap.size:=b;have:=k4.size;omega)
end
variable{a:Nat}{j:Type}
section
variable {w w':World} {D D' S:Nat->Prop} {d:aM} {ta pa:Option Addr} {tn tc pn pc:Nat}
def rN (a:a_):Bool:=if a.kind==4 then !within a.bh.length 1 16 else decide (0<a.bh.length)
def Bb (a:List a_):Bool:=!within a.length 1 8||a.any rN
theorem HQ {b:j->Bool} {c:List j} {d:j} (e:c[a]? =some d) (f:(c.take a).any b=false) (g:b d=false):(c.take (a+1)).any b=false:=by
 rw [Qw,e,List.any_append,f];simp [g]
theorem J_ {c:j->Bool} {d:List j} {b:j} (e:d[a]? =some b) (f:c b=true):d.any c=true:=List.any_eq_true.2 ⟨b,QZ e,f⟩
theorem eY {g:Type} {h:g->Int}:∀{b:List g} {c:Nat} {d:g},b[c]? =some d->ck h (b.take c)=0->ck h (b.take (c+1))=h d
 |[],c,d,a,_=>by simp at a
 |y::b,0,d,a,_=>by simp at a;subst a;simp [ck];intro a;exact a.symm
 |y::b,c+1,d,a,e=>by
  simp only [List.take_succ_cons,ck]at e⊢;split at e
  ·rename_i f;simp at f;exact absurd e f
  ·rename_i f;rw [if_neg f];exact eY (by simpa using a) e
theorem ny {c:Type} {b:c->Int}:∀{l:List c} {j:Nat},ck b (l.take j)≠0->ck b l=ck b (l.take j)
 |[],j,a=>by simp at a⊢
 |y::l,0,a=>by simp [ck]at a
 |y::l,j+1,a=>by
  simp only [List.take_succ_cons,ck]at a⊢;split
  ·rfl
  ·rename_i d;rw [if_neg d]at a;exact ny a
theorem HR (e:aW w D d ta tn pa pn):Calls Tryz.prog 49 #[.agg #[.slice ta tn tc,.slice pa pn pc]] w (Ok λf w'=>f= .bool (pX d)/\ai w w'):=by
 have s:=e.aT.len;have t:=e.aT.dt;have hp:=e.yF.len;unfold aI at t;refine BH (PA.mk λY u s1 v=>⟨_,_,_,ae v rfl,PC.ok bU ?_⟩);rintro _ _ ⟨rfl,rfl⟩;refine⟨_,rfl,al.not (al.mk (λj=>⟨_,_,_,ae v rfl,al.dec (λZ=>Ok.mk ⟨?_,u⟩) (λZ=>⟨_,_,_,ae v rfl,λk l w'=>∃b:Nat,l=b/\b<=tn/\k=tn-b/\(d.types.take b).any Bb=false/\ai Y w',⟨_,0,rfl,Qj _,rfl,sM,ak.refl _⟩,?_⟩)⟩) (λj=>Ok.mk ⟨?_,u⟩))⟩
 ·unfold pX;rw [<-s,j,if_pos (by simp;omega)]
 rotate_left
 ·unfold pX;rw [<-s,j];rfl
 have x:pX d=d.types.any Bb:=by unfold pX Bb rN;rw [<-s,j,if_neg (by simp;omega)]
 rintro k l _ w2 ⟨b,rfl,hj,rfl,y,L⟩;have m:=u.then L;refine al.dec (λa8=>?_) (λa9=>?_)
 rotate_left
 ·rw [Qz oM]at y
  exact Ok.mk ⟨by rw [x,y],m⟩
 obtain⟨z,A,B,es,rfl,_,_,C,g,a2,h,c1,rfl,E⟩:=((e.ah m).aT).vO (i:=b) oM;have M:=E.len;have a0:=E.dt;unfold aI at a0;have N:=g 0 dC;simp only [jE,Nat.mul_one,Nat.add_zero]at N;refine⟨z,A,rfl,oM,oM,_,_,_,N,PA.mk λw3 k3 s3 g3=>PS.mk g3 sM λn k4 s4 O=>⟨_,_,_,ae O rfl,PC.ok bU ?_⟩⟩;rintro _ _ ⟨rfl,rfl⟩;have o:ai w2 n:=k3.new k4 λz t=>.inr oM;have F:Bb B=true->Ok (λf w'=>f= .bool (pX d)/\ai w w') (.returned (.bool true)) n:=λa=>Ok.mk ⟨by rw [x,J_ C a],m.then o⟩;refine⟨_,rfl,al.not (al.mk (λH=>⟨_,_,_,ae O rfl,λk l w'=>∃i:Nat,l=i/\i<=h/\k=h-i/\(B.take i).any rN=false/\ai n w',⟨_,0,rfl,Qj _,rfl,sM,ak.refl _⟩,?_⟩) (λH=>F (by unfold Bb;rw [<-M,H];rfl)))⟩;rintro m' t' _ w5 ⟨i,rfl,hi,rfl,I,p⟩;have a3:=(m.then o).then p;refine al.dec (λa6=>?_) (λa7=>?_)
 rotate_left
 ·rw [Qz oM]at I
  exact⟨_,oM,b+1,aq oM,oM,rfl,HQ C y (by unfold Bb;rw [<-M,H,I];rfl),(L.then o).then p⟩
 obtain⟨b2,a1,q,b0,rfl,_,_,P,a4,Q,R,S,rfl,T,b1,b3⟩:=((E.ah o).ah p).vO (i:=i) oM;have U:=T.len;have a5:=T.dt;unfold aI at a5;refine⟨b2,a1,rfl,oM,oM,bq (eD q Q R S) rfl a4 (PA.mk λw6 k6 s6 g6=>az (eD q Q R S) g6 rfl λJ k7 s7 K=>⟨_,ae K rfl,?_⟩)⟩;have V:ai w5 J:=k6.new k7 λz t=>.inr oM;have W:rN q=true->Ok (λf w'=>f= .bool (pX d)/\ai w w') (.returned (.bool true)) J:=λa=>Ok.mk ⟨by rw [x,J_ C (by unfold Bb;rw [J_ P a];simp)],a3.then V⟩;have next:rN q=false->∃X,X<h-i/\∃r:Nat,IntKind.wrap .i64 ((i:Int)+1)=r/\r<=h/\X=h-r/\(B.take r).any rN=false/\ai n J:=λa=>
  ⟨_,oM,i+1,aq oM,oM,rfl,HQ P I a,p.then V⟩
 refine al.dJ (λc=>⟨_,_,_,ae K rfl,PC.ok bU ?_⟩) (λc=>al.not (al.dJ (λg=>absurd g c) (λ_=>⟨_,_,_,ae K rfl,al.dec (λe=>W ?_) (λe=>next ?_)⟩)))
 ·rintro _ _ ⟨rfl,rfl⟩
  refine⟨_,rfl,al.not (al.mk (λa=>al.not (al.dJ (λ_=>next ?_) (λg=>absurd c g))) (λa=>W ?_))⟩
  ·unfold rN;rw [c,<-U,a];rfl
  ·unfold rN;rw [c,<-U,a];rfl
 ·unfold rN;rw [if_neg (by simpa using c)];simp only [decide_eq_true_eq];omega
 ·unfold rN;rw [if_neg (by simpa using c)];simp only [decide_eq_false_iff_not];omega
theorem Ff (hT:eu w) (h:aW w D d ta tn pa pn) (hD:∀b,D b->b<w.heap.size):
  Calls Tryz.prog 21 #[.agg #[.slice ta tn tc,.slice pa pn pc]] w (Ok λC w'=>C= .int .i64 (cO d)/\ai w w'):=by
 have hl:=h.aT.len;have g:=h.aT.dt;have b1:=h.yF.len;have a6:=h.yF.dt;unfold aI at g a6;refine zh (PA.mk λw1 U s1 E=>⟨_,_,_,_,_,_,ae E rfl,ae E rfl,PC.ok (HR (h.ah U)) ?_⟩);rintro _ w2 ⟨rfl,V⟩;have W:=U.then V;have X:=V.get E id;refine⟨_,rfl,al.mk (λu=>Ok.mk ⟨by unfold cO;rw [u];rfl,W⟩) (λu=>⟨_,_,_,ae X rfl,λl c w'=>∃a:Nat,c=a/\a<=tn/\l=tn-a/\ck (λc=>ck (eO c) c) (d.types.take a)=0/\ai w2 w',⟨_,0,rfl,Qj _,rfl,rfl,ak.refl _⟩,?_⟩)⟩;rintro l c _ Y ⟨a,rfl,hj,rfl,v,F⟩;have x:=W.then F;have Z:=F.get X id;have H:∀{w':World},ai w w'->∀a e,d.types[a]? =some e->ck (λc=>ck (eO c) c) (d.types.take a)=0->∀y:Int,ck (eO e) e=y->y≠0->Ok (λC w'=>C= .int .i64 (cO d)/\ai w w') (.returned (.int .i64 y)) w':=by
  intro w' a2 a e z h0 y hr k;have m:=eY z h0;rw [hr]at m;have h2:=ny (l:=d.types) (j:=a+1) (by rw [m];exact k);refine Ok.mk ⟨?_,a2⟩;unfold cO;rw [u,h2,m];simp [k]
 refine al.dec (λb2=>?_) (λb3=>⟨_,_,_,ae Z rfl,λl c w'=>∃i:Nat,c=i/\i<=pn/\l=pn-i/\ck (kU d) (d.projs.take i)=0/\ai Y w',⟨_,0,rfl,Qj _,rfl,rfl,ak.refl _⟩,?_⟩)
 ·obtain⟨b,I,J,es,rfl,_,_,z,hc,b4,n1,c1,rfl,A⟩:=((h.ah x).aT).vO (i:=a) oM
  have b5:=A.len;have a7:=A.dt;unfold aI at a7;have a0:=hc 0 dC;simp only [jE,Nat.mul_one,Nat.add_zero]at a0;refine⟨b,I,rfl,oM,oM,_,_,_,a0,PA.mk λw4 p s4 g4=>PS.mk g4 sM λK L s5 B=>⟨_,_,_,ae B rfl,λl c w'=>∃i:Nat,c=i/\i<=n1/\l=n1-i/\ck (eO J) (J.take i)=0/\ai K w',⟨_,0,rfl,Qj _,rfl,rfl,ak.refl _⟩,?_⟩⟩;have a8:ai Y K:=p.new L λb g=>.inr oM;rintro m' t' _ M ⟨i,rfl,hi,rfl,f,n⟩;have q:=a8.then n;refine al.dec (λa3=>?_) (λa9=>?_)
  ·obtain⟨N,O,e,b0,rfl,_,_,o,P,Q,R,S,rfl,hM,b6,b7⟩:=(A.ah q).vO (i:=i) oM
   refine⟨N,O,rfl,oM,oM,bq (eD e Q R S) rfl P (PA.mk λw7 j s7 g7=>az (eD e Q R S) g7 rfl λw8 r s8 g8=>⟨_,_,_,ae (r.get (j.get (n.get B id) id) (by have:=n.size;omega)) rfl,ar (eD e Q R S) g8 (PC.ok (Fu (hT.ah ?_) (A.ah ?_) (hM.ah ?_)) ?_)⟩)⟩
   ·exact(x.then q).then (j.new r λb g=>.inr oM)
   ·exact q.then (j.new r λb g=>.inr oM)
   ·exact j.new r λb g=>.inr oM
   ·rintro _ w9 ⟨rfl,k9⟩
    have a4:ai M w9:=ak.then (j.new r λb g=>.inr oM) k9;refine⟨_,rfl,al.df (λk=>?_) (λT=>⟨_,oM,i+1,aq oM,oM,rfl,by rw [eY o f];exact T,n.then a4⟩)⟩;have m:=eY o f;exact H ((x.then q).then a4) a J z v _ (by rw [ny (j:=i+1) (by rw [m];exact k),m]) k
  ·rw [Qz oM]at f
   refine⟨_,oM,a+1,aq oM,oM,rfl,by rw [eY z v];exact f,F.then q⟩
 ·rw [Qz oM]at v
  rintro m' t' _ w4 ⟨i,rfl,hi,rfl,f,p⟩;have s:=x.then p;have a1:cO d=ck (kU d) d.projs:=by unfold cO;rw [u,v];simp
  refine al.dec (λa3=>?_) (λa9=>?_)
  ·obtain⟨N,O,e,b0,rfl,_,_,o,P,rfl,_⟩:=((h.ah s).yF).vO (i:=i) oM
   refine⟨N,O,rfl,oM,oM,bq (oC e) rfl P (PA.mk λK L s5 B=>az (oC e) B rfl λM n s6 g6=>?_)⟩;have t:ai w4 M:=L.new n λb g=>.inr oM;have a5:=t.get (p.get Z id) id;refine⟨_,_,_,_,_,_,ae a5 rfl,ae a5 rfl,ar (oC e) g6 (PC.ok (Fw (h.ah (s.then t)) λb g=>by have:=hD b g;have:=(s.then t).size;omega) ?_)⟩;rintro _ w7 ⟨rfl,j⟩;refine⟨_,rfl,al.df (λk=>Ok.mk ⟨?_,(s.then t).then j⟩) (λT=>⟨_,oM,i+1,aq oM,oM,rfl,by rw [eY o f];exact T,(p.then t).then j⟩)⟩;rw [a1,ny (j:=i+1) (by rw [eY o f];exact k),eY o f]
  ·rw [Qz oM]at f
   exact Ok.mk ⟨by rw [a1,f],s⟩
end
def dd (a:cy) (b:Int):Int×bE:=
 if cO a.decl≠0 then(cO a.decl,(Fe a).2)else if jh a b=false then(1,(Fe a).2)else Fe a
def AV (c:World) (b:cy) (a:Int) (d:Value) (e:World):Prop:=ai c e/\
 (((dd b a).1≠0/\d= .tuple #[.pointer none,.int .i64 (dd b a).1])\/
  ((dd b a).1=0/\∃f g,d= .tuple #[.pointer (some ⟨f,0,none⟩),.int .i64 0]/\bz e f g b a (dd b a).2/\(∀h,g h->c.heap.size<=h)/\(dd b a).2.S.l.length<=16777216))
section
variable {w w' w0 w1 w2:World} {p:Nat} {F E D:Nat->Prop} {c:cy} {self:Int}
theorem yz (hT:eu w0) (hL:Laid w0) (z:ai w0 w) {A B:Option Addr} {tn Q C R:Nat} (hd:aW w D c.decl A tn B C) (hD:∀a,D a->a<w.heap.size) (hs:aK c.bN) (d3:aK c.every) (d4:aK c.start):
  Calls Tryz.prog 6 #[pI c A tn Q B C R,.int .i64 self] w (Ok (AV w c self)):=by
 refine BD (PA.mk λg1 E g2 F=>⟨_,_,_,_,_,_,ae F rfl,ae F rfl,PC.ok (Ff (hT.ah (z.then E)) (hd.ah E) λa b=>by have:=hD a b;omega) ?_⟩);rintro _ d5 ⟨rfl,b8⟩;have a3:=E.then b8;have b9:d5.heap[w.heap.size]? =some (.cells (gw c A tn Q B C R).toArray 27 (0,0)):=b8.get F id;refine⟨_,rfl,al.df (λl=>Ok.mk ⟨a3,.inl ?_⟩) (λS=>ar (uj c A tn Q B C R) b9 (PC.ok MF ?_))⟩
 ·have:dd c self=(cO c.decl,(Fe c).2):=by unfold dd;rw [if_pos l]
  rw [this];exact⟨l,rfl⟩
 rintro _ T ⟨rfl,c0⟩;have H:=a3.then c0;have U:=c0.get b9 id;refine⟨_,rfl,al.not (al.mk (λm=>?_) (λm=>Ok.mk ⟨H,.inl ?_⟩))⟩
 rotate_left
 ·have:dd c self=(1,(Fe c).2):=by unfold dd;rw [if_neg (by simpa using S),if_pos m]
  rw [this];exact⟨show(1:Int)≠0 by decide,rfl⟩
 have a4:dd c self=Fe c:=by unfold dd;rw [if_neg (by simpa using S),if_neg (by rw [m];simp)]
 have c1:kH c self:=⟨m,S,hs,d3,d4⟩
 have c2:=m;unfold jh within at c2;simp only [QK,decide_eq_true_eq]at c2;refine⟨_,ae U rfl,PC.ok (rV (z.then H) oM oM) ?_⟩;rintro _ c3 ⟨dp,rfl,d6,V⟩;obtain⟨Fd,c4,-,d7,-⟩:=d6;have I:∀a,Fd a->T.heap.size<=a/\a<c3.heap.size:=λa b=>⟨Nat.le_of_not_lt (d7 a b).2,c4.aC a b⟩
 have W:=H.then V;have X:=V.get U id;refine⟨_,_,rfl,al.df (λl=>absurd rfl l) (λ_=>⟨_,_,_,_,_,_,ae X rfl,ae X rfl,PC.ok (JQ (hd.ah W) λa b=>by have:=hD a b;have:=W.size;omega) ?_⟩)⟩;rintro _ c5 ⟨n,BX,o,p,q,r,J,rfl,d8,K,L⟩;have c6:=W.then L;have d9:=L.get X id;have g3:=E.size;have g4:=H.size;have g5:=V.size;have g6:=L.size;have g7:=ay F;have e8:w.heap.size<T.heap.size:=ay U;refine⟨_,_,_,_,_,_,rfl,PS.mk d9 (by simp [gw]) λg8 e0 g9 e1=>PS.mk e1 (by simp [gw]) λY e2 h2 e3=>λs c7=>?_⟩;have Z:ak (λa=>a=w.heap.size) c5 Y:=e0.then e2;have M:ai Y s:=c7.af;have h3:s.heap.size=Y.heap.size:=by rw [c7.heap]
 have e:s.heap[w.heap.size]? =some (.cells (gw c n BX o p q r).toArray 27 (0,0)):=M.get e3 id;have c8:ai w s:=(c6.new Z λa b=>.inr (by have b:a=w.heap.size:=b;omega)).then M;have h:∀{a:Nat},T.heap.size<=a->a≠w.heap.size:=λ{a} b=>by omega
 refine⟨λ_=>False,id,_,_,_,_,_,_,_,_,_,_,_,_,_,_,ae e rfl,ae e rfl,ae e rfl,ae e rfl,ae e rfl,ae e rfl,ae e rfl,ae e rfl,ae e rfl,ae e rfl,_,ae e rfl,id,_,ae e rfl,PC.ok (Iq oM) ?_⟩;rintro _ e4 ⟨i,rfl,c9,e9,f2,b4⟩;refine⟨_,rfl,b4,PC.ok HA ?_⟩;rintro _ g ⟨tp,N,rfl,a5,O,d0⟩;have h4:=b4.size;have h7:=O.size;have d1:=a5.aC;refine⟨_,rfl,O,PA.mk λb5 P h8 e5=>⟨P,?_⟩⟩
 let f:iP:=⟨n,BX,o,p,q,r,dp,none,0,0,i,tp⟩
 let a2:bE:=⟨⟨c.bR.toNat,[]⟩,Sw c.ug.toNat,none,[],⟨c.cQ,[],[]⟩⟩
 have d2:b5.heap[g.heap.size]? =some (.cells (wq f c self none none none) 85 (0,0)):=e5;have a0:ai s b5:=(b4.then O).then P;have a1:=c8.then a0;have b6:∃t,bt b5 (λa=>∃k,(match k with|0=>a=g.heap.size|1=>J a|2=>Fd a|5=>a=i|6=>N a|_=>False:Prop)) t (recC g.heap.size (wq f c self none none none) f c a2 false):=by
  refine bt.join (G:=λk a=>match k with|0=>a=g.heap.size|1=>J a|2=>Fd a|5=>a=i|6=>N a|_=>False) (λk=>?_) (λj a9 a d hj=>?_) λk a b=>?_
  ·match k with
   |0=>exact⟨rfl,d2⟩
   |1=>exact(((d8.af Z λa b u=>h (by have:=K a b;omega) u).ah M).ah a0)
   |2=>exact⟨Fd,((((c4.af L λ_ _ f=>f).af Z λa b u=>h (I a b).1 u).af M λ_ _ f=>f).af a0 λ_ _ f=>f),λa b=>b,rfl⟩
   |3=>intro u;cases u
   |4=>trivial
   |5=>exact⟨_,_,c9.ah (O.then P),λ_ f=>f,λa b=>b.elim⟩
   |6=>exact a5.ah P
   |k+7=>trivial
  ·have v:∀j:Nat,(match j with|0=>a=g.heap.size|1=>J a|2=>Fd a|5=>a=i|6=>N a|_=>False:Prop)->j=(if a<c3.heap.size then 2 else if a<c5.heap.size then 1 else if a<e4.heap.size then 5 else if a<g.heap.size then 6 else 0):=λj d=>by
    rcases j with _|_|_|_|_|_|_|j
    ·have d:a=g.heap.size:=d
     rw [if_neg oM,if_neg oM,if_neg oM,if_neg oM]
    ·have:=K a d;rw [if_neg oM,if_pos oM]
    ·have:=I a d;rw [if_pos oM]
    ·exact d.elim
    ·exact d.elim
    ·have d:a=i:=d
     rw [if_neg oM,if_neg oM,if_pos oM]
    ·have h5:=d0 a d;have h6:=d1 a d;rw [if_neg oM,if_neg oM,if_neg oM,if_pos oM]
    ·exact d.elim
   rw [v j d,<-v a9 hj]
  ·rcases k with _|_|_|_|_|_|_|k
   ·have b:a=g.heap.size:=b
    omega
   ·have:=K a b;omega
   ·have:=I a b;omega
   ·exact b.elim
   ·exact b.elim
   ·have b:a=i:=b
    omega
   ·have:=d1 a b;omega
   ·exact b.elim
 obtain⟨t,hp⟩:=b6;have b7:∀a,(∃k,(match k with|0=>a=g.heap.size|1=>J a|2=>Fd a|5=>a=i|6=>N a|_=>False:Prop))->w.heap.size<=a:=λa ⟨k,b⟩=>by
  rcases k with _|_|_|_|_|_|_|k
  ·have b:a=g.heap.size:=b
   omega
  ·have:=K a b;omega
  ·have:=I a b;omega
  ·exact b.elim
  ·exact b.elim
  ·have b:a=i:=b
   omega
  ·have:=d0 a b;omega
  ·exact b.elim
 refine PC.ok (xh (h:=f) (z1:=none) (z2:=none) (z3:=none) hp c1 ⟨hT,hL,z.then a1,λa b=>by have:=b7 a b;have:=z.size;omega⟩) ?_;rintro _ e6 ⟨rfl,a6,h',F',x,y,a7⟩;have e7:gK c a2=Fe c:=rfl;rw [e7]at y a6⊢;have a8:ai w e6:=a1.new a7.af λa b=>.inr (b7 a b);refine⟨_,rfl,al.df (λl=>Ok.mk ⟨a8,.inl ?_⟩) (λhz=>Ok.mk ⟨a8,.inr ?_⟩)⟩
 ·rw [a4];exact⟨l,rfl⟩
 ·rw [a4]
  exact⟨hz,_,F',rfl,⟨c1,h',x,y⟩,λa b=>(a7.new a b).elim (b7 a) λh5=>by have:=a1.size;omega,a6⟩
end
variable{n:Int}{F h1:Nat×Nat}{g q:TypeId}
theorem JR (b:World):(callMethod (.iface 83 (.pointer (some ⟨a,0,none⟩))) "State" #[.int .i64 e,.int .i64 n]).run Tryz.prog b= .ok (.enter 386 #[.pointer (some ⟨a,0,none⟩),.int .i64 e,.int .i64 n]) b:=kR
theorem Fg (b:World):(callMethod (.iface 83 (.pointer (some ⟨a,0,none⟩))) "Entries" #[]).run Tryz.prog b= .ok (.enter 384 #[.pointer (some ⟨a,0,none⟩)]) b:=kR
theorem MG (b:World):(callMethod (.iface 83 (.pointer (some ⟨a,0,none⟩))) "Rows" #[.int .i64 e]).run Tryz.prog b= .ok (.enter 385 #[.pointer (some ⟨a,0,none⟩),.int .i64 e]) b:=kR
def Cf (a:aM) (b:List aj) (c d:Int):pH:=match(cg a b).state c d with
 |none=>kQ 14
 |some e=>⟨0,(0,0),e,[],[],false⟩
def vX (c:aM) (d:List aj) (b a:Int):pH:=if b<0\/b>=(c.projs.length:Int)then kQ 1 else⟨0,(0,0),⟨0,[]⟩,[],(mz (gV c d b) a 32).1,(mz (gV c d b) a 32).2⟩
section
variable {w w' w0 w1 w2:World} {p:Nat} {F E D:Nat->Prop} {cls:Nat->Nat} {h:iP} {c:cy} {self:Int} {X:bE}
theorem AW (a:cu w F cls p h c self X):Calls Tryz.prog 48 #[.pointer (some ⟨p,0,none⟩)] w (Ok λb w'=>b= .iface 83 (.pointer (some ⟨h.bp,0,none⟩))/\w=w'):=
 mR ⟨p,0,rfl,_,ae a.bg rfl,Ok.mk ⟨rfl,rfl⟩⟩
theorem yu (y:bz w p F c self X) :Calls Tryz.prog 18 #[.pointer (some ⟨p,0,none⟩),.int .i64 e,.int .i64 n] w (Ok λz w'=>g_ w (Cf c.decl X.S.l e n) z w'/\ai w w'):=by
 obtain⟨A,h,cls,q⟩:=y;refine nW (PA.mk λB f S C=>PC.ok (AW (cu.ah q f)) ?_);rintro _ _ ⟨rfl,rfl⟩;have E:=cu.ah q f;have a:cJ B h.bp (λb=>F b/\cls b=4) c.decl c.every.toNat X.S.l:=E.at' 4;refine⟨_,rfl,_,_,JR,PC.ok (Ip a) ?_⟩;rintro _ r ⟨j,k,l,G,rfl,m,s,g⟩;have H:=m.aC;have T:=g.size;refine⟨_,_,_,_,_,rfl,PA.mk λU I V J=>PS.mk J sM λW K Y L=>PS.mk L sM λM N Z o=>?_⟩;have d:ai r M:=I.new (K.then N) λb a=>.inr (by have a:b=r.heap.size:=a;omega);have t:=d.get (g.get C id) id;have b0:=d.size;have u:(((cg c.decl X.S.l).state e n).getD FH).cells.length<=8:=Cv (FX A.decl X.S.l).1 ⟨0,0,0,[],e,n,0,0,0,0⟩;unfold Cf
 cases O:(cg c.decl X.S.l).state e n with
 |none=>
  refine al.tt rfl (az (iQ (kQ 14) none 0 0 none 0 0 none 0 0) t rfl λb1 P b2 Q=>ar (iQ (kQ 14) none 0 0 none 0 0 none 0 0) Q (Ok.mk ⟨g_.plain rfl rfl rfl,?_⟩));exact((f.then g).then d).new P λb a=>.inr (by have a:b=w.heap.size:=a;omega)
 |some i=>
  rw [O]at m u o;refine al.ff rfl ⟨_,_,_,_,ae o rfl,ae o rfl,az (iQ ⟨0,(0,0),i,[],[],false⟩ j k l none 0 0 none 0 0) t rfl λb3 v b4 R=>ar (iQ ⟨0,(0,0),i,[],[],false⟩ j k l none 0 0 none 0 0) R (Ok.mk ⟨?_,?_⟩)⟩
  ·refine⟨j,k,l,none,0,0,none,0,0,G,rfl,((m.ah d).af v λb a x=>by have x:b=w.heap.size:=x;have:=s b a;omega).row dC (by have:i.cells.length<=8:=u;show i.cells.length*32<=aI;unfold aI;omega),dy _ _,dy _ _,λb a=>⟨by have:=s b a;omega,by have:=H b a;omega⟩⟩
  ·exact((f.then g).then d).new v λb a=>.inr (by have a:b=w.heap.size:=a;omega)
theorem MH (c:aM) (a:List aj) (d:Int):(gV c a d).length<=a.length:=by
 unfold gV;split
 ·simp
 split
 ·simp
 ·rename_i b e
  have g:=Kp c a b (QZ e);have f:=(wo (b.rows.map (·.2))).length_eq;rw [Q8]at f;show(b.rows.map (·.2)|>.foldr lC []).length<=_;omega
theorem qo (B:bz w p F c self X) :Calls Tryz.prog 45 #[.pointer (some ⟨p,0,none⟩),.int .i64 e,.int .i64 n] w (Ok λg w'=>g_ w (vX c.decl X.S.l e n) g w'/\ai w w'):=by
 obtain⟨R,h,cls,C⟩:=B;refine lR (PA.mk λi j S s=>?_);have d:=cu.ah C j;have no:(e<0\/e>=(c.decl.projs.length:Int))->xu Tryz.prog 55 (.pointer (some ⟨w.heap.size,0,none⟩)) (.agg (mj (kQ 1) none 0 0 none 0 0 none 0 0).toArray) i λt=>nR Tryz.prog 55 (.pointer (some ⟨w.heap.size,0,none⟩)) t λE=>Ok (λg w'=>g_ w (vX c.decl X.S.l e n) g w'/\ai w w') (.returned E) t:=λH=>by
  refine az (iQ (kQ 1) none 0 0 none 0 0 none 0 0) s rfl λT I U J=>ar (iQ (kQ 1) none 0 0 none 0 0 none 0 0) J (Ok.mk ⟨?_,j.new I λa b=>.inr (by have b:a=w.heap.size:=b;omega)⟩);unfold vX;rw [if_pos H];exact g_.plain rfl rfl rfl
 have V:=(show aW i (λa=>F a/\cls a=1) c.decl h.ta h.tn h.pa h.pn from d.at' 1).yF.len;refine al.dec (λk=>no (.inl k)) (λk=>⟨p,0,rfl,_,_,_,ae d.bg rfl,al.dec (λu=>no (.inr oM)) (λu=>PC.ok (AW d) ?_)⟩);rintro _ _ ⟨rfl,rfl⟩;have b:cJ i h.bp (λa=>F a/\cls a=4) c.decl c.every.toNat X.S.l:=d.at' 4;have W:X.S.l.length<=20000000:=b.1.2.2.2;have Y:=MH c.decl X.S.l e;refine⟨_,rfl,_,_,MG,PC.ok (Lr b) ?_⟩;rintro _ Z ⟨⟨a0,a1,cc,G,rfl,f,l,hG⟩,K⟩;have hn:=f.len dC;have L:=f.jD;refine⟨_,_,_,rfl,PC.ok (JK (f.row dC (by unfold aI;omega)) f.aC L K oM) ?_⟩;rintro _ M ⟨a2,rfl,m,o,q,N,rfl,v,r,x⟩;have O:=v.aC;have a9:=l.size;have b0:=r.size;have b1:(mz (gV c.decl X.S.l e) n 32).1.length<=32:=by unfold mz;rw [Qy];omega
 have P:ai w M:=(j.then l).then r;refine⟨_,_,_,_,rfl,az (iQ ⟨0,(0,0),⟨0,[]⟩,[],(mz (gV c.decl X.S.l e) n 32).1,(mz (gV c.decl X.S.l e) n 32).2⟩ none 0 0 none 0 0 m o q) (r.get (l.get s id) id) rfl λb2 y b3 Q=>ar (iQ ⟨0,(0,0),⟨0,[]⟩,[],(mz (gV c.decl X.S.l e) n 32).1,(mz (gV c.decl X.S.l e) n 32).2⟩ none 0 0 none 0 0 m o q) Q (Ok.mk ⟨?_,P.new y λa b=>.inr (by have b:a=w.heap.size:=b;omega)⟩)⟩;unfold vX;rw [if_neg (by rintro(z|z);exact k z;exact u oM)];refine⟨none,0,0,none,0,0,m,o,q,N,rfl,dy _ _,dy _ _,(v.af y λa b A=>by have A:a=w.heap.size:=A;have:=x a b;omega).row dC (by show(mz (gV c.decl X.S.l e) n 32).1.length*24<=aI;unfold aI;omega),λa b=>⟨by have:=x a b;omega,by have:=O a b;omega⟩⟩
end
theorem Bo {c:Type} {d:c->Bool}:∀{L:List c} {j:Nat} {a:c},L[j]? =some a->d a=true->(L.filter d)[((L.take j).filter d).length]? =some a
 |[],j,a,b,_=>by simp at b
 |x::L,0,a,b,e=>by simp at b;subst b;simp [e]
 |x::L,j+1,a,b,e=>by
  have f:=Bo (L:=L) (j:=j) (by simpa using b) e;rw [List.take_succ_cons,List.filter_cons,List.filter_cons];split
  ·simpa using f
  ·exact f
section
variable {w w' wz A B w1:World} {D:Nat->Prop} {a:Option Addr} {n c:Nat} {l:List cC} {O R1 R2 f most:Nat} {own L:List (Bx cC)} {pre:List (List Value)}
def RQ (c a:Int) (b:cC):Bool:=b.ev.aT==c&&b.ev.agg==a
theorem Cs {f:cC} {a:Option Addr} {n c:Nat} (j:Row aG 8 w D a n f.ev.aN) (u:∀b,D b->b<w.heap.size):
  Calls Tryz.prog 158 #[DH f a n c] w (Ok λv w'=>∃a n c G,v=DH f a n c/\Row aG 8 w' G a n f.ev.aN/\(∀b,G b->w.heap.size<=b/\b<w'.heap.size)/\ai w w'):=by
 have x:=j.dt;have y:=j.len;refine xQ (PA.mk λw1 o B g=>PA.mk λC h E k=>⟨_,_,_,ae (h.get g id) rfl,PC.ok (bP (j.ah (o.then h)) λb d=>by have:=u b d;omega) ?_⟩);rintro _ F ⟨p,q,r,G,rfl,s,i,l⟩;have g:=i.get (h.get g id) id;have k:=i.get k id;have H:=i.size;refine⟨_,_,_,rfl,PS.mk g sM λI m J z=>?_⟩;refine ar (cs:=gg f p q r) (ko _ _ _ _) z (az (ko _ _ _ _) (m.get k (λe=>by have e:w1.heap.size=w.heap.size:=e;omega)) rfl λK t L A=>ar (ko _ _ _ _) A (Ok.mk ⟨p,q,r,G,rfl,?_,?_,?_⟩))
 ·refine(((s.af m λb d e=>?_).af t λb d e=>?_).row (bytes:=8) dC (by rw [<-y];exact x))
  ·have e:b=w.heap.size:=e;have:=l b d;omega
  ·have e:b=w1.heap.size:=e;have:=l b d;omega
 ·intro b d
  have:=l b d;have:=s.aC b d;omega
 ·exact((((o.then h).then i).new m λb d=>.inr (by have d:b=w.heap.size:=d;omega)).new t λb d=>.inr (by have d:b=w1.heap.size:=d;omega))
theorem MV {f:cC} {h b:Int} {i j:Nat} (l:w.heap[i]? =some (.cells #[.int .i64 h] g F)) (m:w.heap[j]? =some (.cells #[.int .i64 b] q h1)):
  Calls Tryz.prog 157 #[DH f a n c,.pointer (some ⟨i,0,none⟩),.pointer (some ⟨j,0,none⟩)] w (Ok λo w'=>o= .bool (RQ h b f)/\ai w w'):=by
 refine xP (PA.mk λw1 d p k=>⟨_,ae k rfl,_,ae (d.get l id) rfl,al.mk (λe=>⟨_,ae k rfl,_,ae (d.get m id) rfl,Ok.mk ⟨?_,d⟩⟩) (λe=>Ok.mk ⟨?_,d⟩)⟩)
 ·unfold RQ;rw [e];rfl
 ·unfold RQ;rw [e];rfl
structure Nd (wz:World) (O:Nat) (own:List (Bx cC)) (f most:Nat) (pre:List (List Value)) (A:World):Prop where
 af:ak (·=O) wz A
 dt:wz.heap.size+2<=A.heap.size
 nC:∃a n c G,A.heap[O]? =some (.cells #[.slice a n c] 52 (0,0))/\aO xt 160 G A a n c (((own.take pre.length).drop f).map (·.x))/\(∀b,G b->wz.heap.size+2<=b)/\n<=most
structure Tg (wz:World) (O R1 R2:Nat) (own:List (Bx cC)) (f most:Nat) (A:World):Prop where
 af:ak (λb=>b=O\/b=R1\/b=R2) wz A
 r2:A.heap[R2]? =some (.cells #[.bool true] 4 (0,0))
 more:most<(own.drop f).length
 nC:∃a n c G,A.heap[R1]? =some (.cells #[.slice a n c] 52 (0,0))/\aO xt 160 G A a n c (((own.drop f).take most).map (·.x))/\(∀b,G b->wz.heap.size+2<=b)
theorem Nd.ah (d:Nd wz O own f most pre A) (b:ai A B):Nd wz O own f most pre B:=by
 obtain⟨e,g,a,n,c,G,h,i,j⟩:=d;exact⟨e.ah b,Xx g b.size,a,n,c,G,b.get h id,i.ah b,j⟩
theorem Nd.dZ (p:O<wz.heap.size) (i:Nd wz O own f most pre A) (j:oS (wz.heap.size+1) A B):Nd wz O own f most pre B:=by
 obtain⟨k,q,a,n,c,G,l,m,h,o⟩:=i;obtain⟨g,r⟩:=j;exact⟨k.new g λd e=>.inr (by have e:d=wz.heap.size+1:=e;omega),oM,a,n,c,G,g.get l (λb=>by have b:O=wz.heap.size+1:=b;omega),m.af g λd e b=>by have b:d=wz.heap.size+1:=b;have:=h d e;omega,h,o⟩
theorem Tg.dZ (r:O<wz.heap.size/\R1<wz.heap.size/\R2<wz.heap.size) (i:Tg wz O R1 R2 own f most A) {k:Nat} (s:wz.heap.size<=k/\k<=wz.heap.size+1) (j:oS k A B):Tg wz O R1 R2 own f most B:=by
 obtain⟨l,m,o,a,n,c,G,p,q,h⟩:=i;obtain⟨d,t⟩:=j;exact⟨l.new d λe g=>.inr (by have g:e=k:=g;omega),d.get m (λb=>by have b:R2=k:=b;omega),o,a,n,c,G,d.get p (λb=>by have b:R1=k:=b;omega),q.af d λe g b=>by have b:e=k:=b;have:=h e g;omega,h⟩
theorem Ri {m h:Int} {s t u v:Nat} {R:World->Prop} {Rx:World->Prop} (hO:O<wz.heap.size) (Y:wz.heap[s]? =some (.cells #[.int .i64 m] g F)) (Z:wz.heap[t]? =some (.cells #[.int .i64 h] q h1)) (a0:s≠O) (h2:t≠O)
  (w:∃k f,wz.heap[u]? =some (.cells #[.slice a n c] k f)) (h3:u≠O) (x:∃k f,wz.heap[v]? =some (.cells #[.func (.func 157) #[] #[.pointer (some ⟨s,0,none⟩),.pointer (some ⟨t,0,none⟩)]] k f)) (h4:v≠O)
  (J:Row Kk.jt 120 wz D a n L) (hD:∀b,D b->b<wz.heap.size/\b≠O) (K:own=L.filter λb=>RQ m h b.x) (b6:L.length<=20000000)
  (hR:∀A B,R A->ak (mL wz) A B->R B)
  (hy:∀pre o A,Nd wz O own f most pre A->R A->sd [.int .i64 0,DH ⟨qC,false,(0,0)⟩ none 0 0] o->(∃b,own[pre.length]? =some b/\o=[.int .i64 (pre.length:Int),DH b.x b.a b.n b.c])->iX Tryz.prog (wz.heap.size+1) o A λb e=>(b=true/\Nd wz O own f most (pre++[o]) e/\R e)\/(b=false/\Tg wz O R1 R2 own f most e/\Rx e))
  (M:Nd wz O own f most [] w1) (a4:R w1):
  Calls Tryz.prog 223 #[.func (.yield (wz.heap.size+1)) #[] #[],.pointer (some ⟨u,0,none⟩),.pointer (some ⟨v,0,none⟩)] w1 (λk e=>(∃a1,k= .returned a1)/\((R e/\∃l:List (List Value),Nd wz O own f most l e/\l.length=own.length)\/(Tg wz O R1 R2 own f most e/\Rx e))):=by
 obtain⟨e3,f3,w⟩:=w;obtain⟨e4,f4,x⟩:=x;have hn:=J.len;refine tS ⟨_,_,_,ae (M.af.get w h3) rfl,λN a2 y w'=>∃(d:Nat) (pre:List (List Value)),y=d/\d<=n/\N=n-d/\a2=(pre.length:Int)/\pre.length=((L.take d).filter λb=>RQ m h b.x).length/\Nd wz O own f most pre w'/\R w',⟨_,0,[],rfl,Qj _,rfl,rfl,rfl,M,a4⟩,?_⟩;rintro N _ _ _ P ⟨d,pre,rfl,hj,rfl,rfl,j,p,Q⟩;refine al.dec (λb7=>?_) (λb8=>?_)
 ·obtain⟨b,i⟩:∃b,L[d]? =some b:=⟨_,Qq oM⟩
  obtain⟨a3,a5,es,ha,a6,a7,z,rfl,-⟩:=(J.af p.af λb i=>(hD b i).2).el d b i;have b4:pre.length<=20000000:=by
   rw [j];have h5:=List.length_filter_le (λb:Bx cC=>RQ m h b.x) (L.take d);have h6:=List.length_take_le d L;omega
  refine⟨a3,a5,ha,oM,oM,bq (es:=gg b.x b.a b.n b.c) (k:=13) (ko _ _ _ _) rfl (λy ht=>by rw [Qx];exact z y ht) (PA.mk λb9 a8 c0 a9=>az (ko b.x b.a b.n b.c) a9 rfl λb0 b1 c1 S=>?_)⟩;have T:ai P b0:=a8.new b1 λb i=>.inr (by have i:b=P.heap.size:=i;omega);have C:=p.ah T;refine⟨_,ae (C.af.get x h4) rfl,ar (ko b.x b.a b.n b.c) S ⟨_,_,_,rfl,kR,PC.ok (MV (C.af.get Y a0) (C.af.get Z h2)) ?_⟩⟩;rintro _ b2 ⟨rfl,U⟩;have V:=T.then U;have W:=p.ah V;have X:=hR _ _ Q (ai.af V);refine⟨_,rfl,al.not (al.mk (λr=>?_) (λr=>⟨_,oM,d+1,pre,aq oM,oM,rfl,rfl,?_,W,X⟩))⟩
  rotate_left
  ·rw [Qw,i,List.filter_append,j];simp [r]
  refine ar (ko b.x b.a b.n b.c) (U.get S id) ⟨_,rfl,(hy pre _ b2 W X ?_ ⟨b,?_,rfl⟩).mono ?_⟩
  ·exact λφ E=>E pre.length b.x.ev.origin b.x.ev.seq b.x.ev.ax b.a b.n b.c b.x.ev.aT b.x.ev.agg b.x.ev.field b.x.ev.op b.x.ev.arg b.x.ev.key b.x.void b.x.DG.1 b.x.DG.2
  ·rw [K,j];exact Bo i r
  ·rintro b' e (⟨rfl,H,b5⟩|⟨rfl,I,b3⟩)
   ·refine al.ff rfl ⟨_,oM,d+1,pre++[_],aq oM,oM,rfl,?_,?_,H,b5⟩
    ·rw [aq oM];simp
    ·rw [Qw,i,List.filter_append,QX,QX,<-j];simp [r]
   ·exact al.tt rfl ⟨⟨_,rfl⟩,.inr ⟨I,b3⟩⟩
 ·rw [Qz oM]at j
  exact⟨⟨_,rfl⟩,.inl ⟨Q,pre,p,by rw [K];exact j⟩⟩
end
end Go.Proofs.YthnilpgpacdmnaaGreatDoor

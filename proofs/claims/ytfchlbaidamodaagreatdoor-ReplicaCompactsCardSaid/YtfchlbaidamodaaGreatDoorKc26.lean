import Derived.Test.YtfchlbaidamodaaGreatDoorKc25
set_option linter.all false
set_option maxRecDepth 20000
namespace Go.Proofs.YtfchlbaidamodaaGreatDoor
open Go.ax
variable{B:List ah}{a c:Nat}{f:Nat->Prop}{d:Option Addr}{M:aR}{l:ah}
section
variable {w w':World} {p:Nat} {F T D:Nat->Prop} {V:bk} {q:GJ}
abbrev GP(a:df)(b:Option Addr)(c d:Nat):Value:=.agg (iG a b c d).toArray
def IE(M:cT w p F V)(hT:eM w)(hr:Row aP 8 w D d a l.aK)(r:∀b,D b->b<w.heap.size/\¬F b)(he:l.Ok)(e:((ay V.done (l.bd,l.agg,l.field)).getD []).length<=20000000)(N:V.entries.length<=20000000):
  Calls ZQ 79 #[ZX p,kK l d a c] w (Ok λW w'=>∃d a c G,W=GP (V.add l).1 d a c/\Row aP 8 w' G d a l.aK/\∃X,cT w' p X (V.add l).2/\de F w X w'/\∀b,G b->w.heap.size<=b/\b<w'.heap.size/\¬X b):=by
 have Y:=M.aF;have g9:=Y _ M.self;refine Am (PA.mk λu e5 h3 d0=>PA.mk λh4 Z h5 e6=>?_);have k0:=e5.then Z;refine aw (bg l d a c) (Z.get d0 id) (PC.ok (oV (hr.af k0) λb e=>by have:=(r b e).1;omega) ?_);rintro _ h6 ⟨a6,n1,c1,G1,rfl,e7,v,O⟩;have a0:=k0.then O;refine cu (sW l a6 n1 c1) ⟨rfl,PC.ok (Ts (M.af a0) (hT.af a0) e7 (λb e=>⟨(v b e).2,λk=>by have:=Y b k;have:=v b e;omega⟩) he e) ?_⟩;rintro _ x ⟨rfl,g,b8,P,Q⟩;have h7:=O.size;have h8:=P.size;have b0:∀b,g b->F b\/w.heap.size<=b:=λb e=>by
  rcases Q b e with f|f|f
  ·exact .inl f
  ·have:=v b f;exact .inr oM
  ·exact .inr oM
 have b1:aj F w x:=(ai.keep a0).then P;have R:∀{b:Nat},w.heap.size<=b->¬F b:=λ{b} e k=>by have:=Y b k;omega
 have d1:=P.get (O.get (Z.get d0 id) id) (R (Q4 _));have d2:=P.get (O.get e6 id) (R oM);refine⟨_,_,_,rfl,PA.mk λh9 e8 i0 e9=>PS.mk e9 sM λi1 f2 i2 f3=>PS.mk f3 sM λi3 f4 i4 f5=>λy b9=>?_⟩;have B:ai x y:=((e8.new f2 λb e=>.inr oM).new f4 λb e=>.inr oM).then b9.keep;have i5:y.heap.size=x.heap.size+1:=by rw[b9.heap];omega
 have a1:y.heap[x.heap.size]? =some (.cells #[QH (V.try l).2.1.1,QH (V.try l).2.1.2] 39 (0,0)):=(b9.keep (S:=λ_=>False)).get f5 id;have b2:=B.get d1 id;obtain⟨g8,q,h⟩:=b8.af B;have c0:=b8.self;have z:=b8.aF;have b3:=((hr.keep b1 λb e=>(r b e).2).af B)
 have a4:(V.try l).2.2.entries=V.entries:=by
  rw[bk.sR];split;rfl;split;rfl;split<;>rfl
 have i6:=h.QU.len dC;have C:∀b,aI q.ea=some b->g b/\q.cls b= .QU:=λb e=>h.QU.self b e;have E:¬aI q.ea=some p:=λm=>by have f:=(C p m).2;rw[h.lp.2]at f;cases f
 refine⟨λb=>aI q.ea=some b,p,0,rfl,E,_,_,_,ae h.at' rfl,aw (bg l d a c) b2 ⟨λm=>by have:=z _ (C _ m).1;omega,_,_,ae a1 rfl,ae a1 rfl,PC.ok (oV b3 λb e=>by have:=(r b e).1;omega) ?_⟩⟩;rintro _ i7 ⟨a7,n2,c2,G2,rfl,f6,A,c4⟩;have i8:=c4.size;refine⟨_,_,_,_,_,_,_,_,_,_,_,_,rfl,ai.keep c4,PA.mk λd3 c5 i9 g0=>⟨ai.keep c5,?_⟩⟩;have a2:=c4.then c5;refine fh (c:=Ab) (x:=⟨l,(V.try l).1,(V.try l).2.1⟩) (h.QU.af a2) Tm g0 (D:=G2) ⟨a7,n2,c2,rfl,f6.af c5,he⟩ (λb e=>⟨by have:=A b e;omega,λm=>by have:=z _ (C _ m).1;have:=A b e;omega⟩) (by rw[a4];unfold aQ;omega) (by rw[a4];unfold maxLen;omega) λa' H d4 F2 b4 c6 c7=>⟨_,_,_,rfl,p,0,rfl,?_⟩
 have j0:=c6.size;have d5:=c6.get ((h.af a2).at') E;refine PS.mk d5 sM λI g1 j1 g2=>λs d6=>?_;have d7:ai I s:=d6.keep;have j2:s.heap.size=I.heap.size:=by rw[d6.heap]
 have a5:aj (·=p) d4 s:=g1.af d7;have k5:aj (λb=>aI q.ea=some b\/b=p) y s:=((ai.keep a2).then (c6.mono λb _ e=>.inl e)).then (a5.mono λb _ e=>.inr e);have J:aj g y s:=k5.mono λb _ e=>e.elim (λf=>(C b f).1) λf=>f▸c0;have c8:∀{b:Nat},x.heap.size<=b->¬g b:=λ{b} e k=>by have:=z b k;omega
 have g3:¬g w.heap.size:=λk=>by
  rcases Q _ k with f|f|f
  ·exact R (Q4 _) f
  ·have:=v _ f;omega
  ·omega
 have c9:¬g u.heap.size:=λk=>by
  rcases Q _ k with f|f|f
  ·exact R oM f
  ·have:=v _ f;omega
  ·omega
 have d8:=J.get b2 g3;have d9:=J.get (B.get d2 id) c9;have b5:=J.get a1 (c8 (Q4 _));have e0:∀b,D b->¬g b:=λb e k=>by
  rcases Q _ k with f|f|f
  ·exact(r b e).2 f
  ·have:=v _ f;have:=(r b e).1;omega
  ·have:=(r b e).1;omega
 have e1:=b3.keep J e0;have j3:=k5.size;refine⟨λb=>b=u.heap.size,aw (bg l d a c) d8 ⟨oM,_,_,ae b5 rfl,ae b5 rfl,PC.ok (oV e1 λb e=>by have:=(r b e).1;omega) ?_⟩⟩;rintro _ j4 ⟨a3,n3,c3,G3,rfl,g4,e2,K⟩;have j5:=K.size;refine⟨_,_,_,_,_,_,_,_,_,_,_,_,rfl,ai.keep K,aD (mg ⟨l,(V.try l).1,(V.try l).2.1⟩ a3 n3 c3) (K.get d9 id) rfl λe3 S j6 g5=>⟨S,aw (mg ⟨l,(V.try l).1,(V.try l).2.1⟩ a3 n3 c3) g5 (Ok.mk ⟨a3,n3,c3,G3,rfl,g4.keep S λb e m=>by have:=e2 b e;omega,λb=>b<I.heap.size/\(g b\/G2 b\/d3.heap.size<=b),?_,⟨?_,?_⟩,?_⟩)⟩⟩
 ·have g6:=(bk.Bn (by
   have:V.OK:=M.1;exact this) l).1
  have T:aj (λb=>b=u.heap.size) s e3:=(ai.keep K).then S;have zc:=T.size;have g7:∀b,g b->b<I.heap.size:=λb e=>by have:=z b e;omega
  classical
  have e4:∀b,g b->(if g b then q.cls b else KX.QU)=q.cls b:=λb e=>if_pos e;have L:aj (λb=>(aI q.ea=some b\/b=p)\/b=u.heap.size) y e3:=(k5.mono λb _ e=>.inl e).then (T.mono λb _ e=>.inr e);have i:∀(o:KX) b,o≠.QU->o≠.self->g b/\q.cls b=o->¬((aI q.ea=some b\/b=p)\/b=u.heap.size):=λo b f U e n=>by
   rcases n with(n|n)|n
   ·exact f (e.2.symm.trans (C b n).2)
   ·subst n;exact U (e.2.symm.trans h.lp.2)
   ·subst n;exact c9 e.1
  have j:∀(o:KX) b,g b/\q.cls b=o->((b<I.heap.size/\(g b\/G2 b\/d3.heap.size<=b))/\(if g b then q.cls b else KX.QU)=o):=λo b e=>⟨⟨g7 b e.1,.inl e.1⟩,(e4 b e.1).trans e.2⟩
  refine⟨g6,⟨q.ta,q.tn,q.tc,q.pa,q.pn,q.pc,a',q.en+1,H,q.r1,q.r2,q.l1,q.l2,λb=>if g b then q.cls b else KX.QU⟩,?_,?_,?_,?_,?_,?_,?_,λb e=>by have:=e.1;omega,j _ _ h.lp,j _ _ h.l1,j _ _ h.l2⟩
  ·exact T.get (d7.get g2 id) oM
  ·exact(h.Tp.keep L λb e=>i _ b sM sM e).mono (j _)
  ·have N:∀b,F2 b->b<d4.heap.size/\b≠u.heap.size/\b≠p:=λb e=>by
    refine⟨b4.aF b e,λm=>?_,λm=>?_⟩
    ·rcases c7 b e with f|f|f
     ·exact c9 (m▸f.1)
     ·have:=A b f;omega
     ·omega
    ·rcases c7 b e with f|f|f
     ·have U:=f.2;rw[m,h.lp.2]at U;cases U
     ·have:=A b f;have:=z p c0;omega
     ·have:=z p c0;omega
   have:(V.add l).2.entries=(V.try l).2.2.entries++[⟨l,(V.try l).1,(V.try l).2.1⟩]:=rfl;rw[this];refine((b4.keep a5 λb e=>(N b e).2.2).keep T λb e=>(N b e).2.1).mono (λb e=>?_) λb e=>by have:=e.1.1;omega
   have h0:=(N b e).1;rcases c7 b e with f|f|f
   ·exact j _ b f
   ·have:=A b f
    refine⟨⟨oM,.inr (.inl f)⟩,?_⟩;show(if g b then _ else _)=_;rw[if_neg (c8 oM)]
   ·refine⟨⟨oM,.inr (.inr f)⟩,?_⟩
    show(if g b then _ else _)=_;rw[if_neg (c8 oM)]
  ·exact h.st.keep L (i _ _ sM sM h.l1)
  ·refine h.Yk.mono λW a8 t=>?_
   obtain⟨x1,x2,x3,rfl,t⟩:=t;exact⟨x1,x2,x3,rfl,(t.keep L λb e=>i _ b sM sM e).mono (j _)⟩
  ·exact h.dn.keep L (i _ _ sM sM h.l2)
  ·refine h.YC.mono λa9 W a8 t=>?_
   obtain⟨x1,x2,x3,rfl,t⟩:=t;exact⟨x1,x2,x3,rfl,(t.keep L λb e=>i _ b sM sM e).mono (j _) λb e=>by have:=e.1.1;omega⟩
 ·have k1:aj g x s:=(ai.keep B).then J
  exact((b1.new k1 b0).af K).new S λb e=>.inr oM
 ·intro b e
  rcases e.2 with f|f|f
  ·exact b0 b f
  ·have:=A b f;exact .inr oM
  ·exact .inr oM
 ·intro b e
  have:=e2 b e;refine⟨oM,oM,λn=>by have:=n.1;omega⟩
def GQ(f:aR):∀(c:List ah) (a:bk) (b:Int×Int×Int),(((ay (c.foldl (λa e=>(a.add e).2) a).done b).getD []).length<=((ay a.done b).getD []).length+c.length)/\(c.foldl (λa e=>(a.add e).2) a).entries.length=a.entries.length+c.length
 |[],a,b=>by simp
 |e::c,a,b=>by
  rw[List.foldl_cons];obtain⟨g,h⟩:=GQ f c (a.add e).2 b;have k:((ay (a.add e).2.done b).getD []).length<=((ay a.done b).getD []).length+1:=by
   show((ay (a.try e).2.2.done b).getD []).length<=_;rw[bk.sR];split
   ·simp
   split
   ·simp
   split
   ·simp
   ·simp only
    rw[bu];split
    ·rename_i i
     have d:b=(e.bd,e.agg,e.field):=by simpa using i
     rw[d];simp
    ·simp
  have j:(a.add e).2.entries.length=a.entries.length+1:=by
   show((a.try e).2.2.entries++[_]).length=_;have:(a.try e).2.2.entries=a.entries:=by rw[bk.sR];split;rfl;split;rfl;split<;>rfl
   rw[this];simp
  refine⟨?_,by rw[h,j];simp;omega⟩;simp only[Xq]at g⊢;omega
def ID{q r s:Option Addr}{tn O t P j Q:Nat}(R:dd M=0)(S:eM w)(T:bh w D M q tn r t)(U:∀a,D a->a<w.heap.size)(u:Row fZ 96 w f s j B)(v:∀a,f a->a<w.heap.size)(c:B.length<=20000000):
  Calls ZQ 40 #[.agg #[.slice q tn O,.slice r t P],.slice s j Q] w (Ok λV w'=>∃p F,V= ZX p/\cT w' p F (cG M B)/\(∀a,F a->w.heap.size<=a)/\ai w w'):=by
 refine LG (PA.mk λw1 x s1 y=>⟨_,_,_,_,_,_,ae y rfl,ae y rfl,PC.ok (IM R (T.af x) λa c=>by have:=U a c;omega) ?_⟩);rintro _ w9 ⟨p,W,rfl,e,X,z⟩;have a9:=u.len;have Y:=x.then z;have z9:=z.size;refine⟨_,rfl,λA o w'=>∃b:Nat,o=b/\b<=j/\A=j-b/\∃F,cT w' p F (cG M (B.take b))/\(∀a,F a->w.heap.size<=a)/\ai w w',⟨_,0,rfl,Qj _,rfl,W,e,λa c=>by have:=X a c;omega,Y⟩,?_⟩;rintro A _ _ Z ⟨b,rfl,hj,rfl,F,e,k,g⟩;refine al.dec (λb0=>?_) (λb1=>?_)
 ·have C:b<B.length:=oM
  obtain⟨a,a0,es,ha,a1,b2,E,l,m,n,rfl,H,I⟩:=(u.af g).el b B[b] (Qq C);have J:B[b]? =some B[b]:=Qq C;generalize B[b]=d at E H I J;refine⟨a,a0,ha,oM,oM,br (es:=aE d l m n) (k:=10) (bg d l m n) rfl (λo ht=>E o ht) (PA.mk λb3 a3 b4 a5=>aD (bg d l m n) a5 rfl λa6 a7 b5 a8=>aw (bg d l m n) a8 ?_)⟩;have h:ai Z a6:=a3.new a7 λa c=>.inr oM;have K:=GQ M (B.take b) (bk.new M) (d.bd,d.agg,d.field);have b6:=List.length_take_le b B;have b7:((ay (cG M (B.take b)).done (d.bd,d.agg,d.field)).getD []).length<=0+(B.take b).length:=K.1;have b8:(cG M (B.take b)).entries.length=0+(B.take b).length:=K.2;have b9:=g.size;have c0:=h.size;refine PC.ok (IE (e.af h) (S.af (g.then h)) (H.af h) (λa c=>⟨by have:=v a c;omega,λhf=>by have:=k a hf;have:=v a c;omega⟩) I oM oM) ?_;rintro _ c1 ⟨a4,n4,c4,G,rfl,-,F',i,L,-⟩;refine cu (Rn _ a4 n4 c4) ⟨rfl,_,?_,b+1,an oM,oM,rfl,F',?_,λa c=>?_,(g.then h).new L.1 λa c=>.inr (k a c)⟩
  ·omega
  ·rw[Qw,J]
   unfold cG at i⊢;rw[List.foldl_append];exact i
  ·rcases L.2 a c with N|N
   ·exact k a N
   ·omega
 ·rw[Qz oM]at e
  exact Ok.mk ⟨p,F,rfl,e,k,g⟩
end
end Go.Proofs.YtfchlbaidamodaaGreatDoor
namespace Go.ax
open Go
variable{a3:List Value}{E a c c6 i n:Nat}{f:Nat->Prop}{d p:Option Addr}{h:Program}{K j:Type}{g q:TypeId}{b:World}{y:World->Prop}
def QS{cs:List j}{p m:Nat}{v:j}{vs:List j}(a:p<cs.length):(cs.set p v).take (p+1)++vs++(cs.set p v).drop (p+1+m)=cs.take p++(v::vs)++cs.drop (p+(m+1)):=by
 have b:(cs.set p v).take (p+1)=cs.take p++[v]:=by
  rw[Qw,Xj,if_pos rfl,if_pos a,List.take_set_of_le (Q4 _)];rfl
 have c:(cs.set p v).drop (p+1+m)=cs.drop (p+(m+1)):=by
  rw[List.drop_set_of_lt oM,show p+1+m=p+(m+1) by omega]
 rw[b,c];simp
def DY{m:TypeId}{n:Nat}{h:Option Addr}{o e b i f:Nat}{p:World->Prop}(q:h=some ⟨i,f,none⟩):∀(c:List Value) (a:Nat) {d:World} {cs:List Value},Own d m n h o e cs->b+a+c.length<=cs.length->
  (∀g,Own g m n h o e (cs.take (b+a)++c++cs.drop (b+a+c.length))->aj (λi=>aI h=some i) d g->g.heap.size=d.heap.size->p g)->jG ⟨i,f+b,none⟩ a c d p
 |[],a,d,cs,j,r,k=>k d (by simpa using j) (aj.refl _) rfl
 |v::c,a,d,cs,j,r,k=>by
  unfold jG;rw[Xq]at r;rw[Addr.add_lit,Nat.add_assoc];refine j.set (m:=b+a) oM q λg s t u=>DY q c (a+1) s (by simp;omega) λw l x y=>k w ?_ (t.then x) (y.trans u);have:=QS (cs:=cs) (p:=b+a) (m:=c.length) (v:=v) (vs:=c) oM;rw[show b+(a+1)=b+a+1 from rfl]at l;rw[this]at l;exact l
def Own.store{l e m i f:Nat}{c cs:List Value}(o:Own b q a d l e cs)(p:d=some ⟨i,f,none⟩)(n:jg h g c=true)(r:m+c.length<=cs.length)(k:∀j,Own j q a d l e (cs.take m++c++cs.drop (m+c.length))->aj (λi=>aI d=some i) b j->j.heap.size=b.heap.size->y j):xJ h g (.pointer (some ⟨i,f+m,none⟩)) (.agg c.toArray) b y:=by
 simp only[jg,QK]at n;obtain⟨⟨⟨s,x⟩,t⟩,u⟩:=n;unfold xJ;have v:Nat.beq c.toArray.size (mB h g)=true:=by simpa using t
 have w:c.toArray.toList.all Value.oneCell'=true:=by simpa using u
 simp only[s,v,w];exact DY p c 0 o (by simpa using r) k
def fv.store{e:fv j K}{r:List (Bx j)}(x:aV e.k_ q f b d a c r){k:Bx j}(z:r[i]? =some k){C u:Nat}(N:d=some ⟨C,u,none⟩)(F:a3=(e.hd k.x p n E).take c6)(a1:e.o<c6)(a2:c6<=e.k)(O:jg h g a3=true)(A:∀t,aV e.k_ q f t d a c (r.set i ⟨k.x,p,n,E⟩)->aj (λl=>aI d=some l) b t->t.heap.size=b.heap.size->y t):xJ h g (.pointer (some ⟨C,u+i*e.k,none⟩)) (.agg a3.toArray) b y:=by
 obtain⟨cs,D,P,H,Q⟩:=x.body;have I:=bT.om.1 H;have R:i<r.length:=(Qv.1 z).1;have J:cs.length=r.length*e.k:=by rw[I];exact lN (λl:Bx j=>e.hl l.x l.a l.n l.c) r
 have v:a3.length=c6:=by rw[F,Qy,e.hl];omega
 have S:(i+1)*e.k<=r.length*e.k:=Q0 _ R;rw[X7,Nat.one_mul]at S;refine P.store (m:=i*e.k) N O (by rw[J,v];omega) λt T U L=>A t ⟨⟨_,D,T,bT.om.2 ?_,Q⟩,x.self,λl V=>by rw[L];exact x.aF l V⟩ U L;have W:=sh (enc:=λl:Bx j=>e.hd l.x l.a l.n l.c) (k:=e.k) (λl=>e.hl l.x l.a l.n l.c) (x':=⟨k.x,p,n,E⟩) (v:=.slice p n E) e.ho r i k z (e.fz ..).symm;rw[<-W,<-I,v];have X:∀m,m<e.k->cs[i*e.k+m]? =(e.hd k.x k.a k.n k.c)[m]? :=λm Y=>by
  obtain⟨Z,B,M⟩:=H.at z;have a0:Z=e.hd k.x k.a k.n k.c:=M.1;rw[<-a0];exact B m Y
 apply X3;intro m;have s:∀o,o<c6->a3[o]? =(e.hd k.x p n E)[o]? :=λo hu=>by rw[F,Xw,if_pos hu]
 by_cases B:m<i*e.k
 ·rw[XQ,XW (by rw[Qy];omega),Xw,if_pos B,Xj,if_neg oM]
 ·by_cases M:m<i*e.k+c6
  ·rw[XQ,X8 (by rw[Qy];omega),XW (by rw[Qy,v];omega),Qy,s _ oM]
   obtain⟨o,rfl⟩:∃o,m=i*e.k+o:=⟨m-i*e.k,oM⟩
   rw[X2 oM,Nat.add_sub_cancel_left,Xj];have w:=e.fz k.x k.a k.n k.c p n E;split
   ·rename_i q
    have:o=e.o:=oM
    subst this;rw[if_pos (by rw[J];have:=e.ho;omega),<-w,Xj,if_pos rfl,if_pos (by rw[e.hl];exact e.ho)]
   ·rename_i q
    rw[X o oM,<-w,Xj,if_neg oM]
  ·rw[X8 (by rw[QX,Qy,v];omega),QX,Qy,v,List.getElem?_drop,Xj,if_neg (by have:=e.ho;omega)]
   congr 1
   omega
end Go.ax
namespace Go.ax
open Go
variable{h:Program}{y:World->Prop}
section
variable {α β:Type} {N:fv α β} {w9 w w':World} {a:Option Addr} {n c j:Nat} {L0:List (Bx α)} {e:TypeId}
def eO.step2{i:TypeId}(z:eO N e w9 a n c L0 j w){g:Nat}(p:a=Option.some ⟨g,0,none⟩){d:Bx α}(k:L0[j]? =Option.some d){a':Option Addr}{n' c':Nat}{G:Nat->Prop}(A:Row N.ci N.ib w G a' n' (N.inner d.x))(C:N.ok d.x)(l:∀b,G b->w9.heap.size<=b/\b<w.heap.size)(U:g<w9.heap.size){hd:List Value}{r:Nat}(E:hd=(N.hd d.x a' n' c').take r)(F:N.o<r)(H:r<=N.k)(I:jg h i hd=true)(m:∀w',eO N e w9 a n c L0 (j+1) w'->aj (λd=>aI a=Option.some d) w w'->w'.heap.size=w.heap.size->y w'):xJ h i (.pointer (Option.some ⟨g,0+j*N.k,none⟩)) (.agg hd.toArray) w y:=by
 obtain⟨J,K,L,M,O,q,P,s⟩:=z;have t:J[j]? =Option.some d:=by rw[q j (Q4 _)];exact k
 have Q:=(Qv.1 t).1;have u:∀b,G b->¬aI a=Option.some b:=λb B e=>by
  have:=(l b B).1;rw[p]at e;simp only[aI,Q1]at e;omega
 refine fv.store L t p E F H I λR S f o=>m R ⟨_,λb=>K b\/G b,S,?_,?_,?_,P.then f,?_⟩ f o
 ·rw[List.map_set,M]
  apply X3;intro i;rw[Xj];split
  ·rename_i e;subst e
   rw[if_pos (by simpa using(Qv.1 k).1),Q9,k];rfl
  ·rfl
 ·intro v b V B
  rw[Xj]at B
  by_cases x:j=v
  ·subst x
   rw[if_pos rfl,if_pos Q]at B
   cases B
   exact⟨(A.keep f λb B=>u b B).mono λb B=>.inr B,C⟩
  ·rw[if_neg x]at B
   exact((O v b oM B).keep f λb B=>(s b B).2.2).mono λb B=>.inl B
 ·intro T W
  rw[Xj,if_neg oM,q T oM]
 ·rintro b (B|B)
  ·rw[o];exact s b B
  ·rw[o];exact⟨(l b B).1,(l b B).2,u b B⟩
end
end Go.ax
namespace Go.Proofs.YtfchlbaidamodaaGreatDoor
open Go.ax
variable{a c:Nat}{d:Option Addr}
section
variable {w w':World} {p:Nat} {F D:Nat->Prop} {V:bk}
def AR{b:List (Bx df)}(f:Row NJ.k_ 120 w D d a b)(g:∀e,D e->e<w.heap.size):Calls ZQ 394 #[.slice d a c] w (Ok (qD NJ.k_ 160 w b)):=
 gX (By Tm dC f g λi w' h=>Ok.mk h)
def GS(e:cT w p F V)(c:V.entries.length<=20000000):Calls ZQ 392 #[ZX p] w (Ok (qD Ab 160 w V.entries)):=by
 obtain⟨X,Y,e⟩:=e;have l:=e.QU.row (bytes:=120) dC (by unfold aQ;omega);have I:=l.d_;have Z:=l.len;obtain⟨g,x,J,K⟩:=fv.boxes l;have a8:g.length=V.entries.length:=by rw[<-x];simp
 refine tA ⟨p,0,rfl,_,_,_,ae e.at' rfl,PC.ok (AR J λa c=>e.aF a c.1) ?_⟩;rintro _ y ⟨j,h,z,F9,rfl,k,A,L⟩;have m:∀a,aI j=some a->w.heap.size<=a:=λa c=>L a (k.self a c);have M:∀a,aI j=some a->a<y.heap.size:=λa c=>k.aF a (k.self a c);refine⟨_,_,_,rfl,λB N w'=>∃d:Nat,N=d/\d<=h/\B=h-d/\eO NJ 160 y j h z g d w',⟨_,0,rfl,Qj _,rfl,eO.start k.alone⟩,?_⟩;rintro B _ _ O ⟨d,rfl,hj,rfl,f⟩;have b0:=f.len;have n:ai w O:=A.new f.keep λa c=>.inr (m a c);have zk:=f.keep.size;refine al.dec (λb1=>?_) (λb2=>?_)
 ·obtain⟨i,rfl⟩:=f.some oM
  have b3:=m i rfl;have P:=M i rfl;have o:g[d]? =some g[d]:=Qq oM;have q:=K g[d] (XY oM);generalize g[d]=b at o q;refine⟨i,0,rfl,oM,oM,br (es:=aE b.x.ev b.a b.n b.c) (k:=10) (bg _ _ _ _) rfl (λr Q=>?_) (PC.ok (oV (e:=b.x.ev) (q.1.af n) λa c=>by have:=e.aF a c.1;have:=n.size;omega) ?_)⟩
  ·have R:=f.cell rfl o (by show h*13<=aQ;unfold aQ at I⊢;omega) r
   rw[Qx];have s:r<(aE b.x.ev b.a b.n b.c).length:=Q;rw[Qq s];refine R _ ?_;show(aE b.x.ev b.a b.n b.c++_)[r]? =_;rw[XW s,Qq s]
  rintro _ b4 ⟨t,u,v,G,rfl,S,C,T⟩;refine cu (sW b.x.ev t u v) ⟨rfl,i,0,rfl,oM,oM,?_⟩;rw[Qx];refine(f.af T).step2 (g:=i) rfl o (a':=t) (n':=u) (c':=v) (G:=G) S q.2 (λE H=>⟨by have:=C E H;omega,(C E H).2⟩) P (hd:=aE b.x.ev t u v) (r:=10) rfl dC dC (bg _ _ _ _) λb5 U b6 b7=>⟨_,?_,d+1,an oM,oM,rfl,U⟩
  omega
 ·obtain rfl:d=h:=oM
  obtain⟨Fd,hd,W⟩:=f.done;rw[x]at hd;have z9:=A.size;exact Ok.mk ⟨j,_,z,Fd,rfl,hd,n,λa c=>(W a c).elim (m a) λe=>oM⟩
end
end Go.Proofs.YtfchlbaidamodaaGreatDoor
namespace Go.Proofs.YtfchlbaidamodaaGreatDoor
open Go.ax
def bz(a:ep):List Value:=[QH a.group,QH a.value,QH a.count]
def ep.Ok(a:ep):Prop:=aN a.group/\aN a.value/\aN a.count
def IN:kM ep:=flat 3 bz ep.Ok (λ_=>rfl) (λb c a=>by simp[bz]at a;rcases a with rfl|rfl|rfl<;>rfl)
def XR:jP ZQ 44 268 3 24:=⟨kR,kR,dC⟩
variable{X r:Array Value}{z:FuncId}{e m:Int}{e0:ep}
section
variable {w w':World} {D:Nat->Prop} {a:Option Addr} {n c:Nat} {l:List ep}
def Dy(d:Row IN 24 w D a n l)(e:∀b,D b->b<w.heap.size):Calls ZQ 227 #[.slice a n c] w (Ok (qD IN 268 w l)):=
 jD (By XR dC d e λg w' f=>Ok.mk f)
def MN{most:Int}(d:Row IN 24 w D a n l)(h:∀e,D e->e<w.heap.size)(v:n<=c):
  Calls ZQ 165 #[.slice a n c,QH most] w (Ok λi w'=>∃f,i= .tuple #[f,.bool (decide ((max most 0).toNat<l.length))]/\qD IN 268 w (l.take (max most 0).toNat) f w'):=by
 have x:=d.len;have j:(if 0>most then 0 else most)=max most 0:=by split<;>omega
 refine EE ?_;rw[j];obtain⟨b,g⟩:∃b:Nat,(if(n:Int)<max most 0 then(n:Int)else max most 0)=b:=⟨(if(n:Int)<max most 0 then(n:Int)else max most 0).toNat,by split<;>omega⟩
 rw[g];have k:b=min n (max most 0).toNat:=by split at g<;>omega
 rw[Qx];refine⟨oM,oM,oM,PC.ok (Dy (d.take (m:=b) oM) h) ?_⟩;rintro _ y ⟨m,o,p,q,rfl,r,s,t⟩;refine⟨_,_,_,rfl,Ok.mk ⟨_,?_,m,o,p,q,rfl,?_,s,t⟩⟩
 ·have:decide ((b:Int)<(n:Int))=decide ((max most 0).toNat<l.length):=by rw[decide_eq_decide];omega
  rw[this]
 ·have:l.take (max most 0).toNat=l.take b:=by
   rw[k]
   by_cases u:(max most 0).toNat<=n
   ·rw[Nat.min_eq_right u]
   ·rw[X2 oM,Qz oM,Qz oM]
  rw[this];exact r
def Kj{c k:Nat}(u:c<=20000000)(l:k<=c)(m:enters ZQ z=true)(n:∀(d:Nat) f,d<c->ai w f->Calls ZQ z (r++ #[QH (d:Int)]++X) f (Ok λg w'=>g= .bool (decide (k<=d))/\ai f w')):
  Calls ZQ 163 #[QH (c:Int),.func (.func z) r X] w (Ok λg w'=>g= QH (k:Int)/\ai w w'):=by
 refine Cc ⟨λh d o w'=>∃a b:Nat,d=a/\o=b/\h=b-a/\a<=b/\b<=c/\a<=k/\k<=b/\ai w w',⟨_,0,c,rfl,rfl,rfl,oM,oM,oM,l,aj.refl _⟩,?_⟩;rintro h _ _ _ p ⟨a,b,rfl,rfl,rfl,v,q,s,t,e⟩;refine al.dec (λx=>?_) (λy=>?_)
 ·rw[VD oM]
  refine⟨_,_,_,rfl,m,PC.ok (n _ p oM e) ?_⟩;rintro _ A ⟨rfl,i⟩;refine⟨_,rfl,al.not (al.dec (λj=>⟨_,?_,a,(a+b)/2,rfl,rfl,rfl,oM,oM,s,j,e.then i⟩) (λj=>⟨_,?_,(a+b)/2+1,b,an oM,rfl,rfl,oM,q,oM,t,e.then i⟩))⟩
  ·omega
  ·omega
 ·obtain rfl:a=k:=oM
  exact Ok.mk ⟨rfl,e⟩
def ud{b:Type}(a:b->Bool):∀l:List b,l.dropWhile a=l.drop (posOf a l)
 |[]=>rfl
 |x::l=>by
  unfold posOf;rw[List.dropWhile_cons,List.takeWhile_cons]
  cases c:a x
  ·simp
  ·simpa[posOf]using ud a l
abbrev vE(l:List ep):Prop:=l.Pairwise λa b=>a.group<b.group
def UI{l:List ep}(d:vE l){a:Nat}(b:l[a]? =some e0):decide (posOf (λe0=>decide (e0.group<=e)) l<=a)=decide (e0.group>e):=by
 rw[decide_eq_decide]
 induction l generalizing a with
 |nil=>simp at b
 |cons f l g=>
  obtain⟨h,i⟩:=List.pairwise_cons.1 d;unfold posOf;rw[List.takeWhile_cons]
  by_cases c:f.group<=e
  ·rw[decide_eq_true c]
   cases a with
   |zero=>
    simp at b;subst b;simp;omega
   |succ a=>
    have:=g i (by simpa using b);unfold posOf at this;simp only[if_true,Xq];omega
  ·rw[Xv c]
   simp only[Bool.false_eq_true,if_false,List.length_nil,Qj,true_iff]
   cases a with
   |zero=>simp at b;subst b;omega
   |succ a=>
    have:=h e0 (QZ (by simpa using b));omega
def MO(k:Row IN 24 w D a n l)(v:∀d,D d->d<w.heap.size)(x:n<=c)(y:vE l)(z:n<=20000000):
  Calls ZQ 101 #[.slice a n c,QH e,QH m] w (Ok λA w'=>∃b,A= .tuple #[b,.bool (ot l e (max m 0).toNat).2]/\qD IN 268 w (ot l e (max m 0).toNat).1 b w'):=by
 have Q:=k.len;have R:=Bp (λb:ep=>decide (b.group<=e)) l;refine Hp (PA.mk λS q T o=>PA.mk λU h V B=>⟨_,_,_,ae (h.get o id) rfl,PC.ok (Kj (k:=posOf (λb=>decide (b.group<=e)) l) z oM kR λi C W f=>?_) ?_⟩)
 ·have g:=(q.then h).then f
  obtain⟨d,E,X,F,j,-,H,rfl,-⟩:=(k.af g).el i l[i] (Qq oM);have I:l[i]? =some l[i]:=Qq oM;refine BW ⟨_,_,_,ae (f.get (h.get o id) id) rfl,d,E,F,oM,oM,_,by rw[Qx];exact H 0 dC,_,ae (f.get B id) rfl,λJ K=>Ok.mk ⟨?_,K.keep⟩⟩;rw[UI y I]
 ·rintro _ C ⟨rfl,f⟩
  have g:=(q.then h).then f;have p:=(k.af g).part (lo:=posOf (λb=>decide (b.group<=e)) l) (hi:=n) (cap:=c) oM (Q4 _) x;rw[Qz oM]at p;have L:IN.k=3:=rfl;rw[L]at p;refine⟨_,rfl,_,_,_,ae (f.get (h.get o id) id) rfl,oM,oM,?_⟩;rw[Qx];refine PC.ok (MN (most:=m) p (λd j=>by have:=v d j;have:=g.size;omega) oM) ?_;rintro _ J ⟨_,rfl,r,s,t,M,rfl,N,O,P⟩;have u:l.dropWhile (λb=>decide (b.group<=e))=l.drop (posOf (λb=>decide (b.group<=e)) l):=ud _ l;refine⟨_,_,_,_,rfl,Ok.mk ⟨.slice r s t,?_,r,s,t,M,rfl,?_,g.then O,λd j=>by have:=P d j;have:=g.size;omega⟩⟩
  ·unfold ot;rw[u]
  ·unfold ot;rw[u];exact N
end
def ub(a:ep):Value:=.agg (bz a).toArray
def PM(a:ep):jg ZQ 268 (bz a)=true:=kR
def Za(a:ep):TF (fe ZQ 268) (.agg (bz a).toArray)=true:=kR
structure lO (w:World) (p r:Nat) (R:ef):Prop where
 at':w.heap[p]? =some (.cells #[QH R.p.bd,QH R.p.field,QH R.p.group,QH R.p.GO,QH R.p.make,.map (some r)] 288 (0,0))
 map:cx w r (Value.int .i64) (R.rows.map λx=>(x.1,ub x.2))
 ok:∀x∈R.rows,ep.Ok x.2/\x.2.group=x.1
variable{a c:Nat}{d:Option Addr}{l:ah}{d9:jO}
section
variable {w w':World} {p r:Nat} {R:ef} {T:Nat->Prop}
def lO.keep(a:lO w p r R)(b:aj T w w')(c:¬T p)(d:¬T r):lO w' p r R:=⟨b.get a.at' c,a.map.keep b d,a.ok⟩
def lO.af(a:lO w p r R)(b:ai w w'):lO w' p r R:=a.keep b id id
def Rt:Calls ZQ 133 #[.agg (oy d9).toArray] w (Ok λc w'=>∃p r,c= ZX p/\lO w' p r ⟨d9,[]⟩/\w.heap.size<=p/\w.heap.size<=r/\p<w'.heap.size/\r<w'.heap.size/\ai w w'):=by
 refine LJ (PA.mk λd e k a=>⟨_,_,_,_,_,ae a rfl,ae a rfl,ae a rfl,ae a rfl,ae a rfl,PA.mk λf g l h=>PA.mk λm b n i=>Ok.mk ⟨f.heap.size,d.heap.size,rfl,⟨i,cx.new (b.get h id),λd9 j=>by cases j⟩,oM,oM,oM,oM,(e.then g).then b⟩⟩)
def Ie(a:jO)(c:ah)(b:Int):Option Int:=if a.group=1 then some c.agg else if a.group=2 then some c.arg else if a.group=3 then some b else none
def MP(j:lO w p r R):Calls ZQ 263 #[ZX p,kK l d a c,QH e] w (Ok λk w'=>k= .tuple #[QH ((Ie R.p l e).getD 0),.bool (Ie R.p l e).isSome]/\ai w w'):=by
 refine wg (PA.mk λm b n i=>⟨p,0,rfl,_,ae (j.af b).at' rfl,al.dX (λf=>⟨_,ae i rfl,Ok.mk ⟨?_,b⟩⟩) (λf=>al.dX (λg=>⟨_,ae i rfl,Ok.mk ⟨?_,b⟩⟩) (λg=>al.dX (λh=>Ok.mk ⟨?_,b⟩) (λh=>Ok.mk ⟨?_,b⟩)))⟩)
 ·unfold Ie;rw[if_pos f];rfl
 ·unfold Ie;rw[if_neg f,if_pos g];rfl
 ·unfold Ie;rw[if_neg f,if_neg g,if_pos h];rfl
 ·unfold Ie;rw[if_neg f,if_neg g,if_neg h];rfl
def Qh(h:lO w p r R){arg:Int}:Calls ZQ 264 #[ZX p,.agg (bz e0).toArray,QH arg] w (Ok λm w'=>m= QH (mG R.p e0 arg)/\ai w w'):=by
 refine yk (PA.mk λn c q g=>?_);have d:=(h.af c).at';refine⟨_,ae g rfl,p,0,rfl,_,ae d rfl,al.dX (λe=>⟨_,ae g rfl,Ok.mk ⟨?_,c⟩⟩) (λe=>⟨p,0,rfl,_,ae d rfl,al.dX (λf=>⟨_,ae g rfl,Ok.mk ⟨?_,c⟩⟩) (λf=>⟨λl w'=>l=decide (R.p.make=5\/e0.count=1/\(R.p.make=3\/R.p.make=4))/\n=w',?_,?_⟩)⟩)⟩
 ·unfold mG;rw[if_pos e]
 ·unfold mG;rw[if_neg e,if_pos f]
 ·refine⟨p,0,rfl,_,ae d rfl,al.dX (λi=>⟨?_,rfl⟩) (λi=>al.dX (λk=>⟨p,0,rfl,_,ae d rfl,al.dX (λa=>⟨?_,rfl⟩) (λa=>⟨p,0,rfl,_,ae d rfl,?_,rfl⟩)⟩) (λk=>⟨?_,rfl⟩))⟩
  ·rw[decide_eq_true (.inl i)];simpa using i
  ·rw[decide_eq_true (.inr ⟨k,.inl a⟩)]
  ·by_cases b:R.p.make=4
   ·rw[decide_eq_true (.inr ⟨k,.inr b⟩)];simpa using b
   ·rw[Xv (by rintro(h|⟨-,h|h⟩);exact i h;exact a h;exact b h)];simpa using b
  ·rw[Xv (by rintro(h|⟨h,-⟩);exact i h;exact k h)]
 ·rintro l _ _ ⟨o,rfl⟩
  subst o;refine al.dec (λj=>Ok.mk ⟨?_,c⟩) (λj=>⟨p,0,rfl,_,ae d rfl,al.dX (λa=>⟨_,ae g rfl,Ok.mk ⟨?_,c⟩⟩) (λa=>⟨p,0,rfl,_,ae d rfl,al.dX (λb=>⟨_,ae g rfl,Ok.mk ⟨?_,c⟩⟩) (λb=>Ok.mk ⟨?_,c⟩)⟩)⟩)
  ·unfold mG;rw[if_neg e,if_neg f,if_pos j]
  ·have:(if arg<e0.value then arg else e0.value)=min e0.value arg:=by split<;>omega
   unfold mG;rw[if_neg e,if_neg f,if_neg j,if_pos a,<-this]
  ·have:(if arg>e0.value then arg else e0.value)=max e0.value arg:=by split<;>omega
   unfold mG;rw[if_neg e,if_neg f,if_neg j,if_neg a,if_pos b,<-this]
  ·unfold mG;rw[if_neg e,if_neg f,if_neg j,if_neg a,if_neg b]
end
def SN:nu ZQ 286 3 268 (ub ⟨0,0,0⟩):=⟨kR,kR⟩
def OD{b f g:Type}[BEq b](c:f->g)(d:b):∀a:List (b×f),ay (a.map λe=>(e.1,c e.2)) d=(ay a d).map c
 |[]=>rfl
 |(e,h)::a=>by
  simp only[QY];unfold ay;split
  ·rfl
  ·exact OD c d a
def OE{d e h:Type}[BEq d](b:e->h)(f:d)(g:e):∀c:List (d×e),aJ (c.map λa=>(a.1,b a.2)) f (b g)=(aJ c f g).map λa=>(a.1,b a.2)
 |[]=>rfl
 |(a,i)::c=>by
  simp only[QY];unfold aJ;split
  ·simp
  ·simp[OE b f g c]
section
variable {w w':World} {p r:Nat} {R:ef}
def ef.add_def(r:ef)(e:df)(b:Int):r.add e b=match Ie r.p e.ev b with
  |none=>r
  |some a=>if e.void||e.ev.bd !=r.p.bd||e.ev.field !=r.p.field then r else
   {r with rows:=aJ r.rows a ⟨a,mG r.p ⟨a,((ay r.rows a).getD ⟨0,0,0⟩).value,pH (((ay r.rows a).getD ⟨0,0,0⟩).count+1)⟩ e.ev.arg,pH (((ay r.rows a).getD ⟨0,0,0⟩).count+1)⟩}:=rfl
def IF:aN 0:=by unfold aN;omega
def Wq{arg:Int}(a:ep.Ok e0)(b:aN arg):aN (mG d9 e0 arg):=by
 obtain⟨d,e,c⟩:=a;unfold mG;split;exact c;split;exact NU _;split;exact b;split
 ·unfold aN at*;omega
 split
 ·unfold aN at*;omega
 ·exact IF
def Ro(j:lO w p r R)(a1:p≠r){x:df}(y:x.ev.Ok)(a2:aN e):Calls ZQ 201 #[ZX p,GP x d a c,QH e] w (Ok λm w'=>m= .tuple #[]/\lO w' p r (R.add x e)/\aj (·=r) w w'):=by
 have b1:=aC j.at';have b2:=j.map.lt;refine AA (PA.mk λw1 M s1 N=>Wr (cs:=aE x.ev d a c) (bg _ _ _ _) N (λa3 m O=>?_) (PC.ok (MP (j.af M)) ?_))
 ·rw[Xz]
  have a4:=(Qv.1 O).1;show(aE x.ev d a c++_).toArray[a3]? =_;simp only[List.getElem?_toArray];rw[XW a4];exact O
 rintro _ P ⟨rfl,Q⟩;have n:=M.then Q;have o:=Q.get N id;have s:=j.af n;have g:R.add x e=R->∀i,bE P i->Ok (λm w'=>m= .tuple #[]/\lO w' p r (R.add x e)/\aj (·=r) w w') (.returned (.tuple #[])) i:=λhe i k=>Ok.mk ⟨rfl,by rw[he];exact s.af k.keep,ai.keep (n.then k.keep)⟩;refine⟨_,_,rfl,al.not (al.mk (λz=>?_) (λz=>g ?_))⟩
 rotate_left
 ·rw[ef.add_def,show Ie R.p x.ev e=none by simpa using z]
 obtain⟨f,h⟩:=Option.isSome_iff_exists.1 z;rw[h,Option.getD_some];have t:∀{q:ef},(if x.void||x.ev.bd !=R.p.bd||x.ev.field !=R.p.field then R else
   {R with rows:=aJ R.rows f ⟨f,mG R.p ⟨f,((ay R.rows f).getD ⟨0,0,0⟩).value,pH (((ay R.rows f).getD ⟨0,0,0⟩).count+1)⟩ x.ev.arg,pH (((ay R.rows f).getD ⟨0,0,0⟩).count+1)⟩})=q->R.add x e=q:=λ{q} A=>by
  rw[ef.add_def,h];exact A
 refine⟨_,ae o rfl,al.mk (λl=>g (t (by rw[l];rfl))) (λl=>⟨_,ae o rfl,p,0,rfl,_,ae s.at' rfl,al.dw (λB=>g (t ?_)) (λB=>⟨_,ae o rfl,p,0,rfl,_,ae s.at' rfl,λi k=>?_⟩)⟩)⟩
 ·rw[l,show(x.ev.bd !=R.p.bd)=true by simpa using B];rfl
 have S:(x.ev.bd !=R.p.bd)=false:=by simpa using B
 have u:ai P i:=k.keep;have v:=s.af u;refine al.dw (λC=>g (t (by rw[l,S,show(x.ev.field !=R.p.field)=true by simpa using C];rfl)) i k) (λC=>?_);have a5:(x.ev.field !=R.p.field)=false:=by simpa using C
 have T:aN f:=by
  unfold Ie at h;split at h
  ·cases h;exact y.agg
  split at h
  ·cases h;exact y.arg
  split at h
  ·cases h;exact a2
  ·cases h
 obtain⟨b,E⟩:∃b,b=(ay R.rows f).getD ⟨0,0,0⟩:=⟨_,rfl⟩
 have a6:ep.Ok b:=by
  rw[E]
  cases A:ay R.rows f with
  |none=>exact⟨IF,IF,IF⟩
  |some U=>exact(j.ok _ (cF A)).1
 have a7:(ay (R.rows.map λx=>(x.1,ub x.2)) f).getD (ub ⟨0,0,0⟩)=ub b:=by
  rw[OD,E];cases ay R.rows f<;>rfl
 refine⟨p,0,rfl,_,ae v.at' rfl,AY SN GZ v.map ?_⟩;rw[a7];refine cu (Za b) ⟨rfl,PA.mk λw4 k4 s4 g4=>aD (PM b) g4 rfl λw5 k5 s5 g5=>PS.mk g5 (by simp[bz]) λw6 k6 s6 V=>⟨_,ae V rfl,PS.mk V (by simp[bz]) λw7 k7 s7 W=>?_⟩⟩;have F:ai i w7:=((k4.new k5 λH I=>.inr oM).new k6 λH I=>.inr oM).new k7 λH I=>.inr oM;have a8:=F.get (u.get o id) id;refine aw (cs:=bz ⟨f,b.value,pH (b.count+1)⟩) (PM _) W ⟨_,ae a8 rfl,PC.ok (Qh (v.af F)) ?_⟩;rintro _ w8 ⟨rfl,J⟩;have z8:=J.size;refine⟨_,rfl,PS.mk (J.get W id) (by simp[bz]) λw9 k9 s9 g9=>λX a9=>?_⟩;have Y:ai w9 X:=a9.keep;have Z:ai i X:=((F.then J).new k9 λH I=>.inr oM).then Y;have K:=v.af Z;have z3:=(n.then u).size;refine⟨p,0,rfl,_,ae K.at' rfl,aw (cs:=bz ⟨f,mG R.p ⟨f,b.value,pH (b.count+1)⟩ x.ev.arg,pH (b.count+1)⟩) (PM _) (Y.get g9 id) (jz SN GZ K.map λb3 b0 a0 b4=>Ok.mk ⟨rfl,?_,?_⟩)⟩
 ·rw[t (q:={R with rows:=aJ R.rows f ⟨f,mG R.p ⟨f,b.value,pH (b.count+1)⟩ x.ev.arg,pH (b.count+1)⟩}) (by rw[l,S,a5,E];rfl)]
  refine⟨a0.get K.at' a1,?_,λU L=>?_⟩
  ·rw[<-OE];exact b0
  ·rcases fG L with rfl|L
   ·exact⟨⟨T,Wq ⟨T,a6.2.1,NU _⟩ y.arg,NU _⟩,rfl⟩
   ·exact j.ok U L
 ·exact(ai.keep ((n.then u).then Z)).then a0
end
section
variable {w w':World} {p r:Nat} {R:ef}
def OT(g:lO w p r R):Calls ZQ 250 #[ZX p] w (Ok λh w'=>∃d f,h= ZX d/\lO w' d f R/\d≠f/\w.heap.size<=d/\w.heap.size<=f/\d<w'.heap.size/\f<w'.heap.size/\ai w w'):=by
 refine yj λb j=>?_;have k:ai w b:=j.keep;have u:b.heap.size=w.heap.size:=by rw[j.heap]
 have c:=g.af k;obtain⟨e,a,m,n,o,q⟩:=c.map.at';refine⟨no,p,0,rfl,id,_,_,_,_,_,ae c.at' rfl,ae c.at' rfl,ae c.at' rfl,ae c.at' rfl,ae c.at' rfl,p,0,rfl,_,ae c.at' rfl,PC.ok (φ:=λh w'=>h= .map (some b.heap.size)/\w'=b.alloc (.map e a)) ((AnyW.maps_Clone Tryz.Ws r e a b m).mono ?_) ?_⟩
 ·rintro v w' ⟨rfl,s⟩
  exact Ok.mk ⟨rfl,s⟩
 ·rintro _ x ⟨rfl,rfl⟩
  have l:ai b (b.alloc (.map e a)):=aj.alloc _ _;have y:(b.alloc (.map e a)).heap.size=b.heap.size+1:=sM
  refine⟨_,rfl,ai.keep l,PA.mk λz i A t=>⟨ai.keep i,Ok.mk ⟨_,b.heap.size,rfl,⟨t,⟨⟨e,a,i.get (heap_alloc_new b _) id,n,o,q⟩,g.map.tidy⟩,g.ok⟩,?_⟩⟩⟩;refine⟨oM,oM,oM,oM,oM,(k.then l).then i⟩
end
open Go.ax Go.Sort
def oq{d:Type}{h:Nat}{a:d->List Value}{f:d->Prop}{hl h1}{i:World}{D:Nat->Prop}:∀{b:List d} {cs:List Value},bT (flat h a f hl h1) i D b cs↔cs=b.flatMap a/\∀x∈b,f x
 |[],cs=>by simp[bT]
 |x::b,cs=>by
  constructor
  ·rintro⟨m,n,rfl,⟨rfl,j⟩,k⟩
   obtain⟨rfl,l⟩:=oq.1 k;exact⟨rfl,λe c=>by rcases Q2.1 c with rfl|c;exact j;exact l e c⟩
  ·rintro⟨rfl,g⟩
   exact⟨a x,b.flatMap a,rfl,⟨rfl,g x (QV ..)⟩,oq.2 ⟨rfl,λe c=>g e (QJ _ c)⟩⟩
section
variable {α:Type} {enc:α->List Value} {K:Nat}
def gB(c:∀b,(enc b).length=K)(a:List α):(a.flatMap enc).length=a.length*K:=by
 induction a with
 |nil=>simp
 |cons b a d=>rw[List.flatMap_cons,QX,d,c,Xq,X7];omega
def lk[Inhabited α](h:0<K)(c:∀e,(enc e).length=K){b:List α}(f:a<b.length*K):(b.flatMap enc)[a]? =(enc b[a/K]!)[a % K]? :=by
 induction b generalizing a with
 |nil=>simp at f
 |cons e b i=>
  rw[List.flatMap_cons]
  by_cases d:a<K
  ·rw[XW (by rw[c];exact d),Nat.div_eq_of_lt d,Nat.mod_eq_of_lt d];rfl
  ·rw[Xq,X7]at f
   rw[X8 (by rw[c];omega),c,i oM];obtain⟨g,rfl⟩:∃g,a=g+K:=⟨a-K,oM⟩
   rw[Nat.add_sub_cancel,Nat.add_div_right _ h,Nat.add_mod_right];simp
def zS[Inhabited α](e:0<K)(d:∀h,(enc h).length=K)(a:List α):(flatK enc K a.toArray).toList=a.flatMap enc:=by
 apply X3;intro b
 by_cases c:b<a.length*K
 ·rw[lk e d c]
  have i:b<(flatK enc K a.toArray).size:=by simpa using c
  have f:=get_flatK enc K a.toArray b (by simpa using c);rw[getElem!_pos _ b i]at f;have g:b % K<(enc a[b/K]!).length:=by rw[d];exact Nat.mod_lt _ e
  rw[Qq (by simpa using c),Qq g]
  congr 1
  rw[Array.getElem_toList,f];rw[getElem!_pos _ _ (by simpa using g)]
  congr 1
  simp
 ·rw[Q7 (by simpa using c),Q7 (by rw[gB d];omega)]
end
instance:Inhabited ep:=⟨⟨0,0,0⟩⟩
def WN(b:ep):∀c∈bz b,c.oneCell'=true:=by
 intro d a;simp only[bz,Q2,List.not_mem_nil,or_false]at a;rcases a with rfl|rfl|rfl<;>rfl
def pD(a:ep):(bz a).length=3:=rfl
def DW(a b:ep):Int:=if a.group<b.group then-1 else 1
def Bh(a b:ep):ltOf DW a b=decide (a.group<b.group):=by
 unfold ltOf DW
 by_cases c:a.group<b.group<;>simp[c]
def Yi:SWO (ltOf DW) where
 irrefl x:=by rw[Bh];simp
 trans x y z h1 h2:=by rw[Bh]at*;simp at*;omega
 ntrans x y z h1 h2:=by rw[Bh]at*;simp at*;omega
variable{g5:List ep}{f:Nat->Prop}{b:World}
def WO{d e:ep}:Calls ZQ 396 #[.agg (bz d).toArray,.agg (bz e).toArray] b (Ok λg h=>g= QH (DW d e)/\G b h):=by
 refine uS (PA.Yg λk f l i=>PA.Yg λm a n j=>⟨_,ae ((a.keep (S:=λ_=>False)).get i id) rfl,_,ae j rfl,al.dec (λc=>Ok.mk ⟨?_,f.then a⟩) (λc=>Ok.mk ⟨?_,f.then a⟩)⟩)
 ·unfold DW;rw[if_pos c]
 ·unfold DW;rw[if_neg c]
def Qe(m:aV IN 268 f b d a c g5)(C:g5.length<=20000000):
  Calls ZQ 395 #[.slice d a c,.func (.func 396) #[] #[]] b (Ok λM s=>M= .tuple #[]/\∃E:List ep,E.Perm g5/\(E.Pairwise λt N=>¬N.group<t.group)/\aV IN 268 f s d a c E/\aj (λu=>aI d=some u) b s):=by
 obtain⟨cs,D,y,Y,Z⟩:=m.body;obtain⟨rfl,O⟩:=oq.1 Y;obtain⟨e,z⟩:∃e,e=g5:=⟨g5,rfl⟩
 rw[<-z]at y O;have F:=m.len dC;have v:e.length=a:=by rw[F,<-z]
 rcases y.cases with⟨rfl,rfl,rfl,h0⟩|⟨i,j,rfl,w,P,H,Q⟩
 ·have hd:e=[]:=QW v
  refine(AnyF.slices_SortFunc_none Tryz.VA none 0 _ b).mono ?_;rintro A s ⟨rfl,rfl⟩;exact Ok.mk ⟨rfl,g5,List.Perm.refl _,by rw[<-z,hd];exact List.Pairwise.nil,m,aj.refl _⟩
 ·have R:IN.k=3:=rfl
  rw[R]at Q H;have a5:flatK bz 3 e.toArray=(e.flatMap bz).toArray:=by rw[<-zS (show 0<3 by decide) pD]
  have hH:HoldsK bz 3 b i 0 e.toArray:=by
   intro k o;rw[size_flatK]at o;simp only[List.size_toArray]at o;have S:k<(e.flatMap bz).length:=by rw[gB pD];exact o
   refine⟨?_,by simp[World.frozen?,w]⟩;have p:(flatK bz 3 e.toArray)[k]! =(e.flatMap bz)[k]:=by
    rw[a5,getElem!_pos _ k (by simpa using S)];simp
   rw[p,Xz];refine ae w ?_;have l:(j.toList.take (a*3))[k]? =some (e.flatMap bz)[k]:=by rw[Q];exact Qq S
   rw[Xw,if_pos oM]at l;simpa using l
  have C:=y.row;have I:c<=maxLen:=by
   obtain⟨_,a0,_,T,_,_,_,I,_⟩:=y.row.2.resolve_left (by rintro⟨m,_⟩;cases m);simp only[XX]at T;rw[T.2.2];exact I
  have a6:e.toArray.size<4611686018427387904:=by
   simp only[List.size_toArray,v];omega
  have U:=AnyQ.slices_SortFunc Tryz.VA 3 (λb=>dA _ _ _ kR ⟨_,Tryz.underlying268⟩ b) (λb=>Tryz.sizeOf268 b) bz (λ_=>rfl) WN (DW) Yi 396 #[] i 0 c e.toArray b
   (enters_of Tryz.func396 kR rfl) (λa9 q dk b0 t N=>(WO).mono ?_) hH (aC w) a6
  ·rw[show e.toArray.size=a by simpa using v]at U
   refine U.mono ?_;rintro A s ⟨rfl,h,x,q,hp,hs,rfl⟩;obtain⟨p1,p2,V⟩:=hp;have g:h.size=a:=p1.trans (by simpa using v);have W:h.toList.Perm e:=by
    have p:h.extract 0 a=h:=by rw[<-g];exact Array.extract_size
    have l:e.toArray.extract 0 a=e.toArray:=by rw[show a=e.toArray.size by simpa using v.symm];exact Array.extract_size
    rw[p,l]at V;exact V
   have a2:flatK bz 3 h=(h.toList.flatMap bz).toArray:=by rw[<-zS (show 0<3 by decide) pD]
   have J:(sortWorldK bz 3 b i 0 x h q).heap[i]? =some (.cells (putCells id 0 (flatK bz 3 h) j) 268 (0,0)):=by
    have a7:=aC w;show((Sort.ahead b x).heap.modify i _++q)[i]? =_;rw[Array.getElem?_append_left (by simpa[Sort.ahead]using a7),Array.getElem?_modify,if_pos rfl];show Option.map _ b.heap[i]? =_;rw[w];rfl
   have B:aj (λu=>aI (ZZ i)=some u) b (sortWorldK bz 3 b i 0 x h q):=by
    refine⟨rfl,rfl,rfl,?_,λa1 B F=>?_⟩
    ·show b.heap.size<=((Sort.ahead b x).heap.modify i _++q).size
     simp[Sort.ahead]
    ·show((Sort.ahead b x).heap.modify i _++q)[a1]? =_
     rw[Array.getElem?_append_left (by simpa[Sort.ahead]using B),Array.getElem?_modify,if_neg (λA=>F (by rw[A];rfl))]
     rfl
   have a3:(putCells id 0 (flatK bz 3 h) j).size=c*3:=by unfold putCells;rw[Array.size_mapIdx];exact H
   refine Ok.mk ⟨rfl,h.toList,by rw[<-z];exact W,?_,⟨⟨h.toList.flatMap bz,D,⟨⟨?_,.inr ⟨i,c,_,rfl,Qj _,J,P,I,a3,?_⟩⟩⟩,oq.2 ⟨rfl,λt hx=>?_⟩,Z⟩,m.self,λu C=>Qk (m.aF u C) B.size⟩,B⟩
   ·rw[List.pairwise_iff_getElem]
    intro X k hi o a8;have p:=hs X k (Qj _) a8 (by simpa[g]using o);rw[Bh,getElem!_pos _ k (by simpa using o),getElem!_pos _ X (by simpa using hi)]at p;simpa using p
   ·rw[gB pD,XK,g];rfl
   ·apply X3
    intro r;rw[R,Xw];split
    ·rename_i n
     rw[lk (show 0<3 by decide) pD (by rw[XK,g];exact n),<-lk (show 0<3 by decide) pD (by rw[XK,g];exact n)];unfold putCells;have a4:r<j.size:=by rw[H];exact Qk n (Q0 _ P)
     rw[Array.getElem?_toList,Array.getElem?_mapIdx,X6 a4];simp only[Option.map_some];have K:r<(flatK bz 3 h).size:=by rw[size_flatK,g];exact n
     rw[if_pos ⟨Qj _,by rw[Xz];exact K⟩,Nat.sub_zero,getElem!_pos _ r K];have:(flatK bz 3 h)[r]=(h.toList.flatMap bz)[r]'(by rw[gB pD,XK,g];exact n):=by
      have l:=congrArg (·[r]?) a2;simp only[List.getElem?_toArray]at l;rw[X6 K,Qq (by rw[gB pD,XK,g];exact n)]at l;exact XJ l
     rw[this];exact(Qq _).symm
    ·rename_i n
     rw[Q7 (by rw[gB pD,XK,g];omega)]
   ·have L:t∈e:=W.mem_iff.1 hx
    exact O t L
  ·rintro A s ⟨M,rfl,rfl,hG⟩
   exact⟨rfl,hG⟩
end Go.Proofs.YtfchlbaidamodaaGreatDoor
namespace Go.ax
open Go
structure bS (w:World) (F:Nat->Prop) (cls:Nat->Nat) (C:Nat->World->(Nat->Prop)->Prop):Prop where
 at':∀k,C k w (λb=>F b/\cls b=k)
 aF:∀b,F b->b<w.heap.size
def vC(a:Nat->World->(Nat->Prop)->Prop):Prop:=∀b c d G e,a b c G->aj e c d->(∀f,G f->¬e f)->a b d G
section
variable {w w':World} {F T:Nat->Prop} {cls:Nat->Nat} {C C2:Nat->World->(Nat->Prop)->Prop}
def bS.keep(c:bS w F cls C)(f:vC C)(d:aj T w w')(g:∀a,F a->¬T a):bS w' F cls C:=
 ⟨λe=>f e w w' _ T (c.at' e) d λa b=>g a b.1,λa b=>Qk (c.aF a b) d.size⟩
def bS.af(a:bS w F cls C)(b:vC C)(c:ai w w'):bS w' F cls C:=a.keep b c λ_ _ a=>a
def bS.II(i:bS w F cls C)(n:vC C){k:Nat}{G':Nat->Prop}(h:aj (λa=>F a/\cls a=k) w w')(o:∀a,G' a->F a->cls a=k)(p:∀a,G' a->a<w'.heap.size)(q:C2 k w' G')(r:∀c G,c≠k->C c w' G->C2 c w' G):∃g d,bS w' g d C2/\aj F w w'/\(∀a,g a->((F a/\cls a≠k)\/G' a))/\(∀c,c≠k->(λa=>g a/\d a=c)=λa=>F a/\cls a=c)/\(λa=>g a/\d a=k)=G':=by
 classical
 have j:∀c,c≠k->(λa=>((F a/\cls a≠k)\/G' a)/\(if G' a then k else cls a)=c)=λa=>F a/\cls a=c:=λc f=>by
  funext a
  refine propext ⟨λb=>?_,λb=>?_⟩
  ·by_cases e:G' a
   ·rw[if_pos e]at b;exact absurd b.2.symm f
   ·rw[if_neg e]at b
    exact⟨(b.1.resolve_right e).1,b.2⟩
  ·have l:cls a≠k:=λs=>f (b.2.symm.trans s)
   rw[if_neg λe=>l (o a e b.1)];exact⟨.inl ⟨b.1,l⟩,b.2⟩
 have m:(λa=>((F a/\cls a≠k)\/G' a)/\(if G' a then k else cls a)=k)=G':=by
  funext a
  refine propext ⟨λb=>?_,λb=>⟨.inr b,if_pos b⟩⟩
  by_cases e:G' a
  ·exact e
  ·rw[if_neg e]at b;exact absurd b.2 (b.1.resolve_right e).2
 refine⟨λa=>(F a/\cls a≠k)\/G' a,λa=>if G' a then k else cls a,⟨λc=>?_,λa b=>?_⟩,h.mono λa _ b=>b.1,λa b=>b,j,m⟩
 ·by_cases f:c=k
  ·subst f
   rw[m];exact q
  ·rw[j c f]
   refine r c _ f (n c w w' _ _ (i.at' c) h λa b t=>f (b.2.symm.trans t.2))
 ·rcases b with b|b
  ·exact Qk (i.aF a b.1) h.size
  ·exact p a b
def bS.fr(e:bS w F cls C)(j:vC C){k:Nat}{G':Nat->Prop}(l:aj (λa=>F a/\cls a=k) w w')(g:∀a,G' a->(F a/\cls a=k)\/w.heap.size<=a)(m:∀a,G' a->a<w'.heap.size)(f:C2 k w' G')(n:∀c G,c≠k->C c w' G->C2 c w' G):∃d b,bS w' d b C2/\de F w d w'/\(∀a,d a->((F a/\cls a≠k)\/G' a))/\(∀c,c≠k->(λa=>d a/\b a=c)=λa=>F a/\cls a=c)/\(λa=>d a/\b a=k)=G':=by
 obtain⟨d,b,h,f,i,o⟩:=e.II j l (λa p q=>(g a p).elim (·.2) λh=>by have:=e.aF a q;omega) m f n;exact⟨d,b,h,⟨f,λa r=>(i a r).elim (λe=>.inl e.1) λe=>(g a e).imp (·.1) id⟩,i,o⟩
def bS.same(e:bS w F cls C)(g:vC C){k:Nat}(f:aj (λa=>F a/\cls a=k) w w')(h:C2 k w' (λa=>F a/\cls a=k))(i:∀b G,b≠k->C b w' G->C2 b w' G):bS w' F cls C2:=
 ⟨λb=>by
  by_cases c:b=k
  ·subst c;exact h
  ·exact i b _ c (g b w w' _ _ (e.at' b) f λa d j=>c (d.2.symm.trans j.2)),λa d=>Qk (e.aF a d) f.size⟩
def bS.Ec(f:bS w F cls C)(g:vC C){k:Nat}{G':Nat->Prop}(e:de (λa=>F a/\cls a=k) w G' w')(h:∀a,G' a->a<w'.heap.size)(i:C2 k w' G')(j:∀c G,c≠k->C c w' G->C2 c w' G):∃d b,bS w' d b C2/\de F w d w'/\(∀a,d a->((F a/\cls a≠k)\/G' a))/\(∀c,c≠k->(λa=>d a/\b a=c)=λa=>F a/\cls a=c)/\(λa=>d a/\b a=k)=G':=f.fr g e.1 e.2 h i j
def bS.join{G:Nat->Nat->Prop}(c:∀a,C a w (G a))(i:∀f g b,G f b->G g b->f=g)(j:∀a b,G a b->b<w.heap.size):∃cls,bS w (λb=>∃a,G a b) cls C:=by
 classical
 refine⟨λb=>if c:∃a,G a b then c.choose else 0,⟨λa=>?_,λb ⟨a,d⟩=>j a b d⟩⟩;have:(λb=>(∃a,G a b)/\(if c:∃a,G a b then c.choose else 0)=a)=G a:=by
  funext b
  refine propext ⟨λ⟨e,h⟩=>?_,λd=>⟨⟨a,d⟩,?_⟩⟩
  ·rw[dif_pos e]at h;exact h▸e.choose_spec
  ·have e:∃a,G a b:=⟨a,d⟩
   rw[dif_pos e];exact i _ _ b e.choose_spec d
 rw[this];exact c a
end
end Go.ax
namespace Go.Proofs.YtfchlbaidamodaaGreatDoor
open Go.ax
def XS:kM Nat:=flat 1 (λb=>[ZX b]) (λ_=>True) (λ_=>rfl) (λc d a=>by simp at a;subst a;rfl)
def Rl:jP ZQ 217 224 1 8:=⟨kR,kR,dC⟩
structure cU (w:World) (G:Nat->Prop) (a:Option Addr) (n c:Nat) (Rs:List ef):Prop where
 body:∃ps:List (Nat×Nat),ps.length=Rs.length/\aV XS 224 (λb=>aI a=some b) w a n c (ps.map (·.1))/\
  (∀(i j:Nat) (x y:Nat×Nat),ps[i]? =some x->ps[j]? =some y->x.1≠y.2/\(x.2=y.2->i=j))/\(∀x∈ps,G x.1/\G x.2/\aI a≠some x.1/\aI a≠some x.2)/\
  ∀(i:Nat) (x:Nat×Nat) (R:ef),ps[i]? =some x->Rs[i]? =some R->lO w x.1 x.2 R
 self:∀b,aI a=some b->G b
variable{F:Nat×Nat}{h:Program}{g q:TypeId}{o u:Value->World->Prop}
section
variable {w w':World} {G G' T:Nat->Prop} {a:Option Addr} {n c:Nat} {Rs:List ef}
def cU.keep(d:cU w G a n c Rs)(i:aj T w w')(e:∀b,G b->¬T b):cU w' G a n c Rs:=by
 obtain⟨j,k,l,m,f,o⟩:=d.body;exact⟨⟨j,k,l.keep i λb p=>e b (d.self b p),m,f,λq g r h s=>(o q g r h s).keep i (e _ (f g (QZ h)).1) (e _ (f g (QZ h)).2.1)⟩,d.self⟩
def cU.af(b:cU w G a n c Rs)(d:ai w w'):cU w' G a n c Rs:=b.keep d λ_ _ b=>b
def cU.mono(h:cU w G a n c Rs)(d:∀b,G b->G' b):cU w G' a n c Rs:=by
 obtain⟨i,j,k,l,e,m⟩:=h.body;exact⟨⟨i,j,k,l,λf g=>⟨d _ (e f g).1,d _ (e f g).2.1,(e f g).2.2⟩,m⟩,λb o=>d b (h.self b o)⟩
def cU.len(b:cU w G a n c Rs):n=Rs.length:=by
 obtain⟨f,d,e,-⟩:=b.body;rw[e.len dC,Q8,d]
def cU.nil(w:World):cU w (λ_=>False) none 0 0 []:=⟨⟨[],rfl,(aV.nil w).mono (λb a=>a.elim) (λb a=>by cases a),sM,sM,sM⟩,λb a=>by cases a⟩
def cU.elem(o:cU w G a n c Rs){b:Nat}{p:ef}(v:Rs[b]? =some p):∃g f h,a=ZZ g/\w.cell? ⟨g,0+b,none⟩=some (ZX f)/\lO w f h p/\f≠h/\G f/\G h/\G g/\
  ∀w' q,aj (·=h) w w'->lO w' f h q->cU w' G a n c (Rs.set b q):=by
 obtain⟨i,C,x,k,y,z⟩:=o.body;have M:=(Qv.1 v).1;have d:i[b]? =some i[b]:=Qq oM;generalize i[b]=e at d;obtain⟨cs,D,E,F,N⟩:=x.body;have r:=y e (QZ d);obtain⟨rfl,-⟩:=oq.1 F;have H:((i.map (·.1)).flatMap λf=>[Value.pointer (ZZ f)])[b]? =some (ZX e.1):=by
  rw[lk (K:=1) dC (λ_=>rfl) (by simp;omega),Nat.div_one,Nat.mod_one,getElem!_pos _ b (by simp;omega)];simp[(Qv.1 d).2]
 obtain⟨g,A,I⟩:=E.cell H;refine⟨g,e.1,e.2,A,by rw[Xz];exact I.2,z b e p d v,(k b b e e d d).1,r.1,r.2.1,o.self g (by rw[A];rfl),λw' q B J=>⟨⟨i,by simpa using C,x.keep B λO K s=>r.2.2.2 (s▸K),k,y,λl t L j m=>?_⟩,o.self⟩⟩
 by_cases u:b=l
 ·subst u
  rw[d]at j;cases j
  rw[List.getElem?_set_self oM]at m;cases m
  exact J
 ·rw[List.getElem?_set_ne u]at m
  exact(z l t L j m).keep B (k l b t e j d).1 λs=>u ((k b l e t d j).2 s.symm)
def cU.push(s:cU w G a n c Rs)(K:∀b,G b->b<w.heap.size){f i O:Nat}{P:ef}(L:lO w f i P)(Q:¬G f)(z:¬G i)(X:f≠i)(Y:jP h g 224 1 8)(Z:w.heap[O]? =some (.cells #[ZX f] 224 F))(d:Rs.length<=1000)(M:∀l A w' G',cU w' G' l (n+1) A (Rs++[P])->aj G w w'->(∀b,G' b->G b\/b=f\/b=i\/w.heap.size<=b)->(∀b,G' b->b<w'.heap.size)->o (.slice l (n+1) A) w'):
  aH h (Builtin.append_ #[g,g] q #[.slice a n c,.slice (ZZ O) 1 1]) w o u:=by
 obtain⟨m,p,N,h3,C,h5⟩:=s.body;have a1:f<w.heap.size:=aC L.at';have a2:i<w.heap.size:=L.map.lt;refine fh N Y Z (D:=λ_=>False) (x:=f) ⟨rfl,trivial⟩ (λb d=>d.elim) (by unfold aQ;simp;omega) (by unfold maxLen;simp;omega) λl A w' F' R H hF=>?_;have a0:∀b,aI l=some b->aI a=some b\/w.heap.size<=b:=λb d=>(hF b (R.self b d)).imp id λs=>s.resolve_left id;have t:=R.alone;have a5:=H.size;have S:∀b,aI l=some b->aI a=some b\/w.heap.size<=b:=a0;have I:∀b,b<w.heap.size->aI a≠some b->aI l≠some b:=λb d p N=>(S b N).elim p oM;have T:aI a≠some f:=λk=>Q (s.self f k);have U:aI a≠some i:=λk=>z (s.self i k);refine M l A w' (λb=>(G b\/b=f\/b=i\/aI l=some b)) ⟨⟨m++[(f,i)],by simp[p],by rw[Q3];exact t,λj V x v B J=>?_,λx B=>?_,λj x a3 B r=>?_⟩,λb d=>.inr (.inr (.inr d))⟩ (H.mono λb _ d=>s.self b d) (λb d=>?_) λb d=>?_
 ·have E:∀j x,(m++[(f,i)])[j]? =some x->(m[j]? =some x)\/(j=m.length/\x=(f,i)):=λj x B=>by
   rw[List.getElem?_append]at B;split at B
   ·exact .inl B
   ·rename_i W
    have:j-m.length=0:=by
     rcases Nat.eq_zero_or_pos (j-m.length)with y|y
     ·exact y
     ·rw[Q7 (by simp;omega)]at B;cases B
    rw[this]at B;simp at B;exact .inr ⟨oM,B.symm⟩
  rcases E j x B with B|⟨rfl,rfl⟩<;>rcases E V v J with J|⟨rfl,rfl⟩
  ·exact h3 j V x v B J
  ·have e:=C x (QZ B)
   exact⟨λk=>z ((show x.1=i from k)▸e.1),λk=>absurd ((show x.2=i from k)▸e.2.1) z⟩
  ·have e:=C v (QZ J)
   exact⟨λk=>Q ((show f=v.2 from k)▸e.2.1),λk=>absurd ((show i=v.2 from k)▸e.2.1) z⟩
  ·exact⟨X,λ_=>rfl⟩
 ·rcases Q6.1 B with B|B
  ·have e:=C x B
   exact⟨.inl e.1,.inl e.2.1,I _ (K _ e.1) e.2.2.1,I _ (K _ e.2.1) e.2.2.2⟩
  ·simp at B;subst B
   exact⟨.inr (.inl rfl),.inr (.inr (.inl rfl)),I _ a1 T,I _ a2 U⟩
 ·rw[List.getElem?_append]at B r
  rw[<-p]at r;split at B
  ·rename_i a4
   rw[if_pos a4]at r;have e:=C x (QZ B);exact(h5 j x a3 B r).keep H e.2.2.1 e.2.2.2
  ·rename_i W
   rw[if_neg W]at r;have:j-m.length=0:=by
    rcases Nat.eq_zero_or_pos (j-m.length)with y|y
    ·exact y
    ·rw[Q7 (by simp;omega)]at B;cases B
   rw[this]at B r;simp at B r;subst B r;exact L.keep H T U
 ·rcases d with d|d|d|d
  ·exact .inl d
  ·exact .inr (.inl d)
  ·exact .inr (.inr (.inl d))
  ·rcases S b d with p|p
   ·exact .inl (s.self b p)
   ·exact .inr (.inr (.inr p))
 ·rcases d with d|d|d|d
  ·have:=K b d;omega
  ·omega
  ·omega
  ·exact t.aF b d
def Zh:kM (List ef) where
 k:=2
 rep:=λw D Rs cs=>∃b a n c,cs=[.pointer b,.slice a n c]/\cU w D a n c Rs
 keep:=λ⟨b,a,n,c,d,e⟩ h f=>⟨b,a,n,c,d,e.keep h f⟩
 mono:=λ⟨b,a,n,c,d,e⟩ f=>⟨b,a,n,c,d,e.mono f⟩
 len:=λ⟨b,a,n,c,d,e⟩=>by rw[d];rfl
 one:=λ⟨b,a,n,c,d,e⟩ i g=>by
  rw[d]at g;simp only[Q2,List.not_mem_nil,or_false]at g;rcases g with rfl|rfl<;>rfl
def Xa:jP ZQ 220 219 2 32:=⟨kR,kR,dC⟩
end
def Lf(a:aR)(b:List ah)(c:ah):eN a (b++[c])=(eN a b).add c:=by unfold eN;rw[List.foldl_append];rfl
def Lh(a:aR)(b:List ah)(c:ah):cG a (b++[c])=((cG a b).add c).2:=by unfold cG;rw[List.foldl_append];rfl
def Lg(c:aR)(a:List ah):(eN c a).view=cG c a:=by
 have:∀(a:List ah) (b:kL),(a.foldl kL.add b).view=a.foldl (λe d=>(e.add d).2) b.view:=by
  intro a
  induction a with
  |nil=>intro b;rfl
  |cons d a f=>intro b;rw[List.foldl_cons,List.foldl_cons,f];rfl
 exact this a _
variable{a:Nat}{M:aR}
def IP(e:dd M=0)(b:List ah):(cG M b).OK/\(cG M b).decl=M:=by
 have:∀(b:List ah) (a:bk),a.OK->(b.foldl (λa c=>(a.add c).2) a).OK/\(b.foldl (λa c=>(a.add c).2) a).decl=a.decl:=by
  intro b
  induction b with
  |nil=>intro a d;exact⟨d,rfl⟩
  |cons c b f=>
   intro a d;obtain⟨g,h⟩:=bk.Bn d c;obtain⟨i,j⟩:=f _ g;exact⟨i,j.trans h⟩
 exact this b _ (bk.uk e)
def ef.Xb(b:ef)(c:df)(a:Int):(b.add c a).p=b.p:=by
 unfold ef.add;dsimp only;split
 ·rfl
 ·split<;>rfl
def IH(e:aR)(a:List ah):(eN e a).rows.map (·.p)=e.projs:=by
 have:∀(a:List ah) (b:kL),(a.foldl kL.add b).rows.map (·.p)=b.rows.map (·.p):=by
  intro a
  induction a with
  |nil=>intro b;rfl
  |cons c a f=>
   intro b;rw[List.foldl_cons,f];show((b.rows.map λd=>d.add (b.view.add c).1 (tI ((b.view.add c).2.state c.bd c.agg) d.p)).map (·.p))=_;rw[List.map_map];exact List.map_congr_left λd _=>d.Xb _ _
 refine(this a _).trans ?_;show(e.projs.map λg=>(⟨g,[]⟩:ef)).map (·.p)=_;rw[List.map_map];exact List.map_id _
def qI(a:aR)(b:List ah):(eN a b).rows.length=a.projs.length:=by
 rw[<-IH a b,Q8]
def kY(c:aR)(a:Nat)(b:List ah):List (List ef):=(List.range (b.length/a+1)).map λd=>(eN c (b.take (d*a))).rows
section
variable {d:aR} {every:Nat} {l:List ah}
def Bl:(kY d every l).length=l.length/every+1:=by simp[kY]
def Rq(b:a<=l.length/every):(kY d every l)[a]? =some (eN d (l.take (a*every))).rows:=by
 unfold kY;rw[Q9,List.getElem?_range oM];rfl
def Ru:kY d every []=[(eN d []).rows]:=by
 unfold kY;rw[List.length_nil,Nat.zero_div];simp
def OU(f:0<every)(g:ah):kY d every (l++[g])=if l.length+1=(l.length/every+1)*every then kY d every l++[(eN d (l++[g])).rows]else kY d every l:=by
 have i:=Nat.div_add_mod l.length every;have j:=Nat.mod_lt l.length f;have b:∀a,a<=l.length/every->(l++[g]).take (a*every)=l.take (a*every):=λa c=>by
  have:a*every<=l.length:=Xx (Q0 _ c) (Nat.div_mul_le_self ..);rw[List.take_append_of_le_length this]
 split
 ·rename_i e
  have h:(l.length+1)/every=l.length/every+1:=by rw[e];exact Nat.mul_div_cancel _ f
  unfold kY;rw[QX,List.length_singleton,h,List.range_succ,Q3]
  congr 1
  ·refine List.map_congr_left λa c=>?_
   rw[b a (by have:=List.mem_range.1 c;omega)]
  ·rw[List.map_singleton,<-e,Qz sM]
 ·rename_i e
  have h:(l.length+1)/every=l.length/every:=by
   have k:(l.length+1)/every<l.length/every+1:=by
    rw[Nat.div_lt_iff_lt_mul f];rw[X7,Nat.one_mul,Nat.mul_comm]at e⊢;omega
   have m:l.length/every<=(l.length+1)/every:=Nat.div_le_div_right oM;omega
  unfold kY;rw[QX,List.length_singleton,h];refine List.map_congr_left λa c=>?_;rw[b a (by have:=List.mem_range.1 c;omega)]
def OX(c:0<every)(e:a<=l.length/every):(kY d every l).take (a+1)=kY d every (l.take (a*every)):=by
 have f:a*every<=l.length:=Xx (Q0 _ e) (Nat.div_mul_le_self ..);unfold kY;rw[Qy,X2 f,Nat.mul_div_cancel _ c,<-List.map_take,List.take_range,X2 oM];refine List.map_congr_left λg h=>?_;have b:g<=a:=by have:=List.mem_range.1 h;omega
 rw[List.take_take,X2 (Q0 _ b)]
end
end Go.Proofs.YtfchlbaidamodaaGreatDoor

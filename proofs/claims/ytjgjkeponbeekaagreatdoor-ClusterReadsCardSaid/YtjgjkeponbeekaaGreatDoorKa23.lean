import Derived.Test.YtjgjkeponbeekaaGreatDoorKa22
set_option linter.all false
set_option maxHeartbeats 4000000
set_option maxRecDepth 20000
namespace Go.Proofs.YtjgjkeponbeekaaGreatDoor
open Go.ar
variable{K:List aj}{a c:Nat}{f:Nat->Prop}{d d1 r:Option Addr}{P:aM}{o:aj}
section
variable {w w':World} {p:Nat} {F T D:Nat->Prop} {V:aU} {q:Eh}
abbrev El(a:cy)(b:Option Addr)(c d:Nat):Value:=.agg (gG a b c d).toArray
def Gv(M:b_ w p F V)(hT:eA w)(hr:Row aJ 8 w D d a o.aP)(r:∀b,D b->b<w.heap.size/\¬F b)(he:o.Ok)(e:((aE V.done (o.aS,o.agg,o.field)).getD []).length<=20000000)(N:V.entries.length<=20000000):
  Calls XP 124 #[ZQ p,jA o d a c] w (Ok λW w'=>∃d a c G,W=El (V.add o).1 d a c/\Row aJ 8 w' G d a o.aP/\∃X,b_ w' p X (V.add o).2/\bK F w X w'/\∀b,G b->w.heap.size<=b/\b<w'.heap.size/\¬X b):=by
 have Y:=M.aB;have h3:=Y _ M.self;refine ym (PA.mk λu e6 h4 d1=>PA.mk λh5 Z h6 e7=>?_);have k0:=e6.then Z;refine au (aV o d a c) (Z.get d1 id) (PC.ok (nQ (hr.ah k0) λb e=>by have:=(r b e).1;omega) ?_);rintro _ h7 ⟨a6,n1,c1,G1,rfl,e8,v,O⟩;have a0:=k0.then O;refine bN (ri o a6 n1 c1) ⟨rfl,PC.ok (Ra (M.ah a0) (hT.ah a0) e8 (λb e=>⟨(v b e).2,λk=>by have:=Y b k;have:=v b e;omega⟩) he e) ?_⟩;rintro _ x ⟨rfl,g,b8,P,Q⟩;have h8:=O.size;have h9:=P.size;have b0:∀b,g b->F b\/w.heap.size<=b:=λb e=>by
  rcases Q b e with f|f|f
  ·exact .inl f
  ·have:=v b f;exact .inr oM
  ·exact .inr oM
 have b1:ak F w x:=(ai.af a0).then P;have R:∀{b:Nat},w.heap.size<=b->¬F b:=λ{b} e k=>by have:=Y b k;omega
 have d2:=P.get (O.get (Z.get d1 id) id) (R (Q4 _));have d3:=P.get (O.get e7 id) (R oM);refine⟨_,_,_,rfl,PA.mk λi0 e9 i1 f2=>PS.mk f2 sM λi2 f3 i3 f5=>PS.mk f5 sM λi4 f6 i5 f8=>λy b9=>?_⟩;have B:ai x y:=((e9.new f3 λb e=>.inr oM).new f6 λb e=>.inr oM).then b9.af;have i6:y.heap.size=x.heap.size+1:=by rw[b9.heap];omega
 have a1:y.heap[x.heap.size]? =some (.cells #[XH (V.try o).2.1.1,XH (V.try o).2.1.2] 46 (0,0)):=(b9.af (S:=λ_=>False)).get f8 id;have b2:=B.get d2 id;obtain⟨g9,q,h⟩:=b8.ah B;have c4:=b8.self;have z:=b8.aB;have b3:=((hr.af b1 λb e=>(r b e).2).ah B)
 have a4:(V.try o).2.2.entries=V.entries:=by
  rw[aU.qZ];split;rfl;split;rfl;split<;>rfl
 have i7:=h.NZ.len dC;have C:∀b,aF q.ea=some b->g b/\q.cls b= .NZ:=λb e=>h.NZ.self b e;have E:¬aF q.ea=some p:=λl=>by have f:=(C p l).2;rw[h.lp.2]at f;cases f
 refine⟨λb=>aF q.ea=some b,p,0,rfl,E,_,_,_,ae h.at' rfl,au (aV o d a c) b2 ⟨λl=>by have:=z _ (C _ l).1;omega,_,_,ae a1 rfl,ae a1 rfl,PC.ok (nQ b3 λb e=>by have:=(r b e).1;omega) ?_⟩⟩;rintro _ i8 ⟨a7,n2,c2,G2,rfl,g0,A,c5⟩;have i9:=c5.size;refine⟨_,_,_,_,_,_,_,_,_,_,_,_,rfl,ai.af c5,PA.mk λd4 c6 j0 g1=>⟨ai.af c6,?_⟩⟩;have a2:=c5.then c6;refine eV (c:=vF) (x:=⟨o,(V.try o).1,(V.try o).2.1⟩) (h.NZ.ah a2) QP g1 (D:=G2) ⟨a7,n2,c2,rfl,g0.ah c6,he⟩ (λb e=>⟨by have:=A b e;omega,λl=>by have:=z _ (C _ l).1;have:=A b e;omega⟩) (by rw[a4];unfold aK;omega) (by rw[a4];unfold maxLen;omega) λa' H d5 F2 b4 c7 c8=>⟨_,_,_,rfl,p,0,rfl,?_⟩
 have j1:=c7.size;have d6:=c7.get ((h.ah a2).at') E;refine PS.mk d6 sM λI g2 j2 g3=>λs d7=>?_;have d8:ai I s:=d7.af;have j3:s.heap.size=I.heap.size:=by rw[d7.heap]
 have a5:ak (·=p) d5 s:=g2.ah d8;have k5:ak (λb=>aF q.ea=some b\/b=p) y s:=((ai.af a2).then (c7.mono λb _ e=>.inl e)).then (a5.mono λb _ e=>.inr e);have J:ak g y s:=k5.mono λb _ e=>e.elim (λf=>(C b f).1) λf=>f▸c4;have c9:∀{b:Nat},x.heap.size<=b->¬g b:=λ{b} e k=>by have:=z b k;omega
 have g4:¬g w.heap.size:=λk=>by
  rcases Q _ k with f|f|f
  ·exact R (Q4 _) f
  ·have:=v _ f;omega
  ·omega
 have d0:¬g u.heap.size:=λk=>by
  rcases Q _ k with f|f|f
  ·exact R oM f
  ·have:=v _ f;omega
  ·omega
 have d9:=J.get b2 g4;have e0:=J.get (B.get d3 id) d0;have b5:=J.get a1 (c9 (Q4 _));have e1:∀b,D b->¬g b:=λb e k=>by
  rcases Q _ k with f|f|f
  ·exact(r b e).2 f
  ·have:=v _ f;have:=(r b e).1;omega
  ·have:=(r b e).1;omega
 have e2:=b3.af J e1;have j4:=k5.size;refine⟨λb=>b=u.heap.size,au (aV o d a c) d9 ⟨oM,_,_,ae b5 rfl,ae b5 rfl,PC.ok (nQ e2 λb e=>by have:=(r b e).1;omega) ?_⟩⟩;rintro _ j5 ⟨a3,n3,c3,G3,rfl,g5,e3,K⟩;have j6:=K.size;refine⟨_,_,_,_,_,_,_,_,_,_,_,_,rfl,ai.af K,az (kW ⟨o,(V.try o).1,(V.try o).2.1⟩ a3 n3 c3) (K.get e0 id) rfl λe4 S j7 g6=>⟨S,au (kW ⟨o,(V.try o).1,(V.try o).2.1⟩ a3 n3 c3) g6 (Ok.mk ⟨a3,n3,c3,G3,rfl,g5.af S λb e l=>by have:=e3 b e;omega,λb=>b<I.heap.size/\(g b\/G2 b\/d4.heap.size<=b),?_,⟨?_,?_⟩,?_⟩)⟩⟩
 ·have g7:=(aU.zy (by
   have:V.OK:=M.1;exact this) o).1
  have T:ak (λb=>b=u.heap.size) s e4:=(ai.af K).then S;have zc:=T.size;have g8:∀b,g b->b<I.heap.size:=λb e=>by have:=z b e;omega
  classical
  have e5:∀b,g b->(if g b then q.cls b else IM.NZ)=q.cls b:=λb e=>if_pos e;have L:ak (λb=>(aF q.ea=some b\/b=p)\/b=u.heap.size) y e4:=(k5.mono λb _ e=>.inl e).then (T.mono λb _ e=>.inr e);have i:∀(n:IM) b,n≠.NZ->n≠.self->g b/\q.cls b=n->¬((aF q.ea=some b\/b=p)\/b=u.heap.size):=λn b f U e m=>by
   rcases m with(m|m)|m
   ·exact f (e.2.symm.trans (C b m).2)
   ·subst m;exact U (e.2.symm.trans h.lp.2)
   ·subst m;exact d0 e.1
  have j:∀(n:IM) b,g b/\q.cls b=n->((b<I.heap.size/\(g b\/G2 b\/d4.heap.size<=b))/\(if g b then q.cls b else IM.NZ)=n):=λn b e=>⟨⟨g8 b e.1,.inl e.1⟩,(e5 b e.1).trans e.2⟩
  refine⟨g7,⟨q.ta,q.tn,q.tc,q.pa,q.pn,q.pc,a',q.en+1,H,q.r1,q.r2,q.l1,q.l2,λb=>if g b then q.cls b else IM.NZ⟩,?_,?_,?_,?_,?_,?_,?_,λb e=>by have:=e.1;omega,j _ _ h.lp,j _ _ h.l1,j _ _ h.l2⟩
  ·exact T.get (d8.get g3 id) oM
  ·exact(h.QU.af L λb e=>i _ b sM sM e).mono (j _)
  ·have N:∀b,F2 b->b<d5.heap.size/\b≠u.heap.size/\b≠p:=λb e=>by
    refine⟨b4.aB b e,λl=>?_,λl=>?_⟩
    ·rcases c8 b e with f|f|f
     ·exact d0 (l▸f.1)
     ·have:=A b f;omega
     ·omega
    ·rcases c8 b e with f|f|f
     ·have U:=f.2;rw[l,h.lp.2]at U;cases U
     ·have:=A b f;have:=z p c4;omega
     ·have:=z p c4;omega
   have:(V.add o).2.entries=(V.try o).2.2.entries++[⟨o,(V.try o).1,(V.try o).2.1⟩]:=rfl;rw[this];refine((b4.af a5 λb e=>(N b e).2.2).af T λb e=>(N b e).2.1).mono (λb e=>?_) λb e=>by have:=e.1.1;omega
   have h0:=(N b e).1;rcases c8 b e with f|f|f
   ·exact j _ b f
   ·have:=A b f
    refine⟨⟨oM,.inr (.inl f)⟩,?_⟩;show(if g b then _ else _)=_;rw[if_neg (c9 oM)]
   ·refine⟨⟨oM,.inr (.inr f)⟩,?_⟩
    show(if g b then _ else _)=_;rw[if_neg (c9 oM)]
  ·exact h.st.af L (i _ _ sM sM h.l1)
  ·refine h.VD.mono λW a8 t=>?_
   obtain⟨x1,x2,x3,rfl,t⟩:=t;exact⟨x1,x2,x3,rfl,(t.af L λb e=>i _ b sM sM e).mono (j _)⟩
  ·exact h.dn.af L (i _ _ sM sM h.l2)
  ·refine h.VO.mono λa9 W a8 t=>?_
   obtain⟨x1,x2,x3,rfl,t⟩:=t;exact⟨x1,x2,x3,rfl,(t.af L λb e=>i _ b sM sM e).mono (j _) λb e=>by have:=e.1.1;omega⟩
 ·have k1:ak g x s:=(ai.af B).then J
  exact((b1.new k1 b0).ah K).new S λb e=>.inr oM
 ·intro b e
  rcases e.2 with f|f|f
  ·exact b0 b f
  ·have:=A b f;exact .inr oM
  ·exact .inr oM
 ·intro b e
  have:=e3 b e;refine⟨oM,oM,λm=>by have:=m.1;omega⟩
def En(f:aM):∀(c:List aj) (a:aU) (b:Int×Int×Int),(((aE (c.foldl (λa e=>(a.add e).2) a).done b).getD []).length<=((aE a.done b).getD []).length+c.length)/\(c.foldl (λa e=>(a.add e).2) a).entries.length=a.entries.length+c.length
 |[],a,b=>by simp
 |e::c,a,b=>by
  rw[List.foldl_cons];obtain⟨g,h⟩:=En f c (a.add e).2 b;have k:((aE (a.add e).2.done b).getD []).length<=((aE a.done b).getD []).length+1:=by
   show((aE (a.try e).2.2.done b).getD []).length<=_;rw[aU.qZ];split
   ·simp
   split
   ·simp
   split
   ·simp
   ·simp only
    rw[qT];split
    ·rename_i i
     have d:b=(e.aS,e.agg,e.field):=by simpa using i
     rw[d];simp
    ·simp
  have j:(a.add e).2.entries.length=a.entries.length+1:=by
   show((a.try e).2.2.entries++[_]).length=_;have:(a.try e).2.2.entries=a.entries:=by rw[aU.qZ];split;rfl;split;rfl;split<;>rfl
   rw[this];simp
  refine⟨?_,by rw[h,j];simp;omega⟩;simp only[Xq]at g⊢;omega
def Gu{tn M s N k O:Nat}(Q:cN P=0)(R:eA w)(S:bb w D P d tn r s)(T:∀a,D a->a<w.heap.size)(t:Row jj 96 w f d1 k K)(u:∀a,f a->a<w.heap.size)(c:K.length<=20000000):
  Calls XP 79 #[.agg #[.slice d tn M,.slice r s N],.slice d1 k O] w (Ok λU w'=>∃p F,U= ZQ p/\b_ w' p F (cm P K)/\(∀a,F a->w.heap.size<=a)/\ai w w'):=by
 refine JQ (PA.mk λw1 v s1 x=>⟨_,_,_,_,_,_,ae x rfl,ae x rfl,PC.ok (GC Q (S.ah v) λa c=>by have:=T a c;omega) ?_⟩);rintro _ w9 ⟨p,V,rfl,g,W,y⟩;have a9:=t.len;have X:=v.then y;have z9:=y.size;refine⟨_,rfl,λz q w'=>∃b:Nat,q=b/\b<=k/\z=k-b/\∃F,b_ w' p F (cm P (K.take b))/\(∀a,F a->w.heap.size<=a)/\ai w w',⟨_,0,rfl,Qj _,rfl,V,g,λa c=>by have:=W a c;omega,X⟩,?_⟩;rintro z _ _ Y ⟨b,rfl,hj,rfl,F,g,l,h⟩;refine al.dec (λb0=>?_) (λb1=>?_)
 ·have A:b<K.length:=oM
  obtain⟨a,Z,es,ha,a0,b2,B,m,n,o,rfl,C,E⟩:=(t.ah h).el b K[b] (Qq A);have H:K[b]? =some K[b]:=Qq A;generalize K[b]=e at B C E H;refine⟨a,Z,ha,oM,oM,bA (es:=aC e m n o) (k:=10) (aV e m n o) rfl (λq ht=>B q ht) (PA.mk λb3 a3 b4 a5=>az (aV e m n o) a5 rfl λa6 a7 b5 a8=>au (aV e m n o) a8 ?_)⟩;have i:ai Y a6:=a3.new a7 λa c=>.inr oM;have I:=En P (K.take b) (aU.new P) (e.aS,e.agg,e.field);have b6:=List.length_take_le b K;have b7:((aE (cm P (K.take b)).done (e.aS,e.agg,e.field)).getD []).length<=0+(K.take b).length:=I.1;have b8:(cm P (K.take b)).entries.length=0+(K.take b).length:=I.2;have b9:=h.size;have c1:=i.size;refine PC.ok (Gv (g.ah i) (R.ah (h.then i)) (C.ah i) (λa c=>⟨by have:=u a c;omega,λhf=>by have:=l a hf;have:=u a c;omega⟩) E oM oM) ?_;rintro _ c2 ⟨a4,n4,c4,G,rfl,-,F',j,J,-⟩;refine bN (Ol _ a4 n4 c4) ⟨rfl,_,?_,b+1,aq oM,oM,rfl,F',?_,λa c=>?_,(h.then i).new J.1 λa c=>.inr (l a c)⟩
  ·omega
  ·rw[Qw,H]
   unfold cm at j⊢;rw[List.foldl_append];exact j
  ·rcases J.2 a c with L|L
   ·exact l a L
   ·omega
 ·rw[Qz oM]at g
  exact Ok.mk ⟨p,F,rfl,g,l,h⟩
end
end Go.Proofs.YtjgjkeponbeekaaGreatDoor
namespace Go.ar
open Go
variable{a2:List Value}{C a b5 c i k:Nat}{f:Nat->Prop}{d r:Option Addr}{h:Program}{J j:Type}{g q:TypeId}{b:World}{y:World->Prop}
def NX{cs:List j}{p m:Nat}{v:j}{vs:List j}(a:p<cs.length):(cs.set p v).take (p+1)++vs++(cs.set p v).drop (p+1+m)=cs.take p++(v::vs)++cs.drop (p+(m+1)):=by
 have b:(cs.set p v).take (p+1)=cs.take p++[v]:=by
  rw[Qw,Xj,if_pos rfl,if_pos a,List.take_set_of_le (Q4 _)];rfl
 have c:(cs.set p v).drop (p+1+m)=cs.drop (p+(m+1)):=by
  rw[List.drop_set_of_lt oM,show p+1+m=p+(m+1) by omega]
 rw[b,c];simp
def BR{m:TypeId}{n:Nat}{h:Option Addr}{o e b i f:Nat}{p:World->Prop}(q:h=some ⟨i,f,none⟩):∀(c:List Value) (a:Nat) {d:World} {cs:List Value},Own d m n h o e cs->b+a+c.length<=cs.length->
  (∀g,Own g m n h o e (cs.take (b+a)++c++cs.drop (b+a+c.length))->ak (λi=>aF h=some i) d g->g.heap.size=d.heap.size->p g)->iL ⟨i,f+b,none⟩ a c d p
 |[],a,d,cs,j,r,k=>k d (by simpa using j) (ak.refl _) rfl
 |v::c,a,d,cs,j,r,k=>by
  unfold iL;rw[Xq]at r;rw[Addr.add_lit,Nat.add_assoc];refine j.set (m:=b+a) oM q λg s t u=>BR q c (a+1) s (by simp;omega) λw l x y=>k w ?_ (t.then x) (y.trans u);have:=NX (cs:=cs) (p:=b+a) (m:=c.length) (v:=v) (vs:=c) oM;rw[show b+(a+1)=b+a+1 from rfl]at l;rw[this]at l;exact l
def Own.store{l e m i f:Nat}{c cs:List Value}(o:Own b q a d l e cs)(p:d=some ⟨i,f,none⟩)(n:gH h g c=true)(r:m+c.length<=cs.length)(k:∀j,Own j q a d l e (cs.take m++c++cs.drop (m+c.length))->ak (λi=>aF d=some i) b j->j.heap.size=b.heap.size->y j):mg h g (.pointer (some ⟨i,f+m,none⟩)) (.agg c.toArray) b y:=by
 simp only[gH,QK]at n;obtain⟨⟨⟨s,x⟩,t⟩,u⟩:=n;unfold mg;have v:Nat.beq c.toArray.size (lq h g)=true:=by simpa using t
 have w:c.toArray.toList.all Value.oneCell'=true:=by simpa using u
 simp only[s,v,w];exact BR p c 0 o (by simpa using r) k
def ef.store{e:ef j J}{p:List (Bx j)}(x:aO e.jk q f b d a c p){l:Bx j}(z:p[i]? =some l){E u:Nat}(N:d=some ⟨E,u,none⟩)(F:a2=(e.hd l.x r k C).take b5)(a1:e.o<b5)(a3:b5<=e.k)(O:gH h g a2=true)(A:∀t,aO e.jk q f t d a c (p.set i ⟨l.x,r,k,C⟩)->ak (λm=>aF d=some m) b t->t.heap.size=b.heap.size->y t):mg h g (.pointer (some ⟨E,u+i*e.k,none⟩)) (.agg a2.toArray) b y:=by
 obtain⟨cs,D,P,H,Q⟩:=x.body;have I:=bu.mZ.1 H;have R:i<p.length:=(Qv.1 z).1;have K:cs.length=p.length*e.k:=by rw[I];exact kq (λm:Bx j=>e.hl m.x m.a m.n m.c) p
 have v:a2.length=b5:=by rw[F,Qy,e.hl];omega
 have S:(i+1)*e.k<=p.length*e.k:=Q0 _ R;rw[X7,Nat.one_mul]at S;refine P.store (m:=i*e.k) N O (by rw[K,v];omega) λt T U L=>A t ⟨⟨_,D,T,bu.mZ.2 ?_,Q⟩,x.self,λm V=>by rw[L];exact x.aB m V⟩ U L;have W:=qD (enc:=λm:Bx j=>e.hd m.x m.a m.n m.c) (k:=e.k) (λm=>e.hl m.x m.a m.n m.c) (x':=⟨l.x,r,k,C⟩) (v:=.slice r k C) e.ho p i l z (e.eX ..).symm;rw[<-W,<-I,v];have X:∀n,n<e.k->cs[i*e.k+n]? =(e.hd l.x l.a l.n l.c)[n]? :=λn Y=>by
  obtain⟨Z,B,M⟩:=H.at z;have a0:Z=e.hd l.x l.a l.n l.c:=M.1;rw[<-a0];exact B n Y
 apply X3;intro n;have s:∀o,o<b5->a2[o]? =(e.hd l.x r k C)[o]? :=λo hu=>by rw[F,Xw,if_pos hu]
 by_cases B:n<i*e.k
 ·rw[XQ,XW (by rw[Qy];omega),Xw,if_pos B,Xj,if_neg oM]
 ·by_cases M:n<i*e.k+b5
  ·rw[XQ,X8 (by rw[Qy];omega),XW (by rw[Qy,v];omega),Qy,s _ oM]
   obtain⟨o,rfl⟩:∃o,n=i*e.k+o:=⟨n-i*e.k,oM⟩
   rw[X2 oM,Nat.add_sub_cancel_left,Xj];have w:=e.eX l.x l.a l.n l.c r k C;split
   ·rename_i q
    have:o=e.o:=oM
    subst this;rw[if_pos (by rw[K];have:=e.ho;omega),<-w,Xj,if_pos rfl,if_pos (by rw[e.hl];exact e.ho)]
   ·rename_i q
    rw[X o oM,<-w,Xj,if_neg oM]
  ·rw[X8 (by rw[QX,Qy,v];omega),QX,Qy,v,List.getElem?_drop,Xj,if_neg (by have:=e.ho;omega)]
   congr 1
   omega
end Go.ar
namespace Go.ar
open Go
variable{h:Program}{y:World->Prop}
section
variable {α β:Type} {N:ef α β} {w9 w w':World} {a:Option Addr} {n c j:Nat} {L0:List (Bx α)} {e:TypeId}
def dt.step2{i:TypeId}(z:dt N e w9 a n c L0 j w){g:Nat}(p:a=Option.some ⟨g,0,none⟩){d:Bx α}(k:L0[j]? =Option.some d){a':Option Addr}{n' c':Nat}{G:Nat->Prop}(A:Row N.ci N.ib w G a' n' (N.inner d.x))(C:N.ok d.x)(l:∀b,G b->w9.heap.size<=b/\b<w.heap.size)(U:g<w9.heap.size){hd:List Value}{r:Nat}(E:hd=(N.hd d.x a' n' c').take r)(F:N.o<r)(H:r<=N.k)(I:gH h i hd=true)(m:∀w',dt N e w9 a n c L0 (j+1) w'->ak (λd=>aF a=Option.some d) w w'->w'.heap.size=w.heap.size->y w'):mg h i (.pointer (Option.some ⟨g,0+j*N.k,none⟩)) (.agg hd.toArray) w y:=by
 obtain⟨J,K,L,M,O,q,P,s⟩:=z;have t:J[j]? =Option.some d:=by rw[q j (Q4 _)];exact k
 have Q:=(Qv.1 t).1;have u:∀b,G b->¬aF a=Option.some b:=λb B e=>by
  have:=(l b B).1;rw[p]at e;simp only[aF,Q1]at e;omega
 refine ef.store L t p E F H I λR S f o=>m R ⟨_,λb=>K b\/G b,S,?_,?_,?_,P.then f,?_⟩ f o
 ·rw[List.map_set,M]
  apply X3;intro i;rw[Xj];split
  ·rename_i e;subst e
   rw[if_pos (by simpa using(Qv.1 k).1),Q9,k];rfl
  ·rfl
 ·intro v b V B
  rw[Xj]at B
  by_cases x:j=v
  ·subst x
   rw[if_pos rfl,if_pos Q]at B
   cases B
   exact⟨(A.af f λb B=>u b B).mono λb B=>.inr B,C⟩
  ·rw[if_neg x]at B
   exact((O v b oM B).af f λb B=>(s b B).2.2).mono λb B=>.inl B
 ·intro T W
  rw[Xj,if_neg oM,q T oM]
 ·rintro b (B|B)
  ·rw[o];exact s b B
  ·rw[o];exact⟨(l b B).1,(l b B).2,u b B⟩
end
end Go.ar
namespace Go.Proofs.YtjgjkeponbeekaaGreatDoor
open Go.ar
variable{a c:Nat}{d:Option Addr}
section
variable {w w':World} {p:Nat} {F D:Nat->Prop} {V:aU}
def yS{b:List (Bx cy)}(f:Row Lh.jk 120 w D d a b)(g:∀e,D e->e<w.heap.size):Calls XP 405 #[.slice d a c] w (Ok (py Lh.jk 133 w b)):=
 fU (vK QP dC f g λi w' h=>Ok.mk h)
def Ep(e:b_ w p F V)(c:V.entries.length<=20000000):Calls XP 403 #[ZQ p] w (Ok (py vF 133 w V.entries)):=by
 obtain⟨X,Y,e⟩:=e;have l:=e.NZ.row (bytes:=120) dC (by unfold aK;omega);have I:=l.dN;have Z:=l.len;obtain⟨g,x,J,K⟩:=ef.boxes l;have a8:g.length=V.entries.length:=by rw[<-x];simp
 refine rK ⟨p,0,rfl,_,_,_,ae e.at' rfl,PC.ok (yS J λa c=>e.aB a c.1) ?_⟩;rintro _ y ⟨j,h,z,F9,rfl,k,A,L⟩;have m:∀a,aF j=some a->w.heap.size<=a:=λa c=>L a (k.self a c);have M:∀a,aF j=some a->a<y.heap.size:=λa c=>k.aB a (k.self a c);refine⟨_,_,_,rfl,λB N w'=>∃d:Nat,N=d/\d<=h/\B=h-d/\dt Lh 133 y j h z g d w',⟨_,0,rfl,Qj _,rfl,dt.start k.alone⟩,?_⟩;rintro B _ _ O ⟨d,rfl,hj,rfl,f⟩;have b0:=f.len;have n:ai w O:=A.new f.af λa c=>.inr (m a c);have zk:=f.af.size;refine al.dec (λb1=>?_) (λb2=>?_)
 ·obtain⟨i,rfl⟩:=f.some oM
  have b3:=m i rfl;have P:=M i rfl;have o:g[d]? =some g[d]:=Qq oM;have q:=K g[d] (XY oM);generalize g[d]=b at o q;refine⟨i,0,rfl,oM,oM,bA (es:=aC b.x.ev b.a b.n b.c) (k:=10) (aV _ _ _ _) rfl (λr Q=>?_) (PC.ok (nQ (e:=b.x.ev) (q.1.ah n) λa c=>by have:=e.aB a c.1;have:=n.size;omega) ?_)⟩
  ·have R:=f.cell rfl o (by show h*13<=aK;unfold aK at I⊢;omega) r
   rw[Qx];have s:r<(aC b.x.ev b.a b.n b.c).length:=Q;rw[Qq s];refine R _ ?_;show(aC b.x.ev b.a b.n b.c++_)[r]? =_;rw[XW s,Qq s]
  rintro _ b4 ⟨t,u,v,G,rfl,S,C,T⟩;refine bN (ri b.x.ev t u v) ⟨rfl,i,0,rfl,oM,oM,?_⟩;rw[Qx];refine(f.ah T).step2 (g:=i) rfl o (a':=t) (n':=u) (c':=v) (G:=G) S q.2 (λE H=>⟨by have:=C E H;omega,(C E H).2⟩) P (hd:=aC b.x.ev t u v) (r:=10) rfl dC dC (aV _ _ _ _) λb5 U b6 b7=>⟨_,?_,d+1,aq oM,oM,rfl,U⟩
  omega
 ·obtain rfl:d=h:=oM
  obtain⟨Fd,hd,W⟩:=f.done;rw[x]at hd;have z9:=A.size;exact Ok.mk ⟨j,_,z,Fd,rfl,hd,n,λa c=>(W a c).elim (m a) λe=>oM⟩
end
end Go.Proofs.YtjgjkeponbeekaaGreatDoor
namespace Go.Proofs.YtjgjkeponbeekaaGreatDoor
open Go.ar
def aY(a:di):List Value:=[XH a.group,XH a.value,XH a.count]
def di.Ok(a:di):Prop:=aH a.group/\aH a.value/\aH a.count
def Gt:jo di:=flat 3 aY di.Ok (λ_=>rfl) (λb c a=>by simp[aY]at a;rcases a with rfl|rfl|rfl<;>rfl)
def Vn:jC XP 51 135 3 24:=⟨kR,kR,dC⟩
variable{z:FuncId}{e m:Int}{d9:di}
section
variable {w w':World} {D:Nat->Prop} {a:Option Addr} {n c:Nat} {l:List di}
def Bv(d:Row Gt 24 w D a n l)(e:∀b,D b->b<w.heap.size):Calls XP 215 #[.slice a n c] w (Ok (py Gt 135 w l)):=
 iJ (vK Vn dC d e λg w' f=>Ok.mk f)
def KF{most:Int}(d:Row Gt 24 w D a n l)(h:∀e,D e->e<w.heap.size)(v:n<=c):
  Calls XP 152 #[.slice a n c,XH most] w (Ok λi w'=>∃f,i= .tuple #[f,.bool (decide ((max most 0).toNat<l.length))]/\py Gt 135 w (l.take (max most 0).toNat) f w'):=by
 have x:=d.len;have j:(if 0>most then 0 else most)=max most 0:=by split<;>omega
 refine Cs ?_;rw[j];obtain⟨b,g⟩:∃b:Nat,(if(n:Int)<max most 0 then(n:Int)else max most 0)=b:=⟨(if(n:Int)<max most 0 then(n:Int)else max most 0).toNat,by split<;>omega⟩
 rw[g];have k:b=min n (max most 0).toNat:=by split at g<;>omega
 rw[Qx];refine⟨oM,oM,oM,PC.ok (Bv (d.take (m:=b) oM) h) ?_⟩;rintro _ y ⟨m,o,p,q,rfl,r,s,t⟩;refine⟨_,_,_,rfl,Ok.mk ⟨_,?_,m,o,p,q,rfl,?_,s,t⟩⟩
 ·have:decide ((b:Int)<(n:Int))=decide ((max most 0).toNat<l.length):=by rw[decide_eq_decide];omega
  rw[this]
 ·have:l.take (max most 0).toNat=l.take b:=by
   rw[k]
   by_cases u:(max most 0).toNat<=n
   ·rw[Nat.min_eq_right u]
   ·rw[X2 oM,Qz oM,Qz oM]
  rw[this];exact r
def HY{h i:Array Value}{c k:Nat}(v:c<=20000000)(n:k<=c)(o:enters XP z=true)(p:∀(d:Nat) f,d<c->ai w f->Calls XP z (h++ #[XH (d:Int)]++i) f (Ok λg w'=>g= .bool (decide (k<=d))/\ai f w')):
  Calls XP 150 #[XH (c:Int),.func (.func z) h i] w (Ok λg w'=>g= XH (k:Int)/\ai w w'):=by
 refine AB ⟨λj d q w'=>∃a b:Nat,d=a/\q=b/\j=b-a/\a<=b/\b<=c/\a<=k/\k<=b/\ai w w',⟨_,0,c,rfl,rfl,rfl,oM,oM,oM,n,ak.refl _⟩,?_⟩;rintro j _ _ _ r ⟨a,b,rfl,rfl,rfl,x,s,t,u,e⟩;refine al.dec (λy=>?_) (λA=>?_)
 ·rw[Tq oM]
  refine⟨_,_,_,rfl,o,PC.ok (p _ r oM e) ?_⟩;rintro _ B ⟨rfl,l⟩;refine⟨_,rfl,al.not (al.dec (λm=>⟨_,?_,a,(a+b)/2,rfl,rfl,rfl,oM,oM,t,m,e.then l⟩) (λm=>⟨_,?_,(a+b)/2+1,b,aq oM,rfl,rfl,oM,s,oM,u,e.then l⟩))⟩
  ·omega
  ·omega
 ·obtain rfl:a=k:=oM
  exact Ok.mk ⟨rfl,e⟩
def sx{b:Type}(a:b->Bool):∀l:List b,l.dropWhile a=l.drop (posOf a l)
 |[]=>rfl
 |x::l=>by
  unfold posOf;rw[List.dropWhile_cons,List.takeWhile_cons]
  cases c:a x
  ·simp
  ·simpa[posOf]using sx a l
abbrev tL(l:List di):Prop:=l.Pairwise λa b=>a.group<b.group
def Sm{l:List di}(d:tL l){a:Nat}(b:l[a]? =some d9):decide (posOf (λd9=>decide (d9.group<=e)) l<=a)=decide (d9.group>e):=by
 rw[decide_eq_decide]
 induction l generalizing a with
 |nil=>simp at b
 |cons f l g=>
  obtain⟨h,i⟩:=List.pairwise_cons.1 d;unfold posOf;rw[List.takeWhile_cons]
  by_cases c:f.group<=e
  ·rw[decide_eq_true c]
   cases a with
   |zero=>
    simp at b;subst b;simp;omega
   |succ a=>
    have:=g i (by simpa using b);unfold posOf at this;simp only[if_true,Xq];omega
  ·rw[Xv c]
   simp only[Bool.false_eq_true,if_false,List.length_nil,Qj,true_iff]
   cases a with
   |zero=>simp at b;subst b;omega
   |succ a=>
    have:=h d9 (QZ (by simpa using b));omega
def KG(k:Row Gt 24 w D a n l)(v:∀d,D d->d<w.heap.size)(x:n<=c)(y:tL l)(z:n<=20000000):
  Calls XP 90 #[.slice a n c,XH e,XH m] w (Ok λA w'=>∃b,A= .tuple #[b,.bool (nd l e (max m 0).toNat).2]/\py Gt 135 w (nd l e (max m 0).toNat).1 b w'):=by
 have Q:=k.len;have R:=zD (λb:di=>decide (b.group<=e)) l;refine EO (PA.mk λS q T o=>PA.mk λU h V B=>⟨_,_,_,ae (h.get o id) rfl,PC.ok (HY (k:=posOf (λb=>decide (b.group<=e)) l) z oM kR λi C W f=>?_) ?_⟩)
 ·have g:=(q.then h).then f
  obtain⟨d,E,X,F,j,-,H,rfl,-⟩:=(k.ah g).el i l[i] (Qq oM);have I:l[i]? =some l[i]:=Qq oM;refine Ar ⟨_,_,_,ae (f.get (h.get o id) id) rfl,d,E,F,oM,oM,_,by rw[Qx];exact H 0 dC,_,ae (f.get B id) rfl,λJ K=>Ok.mk ⟨?_,K.af⟩⟩;rw[Sm y I]
 ·rintro _ C ⟨rfl,f⟩
  have g:=(q.then h).then f;have p:=(k.ah g).part (lo:=posOf (λb=>decide (b.group<=e)) l) (hi:=n) (cap:=c) oM (Q4 _) x;rw[Qz oM]at p;have L:Gt.k=3:=rfl;rw[L]at p;refine⟨_,rfl,_,_,_,ae (f.get (h.get o id) id) rfl,oM,oM,?_⟩;rw[Qx];refine PC.ok (KF (most:=m) p (λd j=>by have:=v d j;have:=g.size;omega) oM) ?_;rintro _ J ⟨_,rfl,r,s,t,M,rfl,N,O,P⟩;have u:l.dropWhile (λb=>decide (b.group<=e))=l.drop (posOf (λb=>decide (b.group<=e)) l):=sx _ l;refine⟨_,_,_,_,rfl,Ok.mk ⟨.slice r s t,?_,r,s,t,M,rfl,?_,g.then O,λd j=>by have:=P d j;have:=g.size;omega⟩⟩
  ·unfold nd;rw[u]
  ·unfold nd;rw[u];exact N
end
def sw(a:di):Value:=.agg (aY a).toArray
def Ni(a:di):gH XP 135 (aY a)=true:=kR
def WL(a:di):RY (cJ XP 135) (.agg (aY a).toArray)=true:=kR
structure kr (w:World) (p r:Nat) (R:de):Prop where
 at':w.heap[p]? =some (.cells #[XH R.p.aS,XH R.p.field,XH R.p.group,XH R.p.Ek,XH R.p.make,.map (some r)] 269 (0,0))
 map:bD w r (Value.int .i64) (R.rows.map λx=>(x.1,sw x.2))
 ok:∀x∈R.rows,di.Ok x.2/\x.2.group=x.1
variable{a c:Nat}{d:Option Addr}{o:aj}{d8:iP}
section
variable {w w':World} {p r:Nat} {R:de} {T:Nat->Prop}
def kr.af(a:kr w p r R)(b:ak T w w')(c:¬T p)(d:¬T r):kr w' p r R:=⟨b.get a.at' c,a.map.af b d,a.ok⟩
def kr.ah(a:kr w p r R)(b:ai w w'):kr w' p r R:=a.af b id id
def Ou:Calls XP 106 #[.agg (ni d8).toArray] w (Ok λc w'=>∃p r,c= ZQ p/\kr w' p r ⟨d8,[]⟩/\w.heap.size<=p/\w.heap.size<=r/\p<w'.heap.size/\r<w'.heap.size/\ai w w'):=by
 refine JT (PA.mk λd e k a=>⟨_,_,_,_,_,ae a rfl,ae a rfl,ae a rfl,ae a rfl,ae a rfl,PA.mk λf g l h=>PA.mk λm b n i=>Ok.mk ⟨f.heap.size,d.heap.size,rfl,⟨i,bD.new (b.get h id),λd8 j=>by cases j⟩,oM,oM,oM,oM,(e.then g).then b⟩⟩)
def FR(a:iP)(c:aj)(b:Int):Option Int:=if a.group=1 then some c.agg else if a.group=2 then some c.arg else if a.group=3 then some b else none
def KH(j:kr w p r R):Calls XP 244 #[ZQ p,jA o d a c,XH e] w (Ok λk w'=>k= .tuple #[XH ((FR R.p o e).getD 0),.bool (FR R.p o e).isSome]/\ai w w'):=by
 refine um (PA.mk λl b m i=>⟨p,0,rfl,_,ae (j.ah b).at' rfl,al.dA (λf=>⟨_,ae i rfl,Ok.mk ⟨?_,b⟩⟩) (λf=>al.dA (λg=>⟨_,ae i rfl,Ok.mk ⟨?_,b⟩⟩) (λg=>al.dA (λh=>Ok.mk ⟨?_,b⟩) (λh=>Ok.mk ⟨?_,b⟩)))⟩)
 ·unfold FR;rw[if_pos f];rfl
 ·unfold FR;rw[if_neg f,if_pos g];rfl
 ·unfold FR;rw[if_neg f,if_neg g,if_pos h];rfl
 ·unfold FR;rw[if_neg f,if_neg g,if_neg h];rfl
def NA(h:kr w p r R){arg:Int}:Calls XP 245 #[ZQ p,.agg (aY d9).toArray,XH arg] w (Ok λm w'=>m= XH (lu R.p d9 arg)/\ai w w'):=by
 refine wy (PA.mk λn c q g=>?_);have d:=(h.ah c).at';refine⟨_,ae g rfl,p,0,rfl,_,ae d rfl,al.dA (λe=>⟨_,ae g rfl,Ok.mk ⟨?_,c⟩⟩) (λe=>⟨p,0,rfl,_,ae d rfl,al.dA (λf=>⟨_,ae g rfl,Ok.mk ⟨?_,c⟩⟩) (λf=>⟨λl w'=>l=decide (R.p.make=5\/d9.count=1/\(R.p.make=3\/R.p.make=4))/\n=w',?_,?_⟩)⟩)⟩
 ·unfold lu;rw[if_pos e]
 ·unfold lu;rw[if_neg e,if_pos f]
 ·refine⟨p,0,rfl,_,ae d rfl,al.dA (λi=>⟨?_,rfl⟩) (λi=>al.dA (λk=>⟨p,0,rfl,_,ae d rfl,al.dA (λa=>⟨?_,rfl⟩) (λa=>⟨p,0,rfl,_,ae d rfl,?_,rfl⟩)⟩) (λk=>⟨?_,rfl⟩))⟩
  ·rw[decide_eq_true (.inl i)];simpa using i
  ·rw[decide_eq_true (.inr ⟨k,.inl a⟩)]
  ·by_cases b:R.p.make=4
   ·rw[decide_eq_true (.inr ⟨k,.inr b⟩)];simpa using b
   ·rw[Xv (by rintro(h|⟨-,h|h⟩);exact i h;exact a h;exact b h)];simpa using b
  ·rw[Xv (by rintro(h|⟨h,-⟩);exact i h;exact k h)]
 ·rintro l _ _ ⟨o,rfl⟩
  subst o;refine al.dec (λj=>Ok.mk ⟨?_,c⟩) (λj=>⟨p,0,rfl,_,ae d rfl,al.dA (λa=>⟨_,ae g rfl,Ok.mk ⟨?_,c⟩⟩) (λa=>⟨p,0,rfl,_,ae d rfl,al.dA (λb=>⟨_,ae g rfl,Ok.mk ⟨?_,c⟩⟩) (λb=>Ok.mk ⟨?_,c⟩)⟩)⟩)
  ·unfold lu;rw[if_neg e,if_neg f,if_pos j]
  ·have:(if arg<d9.value then arg else d9.value)=min d9.value arg:=by split<;>omega
   unfold lu;rw[if_neg e,if_neg f,if_neg j,if_pos a,<-this]
  ·have:(if arg>d9.value then arg else d9.value)=max d9.value arg:=by split<;>omega
   unfold lu;rw[if_neg e,if_neg f,if_neg j,if_neg a,if_pos b,<-this]
  ·unfold lu;rw[if_neg e,if_neg f,if_neg j,if_neg a,if_neg b]
end
def Qg:lx XP 267 3 135 (sw ⟨0,0,0⟩):=⟨kR,kR⟩
def LX{b f g:Type}[BEq b](c:f->g)(d:b):∀a:List (b×f),aE (a.map λe=>(e.1,c e.2)) d=(aE a d).map c
 |[]=>rfl
 |(e,h)::a=>by
  simp only[QY];unfold aE;split
  ·rfl
  ·exact LX c d a
def LY{d e h:Type}[BEq d](b:e->h)(f:d)(g:e):∀c:List (d×e),aI (c.map λa=>(a.1,b a.2)) f (b g)=(aI c f g).map λa=>(a.1,b a.2)
 |[]=>rfl
 |(a,i)::c=>by
  simp only[QY];unfold aI;split
  ·simp
  ·simp[LY b f g c]
section
variable {w w':World} {p r:Nat} {R:de}
def de.add_def(r:de)(e:cy)(b:Int):r.add e b=match FR r.p e.ev b with
  |none=>r
  |some a=>if e.void||e.ev.aS !=r.p.aS||e.ev.field !=r.p.field then r else
   {r with rows:=aI r.rows a ⟨a,lu r.p ⟨a,((aE r.rows a).getD ⟨0,0,0⟩).value,oD (((aE r.rows a).getD ⟨0,0,0⟩).count+1)⟩ e.ev.arg,oD (((aE r.rows a).getD ⟨0,0,0⟩).count+1)⟩}:=rfl
def Gw:aH 0:=by unfold aH;omega
def Ug{arg:Int}(a:di.Ok d9)(b:aH arg):aH (lu d8 d9 arg):=by
 obtain⟨d,e,c⟩:=a;unfold lu;split;exact c;split;exact Lr _;split;exact b;split
 ·unfold aH at*;omega
 split
 ·unfold aH at*;omega
 ·exact Gw
def Om(j:kr w p r R)(a1:p≠r){x:cy}(y:x.ev.Ok)(a2:aH e):Calls XP 185 #[ZQ p,El x d a c,XH e] w (Ok λm w'=>m= .tuple #[]/\kr w' p r (R.add x e)/\ak (·=r) w w'):=by
 have b1:=ax j.at';have b2:=j.map.lt;refine yz (PA.mk λw1 M s1 N=>Uh (cs:=aC x.ev d a c) (aV _ _ _ _) N (λa3 m O=>?_) (PC.ok (KH (j.ah M)) ?_))
 ·rw[Xz]
  have a4:=(Qv.1 O).1;show(aC x.ev d a c++_).toArray[a3]? =_;simp only[List.getElem?_toArray];rw[XW a4];exact O
 rintro _ P ⟨rfl,Q⟩;have n:=M.then Q;have o:=Q.get N id;have s:=j.ah n;have g:R.add x e=R->∀i,bd P i->Ok (λm w'=>m= .tuple #[]/\kr w' p r (R.add x e)/\ak (·=r) w w') (.returned (.tuple #[])) i:=λhe i k=>Ok.mk ⟨rfl,by rw[he];exact s.ah k.af,ai.af (n.then k.af)⟩;refine⟨_,_,rfl,al.not (al.mk (λz=>?_) (λz=>g ?_))⟩
 rotate_left
 ·rw[de.add_def,show FR R.p x.ev e=none by simpa using z]
 obtain⟨f,h⟩:=Option.isSome_iff_exists.1 z;rw[h,Option.getD_some];have t:∀{q:de},(if x.void||x.ev.aS !=R.p.aS||x.ev.field !=R.p.field then R else
   {R with rows:=aI R.rows f ⟨f,lu R.p ⟨f,((aE R.rows f).getD ⟨0,0,0⟩).value,oD (((aE R.rows f).getD ⟨0,0,0⟩).count+1)⟩ x.ev.arg,oD (((aE R.rows f).getD ⟨0,0,0⟩).count+1)⟩})=q->R.add x e=q:=λ{q} A=>by
  rw[de.add_def,h];exact A
 refine⟨_,ae o rfl,al.mk (λl=>g (t (by rw[l];rfl))) (λl=>⟨_,ae o rfl,p,0,rfl,_,ae s.at' rfl,al.dB (λB=>g (t ?_)) (λB=>⟨_,ae o rfl,p,0,rfl,_,ae s.at' rfl,λi k=>?_⟩)⟩)⟩
 ·rw[l,show(x.ev.aS !=R.p.aS)=true by simpa using B];rfl
 have S:(x.ev.aS !=R.p.aS)=false:=by simpa using B
 have u:ai P i:=k.af;have v:=s.ah u;refine al.dB (λC=>g (t (by rw[l,S,show(x.ev.field !=R.p.field)=true by simpa using C];rfl)) i k) (λC=>?_);have a5:(x.ev.field !=R.p.field)=false:=by simpa using C
 have T:aH f:=by
  unfold FR at h;split at h
  ·cases h;exact y.agg
  split at h
  ·cases h;exact y.arg
  split at h
  ·cases h;exact a2
  ·cases h
 obtain⟨b,E⟩:∃b,b=(aE R.rows f).getD ⟨0,0,0⟩:=⟨_,rfl⟩
 have a6:di.Ok b:=by
  rw[E]
  cases A:aE R.rows f with
  |none=>exact⟨Gw,Gw,Gw⟩
  |some U=>exact(j.ok _ (bS A)).1
 have a7:(aE (R.rows.map λx=>(x.1,sw x.2)) f).getD (sw ⟨0,0,0⟩)=sw b:=by
  rw[LX,E];cases aE R.rows f<;>rfl
 refine⟨p,0,rfl,_,ae v.at' rfl,yZ Qg jV v.map ?_⟩;rw[a7];refine bN (WL b) ⟨rfl,PA.mk λw4 k4 s4 g4=>az (Ni b) g4 rfl λw5 k5 s5 g5=>PS.mk g5 (by simp[aY]) λw6 k6 s6 V=>⟨_,ae V rfl,PS.mk V (by simp[aY]) λw7 k7 s7 W=>?_⟩⟩;have F:ai i w7:=((k4.new k5 λH I=>.inr oM).new k6 λH I=>.inr oM).new k7 λH I=>.inr oM;have a8:=F.get (u.get o id) id;refine au (cs:=aY ⟨f,b.value,oD (b.count+1)⟩) (Ni _) W ⟨_,ae a8 rfl,PC.ok (NA (v.ah F)) ?_⟩;rintro _ w8 ⟨rfl,J⟩;have z8:=J.size;refine⟨_,rfl,PS.mk (J.get W id) (by simp[aY]) λw9 k9 s9 g9=>λX a9=>?_⟩;have Y:ai w9 X:=a9.af;have Z:ai i X:=((F.then J).new k9 λH I=>.inr oM).then Y;have K:=v.ah Z;have z3:=(n.then u).size;refine⟨p,0,rfl,_,ae K.at' rfl,au (cs:=aY ⟨f,lu R.p ⟨f,b.value,oD (b.count+1)⟩ x.ev.arg,oD (b.count+1)⟩) (Ni _) (Y.get g9 id) (cW Qg jV K.map λb3 b0 a0 b4=>Ok.mk ⟨rfl,?_,?_⟩)⟩
 ·rw[t (q:={R with rows:=aI R.rows f ⟨f,lu R.p ⟨f,b.value,oD (b.count+1)⟩ x.ev.arg,oD (b.count+1)⟩}) (by rw[l,S,a5,E];rfl)]
  refine⟨a0.get K.at' a1,?_,λU L=>?_⟩
  ·rw[<-LY];exact b0
  ·rcases eM L with rfl|L
   ·exact⟨⟨T,Ug ⟨T,a6.2.1,Lr _⟩ y.arg,Lr _⟩,rfl⟩
   ·exact j.ok U L
 ·exact(ai.af ((n.then u).then Z)).then a0
end
section
variable {w w':World} {p r:Nat} {R:de}
def Mj(g:kr w p r R):Calls XP 221 #[ZQ p] w (Ok λh w'=>∃d f,h= ZQ d/\kr w' d f R/\d≠f/\w.heap.size<=d/\w.heap.size<=f/\d<w'.heap.size/\f<w'.heap.size/\ai w w'):=by
 refine wx λb j=>?_;have k:ai w b:=j.af;have u:b.heap.size=w.heap.size:=by rw[j.heap]
 have c:=g.ah k;obtain⟨e,a,m,n,o,q⟩:=c.map.at';refine⟨no,p,0,rfl,id,_,_,_,_,_,ae c.at' rfl,ae c.at' rfl,ae c.at' rfl,ae c.at' rfl,ae c.at' rfl,p,0,rfl,_,ae c.at' rfl,PC.ok (φ:=λh w'=>h= .map (some b.heap.size)/\w'=b.alloc (.map e a)) ((AnyW.maps_Clone Tryz.Ui r e a b m).mono ?_) ?_⟩
 ·rintro v w' ⟨rfl,s⟩
  exact Ok.mk ⟨rfl,s⟩
 ·rintro _ x ⟨rfl,rfl⟩
  have l:ai b (b.alloc (.map e a)):=ak.alloc _ _;have y:(b.alloc (.map e a)).heap.size=b.heap.size+1:=sM
  refine⟨_,rfl,ai.af l,PA.mk λz i A t=>⟨ai.af i,Ok.mk ⟨_,b.heap.size,rfl,⟨t,⟨⟨e,a,i.get (heap_alloc_new b _) id,n,o,q⟩,g.map.tidy⟩,g.ok⟩,?_⟩⟩⟩;refine⟨oM,oM,oM,oM,oM,(k.then l).then i⟩
end
open Go.ar Go.Sort
def m_{d:Type}{h:Nat}{a:d->List Value}{f:d->Prop}{hl h1}{i:World}{D:Nat->Prop}:∀{b:List d} {cs:List Value},bu (flat h a f hl h1) i D b cs↔cs=b.flatMap a/\∀x∈b,f x
 |[],cs=>by simp[bu]
 |x::b,cs=>by
  constructor
  ·rintro⟨m,n,rfl,⟨rfl,j⟩,k⟩
   obtain⟨rfl,l⟩:=m_.1 k;exact⟨rfl,λe c=>by rcases Q2.1 c with rfl|c;exact j;exact l e c⟩
  ·rintro⟨rfl,g⟩
   exact⟨a x,b.flatMap a,rfl,⟨rfl,g x (QV ..)⟩,m_.2 ⟨rfl,λe c=>g e (QJ _ c)⟩⟩
section
variable {α:Type} {enc:α->List Value} {K:Nat}
def fA(c:∀b,(enc b).length=K)(a:List α):(a.flatMap enc).length=a.length*K:=by
 induction a with
 |nil=>simp
 |cons b a d=>rw[List.flatMap_cons,QX,d,c,Xq,X7];omega
def jN[Inhabited α](h:0<K)(c:∀e,(enc e).length=K){b:List α}(f:a<b.length*K):(b.flatMap enc)[a]? =(enc b[a/K]!)[a % K]? :=by
 induction b generalizing a with
 |nil=>simp at f
 |cons e b i=>
  rw[List.flatMap_cons]
  by_cases d:a<K
  ·rw[XW (by rw[c];exact d),Nat.div_eq_of_lt d,Nat.mod_eq_of_lt d];rfl
  ·rw[Xq,X7]at f
   rw[X8 (by rw[c];omega),c,i oM];obtain⟨g,rfl⟩:∃g,a=g+K:=⟨a-K,oM⟩
   rw[Nat.add_sub_cancel,Nat.add_div_right _ h,Nat.add_mod_right];simp
def xR[Inhabited α](e:0<K)(d:∀h,(enc h).length=K)(a:List α):(flatK enc K a.toArray).toList=a.flatMap enc:=by
 apply X3;intro b
 by_cases c:b<a.length*K
 ·rw[jN e d c]
  have i:b<(flatK enc K a.toArray).size:=by simpa using c
  have f:=get_flatK enc K a.toArray b (by simpa using c);rw[getElem!_pos _ b i]at f;have g:b % K<(enc a[b/K]!).length:=by rw[d];exact Nat.mod_lt _ e
  rw[Qq (by simpa using c),Qq g]
  congr 1
  rw[Array.getElem_toList,f];rw[getElem!_pos _ _ (by simpa using g)]
  congr 1
  simp
 ·rw[Q7 (by simpa using c),Q7 (by rw[fA d];omega)]
end
instance:Inhabited di:=⟨⟨0,0,0⟩⟩
def Uq(b:di):∀c∈aY b,c.oneCell'=true:=by
 intro d a;simp only[aY,Q2,List.not_mem_nil,or_false]at a;rcases a with rfl|rfl|rfl<;>rfl
def ot(a:di):(aY a).length=3:=rfl
def BP(a b:di):Int:=if a.group<b.group then-1 else 1
def zo(a b:di):ltOf BP a b=decide (a.group<b.group):=by
 unfold ltOf BP
 by_cases c:a.group<b.group<;>simp[c]
def VB:SWO (ltOf BP) where
 irrefl x:=by rw[zo];simp
 trans x y z h1 h2:=by rw[zo]at*;simp at*;omega
 ntrans x y z h1 h2:=by rw[zo]at*;simp at*;omega
variable{g1:List di}{f:Nat->Prop}{b:World}
def Ur{d e:di}:Calls XP 407 #[.agg (aY d).toArray,.agg (aY e).toArray] b (Ok λg h=>g= XH (BP d e)/\G b h):=by
 refine tl (PA.Vz λk f l i=>PA.Vz λm a n j=>⟨_,ae ((a.af (S:=λ_=>False)).get i id) rfl,_,ae j rfl,al.dec (λc=>Ok.mk ⟨?_,f.then a⟩) (λc=>Ok.mk ⟨?_,f.then a⟩)⟩)
 ·unfold BP;rw[if_pos c]
 ·unfold BP;rw[if_neg c]
def Ny(m:aO Gt 135 f b d a c g1)(C:g1.length<=20000000):
  Calls XP 406 #[.slice d a c,.func (.func 407) #[] #[]] b (Ok λM s=>M= .tuple #[]/\∃E:List di,E.Perm g1/\(E.Pairwise λt N=>¬N.group<t.group)/\aO Gt 135 f s d a c E/\ak (λu=>aF d=some u) b s):=by
 obtain⟨cs,D,y,Y,Z⟩:=m.body;obtain⟨rfl,O⟩:=m_.1 Y;obtain⟨e,z⟩:∃e,e=g1:=⟨g1,rfl⟩
 rw[<-z]at y O;have F:=m.len dC;have v:e.length=a:=by rw[F,<-z]
 rcases y.cases with⟨rfl,rfl,rfl,h0⟩|⟨i,j,rfl,w,P,H,Q⟩
 ·have hd:e=[]:=QW v
  refine(AnyF.slices_SortFunc_none Tryz.Tm none 0 _ b).mono ?_;rintro A s ⟨rfl,rfl⟩;exact Ok.mk ⟨rfl,g1,List.Perm.refl _,by rw[<-z,hd];exact List.Pairwise.nil,m,ak.refl _⟩
 ·have R:Gt.k=3:=rfl
  rw[R]at Q H;have a5:flatK aY 3 e.toArray=(e.flatMap aY).toArray:=by rw[<-xR (show 0<3 by decide) ot]
  have hH:HoldsK aY 3 b i 0 e.toArray:=by
   intro k o;rw[size_flatK]at o;simp only[List.size_toArray]at o;have S:k<(e.flatMap aY).length:=by rw[fA ot];exact o
   refine⟨?_,by simp[World.frozen?,w]⟩;have p:(flatK aY 3 e.toArray)[k]! =(e.flatMap aY)[k]:=by
    rw[a5,getElem!_pos _ k (by simpa using S)];simp
   rw[p,Xz];refine ae w ?_;have l:(j.toList.take (a*3))[k]? =some (e.flatMap aY)[k]:=by rw[Q];exact Qq S
   rw[Xw,if_pos oM]at l;simpa using l
  have C:=y.row;have I:c<=maxLen:=by
   obtain⟨_,a0,_,T,_,_,_,I,_⟩:=y.row.2.resolve_left (by rintro⟨m,_⟩;cases m);simp only[XX]at T;rw[T.2.2];exact I
  have a6:e.toArray.size<4611686018427387904:=by
   simp only[List.size_toArray,v];omega
  have U:=AnyQ.slices_SortFunc Tryz.Tm 3 (λb=>cI _ _ _ kR ⟨_,Tryz.underlying135⟩ b) (λb=>Tryz.sizeOf135 b) aY (λ_=>rfl) Uq (BP) VB 407 #[] i 0 c e.toArray b
   (enters_of Tryz.func407 kR rfl) (λa9 q dk b0 t N=>(Ur).mono ?_) hH (ax w) a6
  ·rw[show e.toArray.size=a by simpa using v]at U
   refine U.mono ?_;rintro A s ⟨rfl,h,x,q,hp,hs,rfl⟩;obtain⟨p1,p2,V⟩:=hp;have g:h.size=a:=p1.trans (by simpa using v);have W:h.toList.Perm e:=by
    have p:h.extract 0 a=h:=by rw[<-g];exact Array.extract_size
    have l:e.toArray.extract 0 a=e.toArray:=by rw[show a=e.toArray.size by simpa using v.symm];exact Array.extract_size
    rw[p,l]at V;exact V
   have a2:flatK aY 3 h=(h.toList.flatMap aY).toArray:=by rw[<-xR (show 0<3 by decide) ot]
   have J:(sortWorldK aY 3 b i 0 x h q).heap[i]? =some (.cells (putCells id 0 (flatK aY 3 h) j) 135 (0,0)):=by
    have a7:=ax w;show((Sort.ahead b x).heap.modify i _++q)[i]? =_;rw[Array.getElem?_append_left (by simpa[Sort.ahead]using a7),Array.getElem?_modify,if_pos rfl];show Option.map _ b.heap[i]? =_;rw[w];rfl
   have B:ak (λu=>aF (ZX i)=some u) b (sortWorldK aY 3 b i 0 x h q):=by
    refine⟨rfl,rfl,rfl,?_,λa1 B F=>?_⟩
    ·show b.heap.size<=((Sort.ahead b x).heap.modify i _++q).size
     simp[Sort.ahead]
    ·show((Sort.ahead b x).heap.modify i _++q)[a1]? =_
     rw[Array.getElem?_append_left (by simpa[Sort.ahead]using B),Array.getElem?_modify,if_neg (λA=>F (by rw[A];rfl))]
     rfl
   have a3:(putCells id 0 (flatK aY 3 h) j).size=c*3:=by unfold putCells;rw[Array.size_mapIdx];exact H
   refine Ok.mk ⟨rfl,h.toList,by rw[<-z];exact W,?_,⟨⟨h.toList.flatMap aY,D,⟨⟨?_,.inr ⟨i,c,_,rfl,Qj _,J,P,I,a3,?_⟩⟩⟩,m_.2 ⟨rfl,λt hx=>?_⟩,Z⟩,m.self,λu C=>Qk (m.aB u C) B.size⟩,B⟩
   ·rw[List.pairwise_iff_getElem]
    intro X k hi o a8;have p:=hs X k (Qj _) a8 (by simpa[g]using o);rw[zo,getElem!_pos _ k (by simpa using o),getElem!_pos _ X (by simpa using hi)]at p;simpa using p
   ·rw[fA ot,XK,g];rfl
   ·apply X3
    intro r;rw[R,Xw];split
    ·rename_i n
     rw[jN (show 0<3 by decide) ot (by rw[XK,g];exact n),<-jN (show 0<3 by decide) ot (by rw[XK,g];exact n)];unfold putCells;have a4:r<j.size:=by rw[H];exact Qk n (Q0 _ P)
     rw[Array.getElem?_toList,Array.getElem?_mapIdx,X6 a4];simp only[Option.map_some];have K:r<(flatK aY 3 h).size:=by rw[size_flatK,g];exact n
     rw[if_pos ⟨Qj _,by rw[Xz];exact K⟩,Nat.sub_zero,getElem!_pos _ r K];have:(flatK aY 3 h)[r]=(h.toList.flatMap aY)[r]'(by rw[fA ot,XK,g];exact n):=by
      have l:=congrArg (·[r]?) a2;simp only[List.getElem?_toArray]at l;rw[X6 K,Qq (by rw[fA ot,XK,g];exact n)]at l;exact XJ l
     rw[this];exact(Qq _).symm
    ·rename_i n
     rw[Q7 (by rw[fA ot,XK,g];omega)]
   ·have L:t∈e:=W.mem_iff.1 hx
    exact O t L
  ·rintro A s ⟨M,rfl,rfl,hG⟩
   exact⟨rfl,hG⟩
end Go.Proofs.YtjgjkeponbeekaaGreatDoor
namespace Go.ar
open Go
structure aT (w:World) (F:Nat->Prop) (cls:Nat->Nat) (C:Nat->World->(Nat->Prop)->Prop):Prop where
 at':∀k,C k w (λb=>F b/\cls b=k)
 aB:∀b,F b->b<w.heap.size
def kV(a:Nat->World->(Nat->Prop)->Prop):Prop:=∀b c d G e,a b c G->ak e c d->(∀f,G f->¬e f)->a b d G
section
variable {w w':World} {F T:Nat->Prop} {cls:Nat->Nat} {C C2:Nat->World->(Nat->Prop)->Prop}
def aT.af(c:aT w F cls C)(f:kV C)(d:ak T w w')(g:∀a,F a->¬T a):aT w' F cls C:=
 ⟨λe=>f e w w' _ T (c.at' e) d λa b=>g a b.1,λa b=>Qk (c.aB a b) d.size⟩
def aT.ah(a:aT w F cls C)(b:kV C)(c:ai w w'):aT w' F cls C:=a.af b c λ_ _ a=>a
def aT.Gz(i:aT w F cls C)(n:kV C){k:Nat}{G':Nat->Prop}(h:ak (λa=>F a/\cls a=k) w w')(o:∀a,G' a->F a->cls a=k)(p:∀a,G' a->a<w'.heap.size)(q:C2 k w' G')(r:∀c G,c≠k->C c w' G->C2 c w' G):∃g d,aT w' g d C2/\ak F w w'/\(∀a,g a->((F a/\cls a≠k)\/G' a))/\(∀c,c≠k->(λa=>g a/\d a=c)=λa=>F a/\cls a=c)/\(λa=>g a/\d a=k)=G':=by
 classical
 have j:∀c,c≠k->(λa=>((F a/\cls a≠k)\/G' a)/\(if G' a then k else cls a)=c)=λa=>F a/\cls a=c:=λc f=>by
  funext a
  refine propext ⟨λb=>?_,λb=>?_⟩
  ·by_cases e:G' a
   ·rw[if_pos e]at b;exact absurd b.2.symm f
   ·rw[if_neg e]at b
    exact⟨(b.1.resolve_right e).1,b.2⟩
  ·have l:cls a≠k:=λs=>f (b.2.symm.trans s)
   rw[if_neg λe=>l (o a e b.1)];exact⟨.inl ⟨b.1,l⟩,b.2⟩
 have m:(λa=>((F a/\cls a≠k)\/G' a)/\(if G' a then k else cls a)=k)=G':=by
  funext a
  refine propext ⟨λb=>?_,λb=>⟨.inr b,if_pos b⟩⟩
  by_cases e:G' a
  ·exact e
  ·rw[if_neg e]at b;exact absurd b.2 (b.1.resolve_right e).2
 refine⟨λa=>(F a/\cls a≠k)\/G' a,λa=>if G' a then k else cls a,⟨λc=>?_,λa b=>?_⟩,h.mono λa _ b=>b.1,λa b=>b,j,m⟩
 ·by_cases f:c=k
  ·subst f
   rw[m];exact q
  ·rw[j c f]
   refine r c _ f (n c w w' _ _ (i.at' c) h λa b t=>f (b.2.symm.trans t.2))
 ·rcases b with b|b
  ·exact Qk (i.aB a b.1) h.size
  ·exact p a b
def aT.d_(e:aT w F cls C)(j:kV C){k:Nat}{G':Nat->Prop}(l:ak (λa=>F a/\cls a=k) w w')(g:∀a,G' a->(F a/\cls a=k)\/w.heap.size<=a)(m:∀a,G' a->a<w'.heap.size)(f:C2 k w' G')(n:∀c G,c≠k->C c w' G->C2 c w' G):∃d b,aT w' d b C2/\bK F w d w'/\(∀a,d a->((F a/\cls a≠k)\/G' a))/\(∀c,c≠k->(λa=>d a/\b a=c)=λa=>F a/\cls a=c)/\(λa=>d a/\b a=k)=G':=by
 obtain⟨d,b,h,f,i,o⟩:=e.Gz j l (λa p q=>(g a p).elim (·.2) λh=>by have:=e.aB a q;omega) m f n;exact⟨d,b,h,⟨f,λa r=>(i a r).elim (λe=>.inl e.1) λe=>(g a e).imp (·.1) id⟩,i,o⟩
def aT.same(e:aT w F cls C)(g:kV C){k:Nat}(f:ak (λa=>F a/\cls a=k) w w')(h:C2 k w' (λa=>F a/\cls a=k))(i:∀b G,b≠k->C b w' G->C2 b w' G):aT w' F cls C2:=
 ⟨λb=>by
  by_cases c:b=k
  ·subst c;exact h
  ·exact i b _ c (g b w w' _ _ (e.at' b) f λa d j=>c (d.2.symm.trans j.2)),λa d=>Qk (e.aB a d) f.size⟩
def aT.gv(f:aT w F cls C)(g:kV C){k:Nat}{G':Nat->Prop}(e:bK (λa=>F a/\cls a=k) w G' w')(h:∀a,G' a->a<w'.heap.size)(i:C2 k w' G')(j:∀c G,c≠k->C c w' G->C2 c w' G):∃d b,aT w' d b C2/\bK F w d w'/\(∀a,d a->((F a/\cls a≠k)\/G' a))/\(∀c,c≠k->(λa=>d a/\b a=c)=λa=>F a/\cls a=c)/\(λa=>d a/\b a=k)=G':=f.d_ g e.1 e.2 h i j
def aT.join{G:Nat->Nat->Prop}(c:∀a,C a w (G a))(i:∀f g b,G f b->G g b->f=g)(j:∀a b,G a b->b<w.heap.size):∃cls,aT w (λb=>∃a,G a b) cls C:=by
 classical
 refine⟨λb=>if c:∃a,G a b then c.choose else 0,⟨λa=>?_,λb ⟨a,d⟩=>j a b d⟩⟩;have:(λb=>(∃a,G a b)/\(if c:∃a,G a b then c.choose else 0)=a)=G a:=by
  funext b
  refine propext ⟨λ⟨e,h⟩=>?_,λd=>⟨⟨a,d⟩,?_⟩⟩
  ·rw[dif_pos e]at h;exact h▸e.choose_spec
  ·have e:∃a,G a b:=⟨a,d⟩
   rw[dif_pos e];exact i _ _ b e.choose_spec d
 rw[this];exact c a
end
end Go.ar
namespace Go.Proofs.YtjgjkeponbeekaaGreatDoor
open Go.ar
def Vo:jo Nat:=flat 1 (λb=>[ZQ b]) (λ_=>True) (λ_=>rfl) (λc d a=>by simp at a;subst a;rfl)
def Oi:jC XP 197 205 1 8:=⟨kR,kR,dC⟩
structure cd (w:World) (G:Nat->Prop) (a:Option Addr) (n c:Nat) (Rs:List de):Prop where
 body:∃ps:List (Nat×Nat),ps.length=Rs.length/\aO Vo 205 (λb=>aF a=some b) w a n c (ps.map (·.1))/\
  (∀(i j:Nat) (x y:Nat×Nat),ps[i]? =some x->ps[j]? =some y->x.1≠y.2/\(x.2=y.2->i=j))/\(∀x∈ps,G x.1/\G x.2/\aF a≠some x.1/\aF a≠some x.2)/\
  ∀(i:Nat) (x:Nat×Nat) (R:de),ps[i]? =some x->Rs[i]? =some R->kr w x.1 x.2 R
 self:∀b,aF a=some b->G b
variable{h:Program}{g q:TypeId}{p u:Value->World->Prop}
section
variable {w w':World} {G G' T:Nat->Prop} {a:Option Addr} {n c:Nat} {Rs:List de}
def cd.af(d:cd w G a n c Rs)(i:ak T w w')(e:∀b,G b->¬T b):cd w' G a n c Rs:=by
 obtain⟨j,k,l,m,f,o⟩:=d.body;exact⟨⟨j,k,l.af i λb p=>e b (d.self b p),m,f,λq g r h s=>(o q g r h s).af i (e _ (f g (QZ h)).1) (e _ (f g (QZ h)).2.1)⟩,d.self⟩
def cd.ah(b:cd w G a n c Rs)(d:ai w w'):cd w' G a n c Rs:=b.af d λ_ _ b=>b
def cd.mono(h:cd w G a n c Rs)(d:∀b,G b->G' b):cd w G' a n c Rs:=by
 obtain⟨i,j,k,l,e,m⟩:=h.body;exact⟨⟨i,j,k,l,λf g=>⟨d _ (e f g).1,d _ (e f g).2.1,(e f g).2.2⟩,m⟩,λb o=>d b (h.self b o)⟩
def cd.len(b:cd w G a n c Rs):n=Rs.length:=by
 obtain⟨f,d,e,-⟩:=b.body;rw[e.len dC,Q8,d]
def cd.nil(w:World):cd w (λ_=>False) none 0 0 []:=⟨⟨[],rfl,(aO.nil w).mono (λb a=>a.elim) (λb a=>by cases a),sM,sM,sM⟩,λb a=>by cases a⟩
def cd.elem(o:cd w G a n c Rs){b:Nat}{p:de}(v:Rs[b]? =some p):∃g f h,a=ZX g/\w.cell? ⟨g,0+b,none⟩=some (ZQ f)/\kr w f h p/\f≠h/\G f/\G h/\G g/\
  ∀w' q,ak (·=h) w w'->kr w' f h q->cd w' G a n c (Rs.set b q):=by
 obtain⟨i,C,x,k,y,z⟩:=o.body;have M:=(Qv.1 v).1;have d:i[b]? =some i[b]:=Qq oM;generalize i[b]=e at d;obtain⟨cs,D,E,F,N⟩:=x.body;have r:=y e (QZ d);obtain⟨rfl,-⟩:=m_.1 F;have H:((i.map (·.1)).flatMap λf=>[Value.pointer (ZX f)])[b]? =some (ZQ e.1):=by
  rw[jN (K:=1) dC (λ_=>rfl) (by simp;omega),Nat.div_one,Nat.mod_one,getElem!_pos _ b (by simp;omega)];simp[(Qv.1 d).2]
 obtain⟨g,A,I⟩:=E.cell H;refine⟨g,e.1,e.2,A,by rw[Xz];exact I.2,z b e p d v,(k b b e e d d).1,r.1,r.2.1,o.self g (by rw[A];rfl),λw' q B J=>⟨⟨i,by simpa using C,x.af B λO K s=>r.2.2.2 (s▸K),k,y,λl t L j m=>?_⟩,o.self⟩⟩
 by_cases u:b=l
 ·subst u
  rw[d]at j;cases j
  rw[List.getElem?_set_self oM]at m;cases m
  exact J
 ·rw[List.getElem?_set_ne u]at m
  exact(z l t L j m).af B (k l b t e j d).1 λs=>u ((k b l e t d j).2 s.symm)
def cd.push(s:cd w G a n c Rs)(I:∀b,G b->b<w.heap.size){f i M:Nat}{N:de}{W:Nat×Nat}(J:kr w f i N)(P:¬G f)(y:¬G i)(X:f≠i)(Y:jC h g 205 1 8)(Z:w.heap[M]? =some (.cells #[ZQ f] 205 W))(d:Rs.length<=1000)(K:∀l z w' G',cd w' G' l (n+1) z (Rs++[N])->ak G w w'->(∀b,G' b->G b\/b=f\/b=i\/w.heap.size<=b)->(∀b,G' b->b<w'.heap.size)->p (.slice l (n+1) z) w'):
  aG h (Builtin.append_ #[g,g] q #[.slice a n c,.slice (ZX M) 1 1]) w p u:=by
 obtain⟨m,o,L,h3,A,h5⟩:=s.body;have a1:f<w.heap.size:=ax J.at';have a2:i<w.heap.size:=J.map.lt;refine eV L Y Z (D:=λ_=>False) (x:=f) ⟨rfl,trivial⟩ (λb d=>d.elim) (by unfold aK;simp;omega) (by unfold maxLen;simp;omega) λl z w' F' Q C hF=>?_;have a0:∀b,aF l=some b->aF a=some b\/w.heap.size<=b:=λb d=>(hF b (Q.self b d)).imp id λs=>s.resolve_left id;have t:=Q.alone;have a5:=C.size;have R:∀b,aF l=some b->aF a=some b\/w.heap.size<=b:=a0;have F:∀b,b<w.heap.size->aF a≠some b->aF l≠some b:=λb d o L=>(R b L).elim o oM;have S:aF a≠some f:=λk=>P (s.self f k);have T:aF a≠some i:=λk=>y (s.self i k);refine K l z w' (λb=>(G b\/b=f\/b=i\/aF l=some b)) ⟨⟨m++[(f,i)],by simp[o],by rw[Q3];exact t,λj U x v B H=>?_,λx B=>?_,λj x a3 B r=>?_⟩,λb d=>.inr (.inr (.inr d))⟩ (C.mono λb _ d=>s.self b d) (λb d=>?_) λb d=>?_
 ·have E:∀j x,(m++[(f,i)])[j]? =some x->(m[j]? =some x)\/(j=m.length/\x=(f,i)):=λj x B=>by
   rw[List.getElem?_append]at B;split at B
   ·exact .inl B
   ·rename_i V
    have:j-m.length=0:=by
     rcases Nat.eq_zero_or_pos (j-m.length)with O|O
     ·exact O
     ·rw[Q7 (by simp;omega)]at B;cases B
    rw[this]at B;simp at B;exact .inr ⟨oM,B.symm⟩
  rcases E j x B with B|⟨rfl,rfl⟩<;>rcases E U v H with H|⟨rfl,rfl⟩
  ·exact h3 j U x v B H
  ·have e:=A x (QZ B)
   exact⟨λk=>y ((show x.1=i from k)▸e.1),λk=>absurd ((show x.2=i from k)▸e.2.1) y⟩
  ·have e:=A v (QZ H)
   exact⟨λk=>P ((show f=v.2 from k)▸e.2.1),λk=>absurd ((show i=v.2 from k)▸e.2.1) y⟩
  ·exact⟨X,λ_=>rfl⟩
 ·rcases Q6.1 B with B|B
  ·have e:=A x B
   exact⟨.inl e.1,.inl e.2.1,F _ (I _ e.1) e.2.2.1,F _ (I _ e.2.1) e.2.2.2⟩
  ·simp at B;subst B
   exact⟨.inr (.inl rfl),.inr (.inr (.inl rfl)),F _ a1 S,F _ a2 T⟩
 ·rw[List.getElem?_append]at B r
  rw[<-o]at r;split at B
  ·rename_i a4
   rw[if_pos a4]at r;have e:=A x (QZ B);exact(h5 j x a3 B r).af C e.2.2.1 e.2.2.2
  ·rename_i V
   rw[if_neg V]at r;have:j-m.length=0:=by
    rcases Nat.eq_zero_or_pos (j-m.length)with O|O
    ·exact O
    ·rw[Q7 (by simp;omega)]at B;cases B
   rw[this]at B r;simp at B r;subst B r;exact J.af C S T
 ·rcases d with d|d|d|d
  ·exact .inl d
  ·exact .inr (.inl d)
  ·exact .inr (.inr (.inl d))
  ·rcases R b d with o|o
   ·exact .inl (s.self b o)
   ·exact .inr (.inr (.inr o))
 ·rcases d with d|d|d|d
  ·have:=I b d;omega
  ·omega
  ·omega
  ·exact t.aB b d
def WS:jo (List de) where
 k:=2
 rep:=λw D Rs cs=>∃b a n c,cs=[.pointer b,.slice a n c]/\cd w D a n c Rs
 af:=λ⟨b,a,n,c,d,e⟩ h f=>⟨b,a,n,c,d,e.af h f⟩
 mono:=λ⟨b,a,n,c,d,e⟩ f=>⟨b,a,n,c,d,e.mono f⟩
 len:=λ⟨b,a,n,c,d,e⟩=>by rw[d];rfl
 one:=λ⟨b,a,n,c,d,e⟩ i g=>by
  rw[d]at g;simp only[Q2,List.not_mem_nil,or_false]at g;rcases g with rfl|rfl<;>rfl
def UB:jC XP 200 199 2 32:=⟨kR,kR,dC⟩
end
def IW(a:aM)(b:List aj)(c:aj):dE a (b++[c])=(dE a b).add c:=by unfold dE;rw[List.foldl_append];rfl
def IY(a:aM)(b:List aj)(c:aj):cm a (b++[c])=((cm a b).add c).2:=by unfold cm;rw[List.foldl_append];rfl
def IX(c:aM)(a:List aj):(dE c a).view=cm c a:=by
 have:∀(a:List aj) (b:jB),(a.foldl jB.add b).view=a.foldl (λe d=>(e.add d).2) b.view:=by
  intro a
  induction a with
  |nil=>intro b;rfl
  |cons d a f=>intro b;rw[List.foldl_cons,List.foldl_cons,f];rfl
 exact this a _
variable{a:Nat}{P:aM}
def GD(e:cN P=0)(b:List aj):(cm P b).OK/\(cm P b).decl=P:=by
 have:∀(b:List aj) (a:aU),a.OK->(b.foldl (λa c=>(a.add c).2) a).OK/\(b.foldl (λa c=>(a.add c).2) a).decl=a.decl:=by
  intro b
  induction b with
  |nil=>intro a d;exact⟨d,rfl⟩
  |cons c b f=>
   intro a d;obtain⟨g,h⟩:=aU.zy d c;obtain⟨i,j⟩:=f _ g;exact⟨i,j.trans h⟩
 exact this b _ (aU.sF e)
def de.UD(b:de)(c:cy)(a:Int):(b.add c a).p=b.p:=by
 unfold de.add;dsimp only;split
 ·rfl
 ·split<;>rfl
def Gy(e:aM)(a:List aj):(dE e a).rows.map (·.p)=e.projs:=by
 have:∀(a:List aj) (b:jB),(a.foldl jB.add b).rows.map (·.p)=b.rows.map (·.p):=by
  intro a
  induction a with
  |nil=>intro b;rfl
  |cons c a f=>
   intro b;rw[List.foldl_cons,f];show((b.rows.map λd=>d.add (b.view.add c).1 (rW ((b.view.add c).2.state c.aS c.agg) d.p)).map (·.p))=_;rw[List.map_map];exact List.map_congr_left λd _=>d.UD _ _
 refine(this a _).trans ?_;show(e.projs.map λg=>(⟨g,[]⟩:de)).map (·.p)=_;rw[List.map_map];exact List.map_id _
def pq(a:aM)(b:List aj):(dE a b).rows.length=a.projs.length:=by
 rw[<-Gy a b,Q8]
def jH(c:aM)(a:Nat)(b:List aj):List (List de):=(List.range (b.length/a+1)).map λd=>(dE c (b.take (d*a))).rows
section
variable {d:aM} {every:Nat} {l:List aj}
def zu:(jH d every l).length=l.length/every+1:=by simp[jH]
def Oo(b:a<=l.length/every):(jH d every l)[a]? =some (dE d (l.take (a*every))).rows:=by
 unfold jH;rw[Q9,List.getElem?_range oM];rfl
def Ov:jH d every []=[(dE d []).rows]:=by
 unfold jH;rw[List.length_nil,Nat.zero_div];simp
def Mk(f:0<every)(g:aj):jH d every (l++[g])=if l.length+1=(l.length/every+1)*every then jH d every l++[(dE d (l++[g])).rows]else jH d every l:=by
 have i:=Nat.div_add_mod l.length every;have j:=Nat.mod_lt l.length f;have b:∀a,a<=l.length/every->(l++[g]).take (a*every)=l.take (a*every):=λa c=>by
  have:a*every<=l.length:=Xx (Q0 _ c) (Nat.div_mul_le_self ..);rw[List.take_append_of_le_length this]
 split
 ·rename_i e
  have h:(l.length+1)/every=l.length/every+1:=by rw[e];exact Nat.mul_div_cancel _ f
  unfold jH;rw[QX,List.length_singleton,h,List.range_succ,Q3]
  congr 1
  ·refine List.map_congr_left λa c=>?_
   rw[b a (by have:=List.mem_range.1 c;omega)]
  ·rw[List.map_singleton,<-e,Qz sM]
 ·rename_i e
  have h:(l.length+1)/every=l.length/every:=by
   have k:(l.length+1)/every<l.length/every+1:=by
    rw[Nat.div_lt_iff_lt_mul f];rw[X7,Nat.one_mul,Nat.mul_comm]at e⊢;omega
   have m:l.length/every<=(l.length+1)/every:=Nat.div_le_div_right oM;omega
  unfold jH;rw[QX,List.length_singleton,h];refine List.map_congr_left λa c=>?_;rw[b a (by have:=List.mem_range.1 c;omega)]
def Mn(c:0<every)(e:a<=l.length/every):(jH d every l).take (a+1)=jH d every (l.take (a*every)):=by
 have f:a*every<=l.length:=Xx (Q0 _ e) (Nat.div_mul_le_self ..);unfold jH;rw[Qy,X2 f,Nat.mul_div_cancel _ c,<-List.map_take,List.take_range,X2 oM];refine List.map_congr_left λg h=>?_;have b:g<=a:=by have:=List.mem_range.1 h;omega
 rw[List.take_take,X2 (Q0 _ b)]
end
end Go.Proofs.YtjgjkeponbeekaaGreatDoor

import Derived.Test.YthnilpgpacdmnaaGreatDoorK22
namespace Go.Proofs.YthnilpgpacdmnaaGreatDoor
open Go.au
set_option linter.unusedVariables false
set_option maxRecDepth 20000
variable{H:List aj}{a c:Nat}{f:Nat->Prop}{d:Option Addr}{J:aM}{m:aj}
section
variable {w w':World} {p:Nat} {F T D:Nat->Prop} {V:aU} {q:DE}
abbrev DH (a:cC) (b:Option Addr) (c d:Nat):Value:=.agg (gg a b c d).toArray
theorem FK (M:cd w p F V) (hT:eu w) (hr:Row aG 8 w D d a m.aN) (r:∀b,D b->b<w.heap.size/\¬F b) (he:m.Ok) (e:((aD V.done (m.aT,m.agg,m.field)).getD []).length<=20000000) (N:V.entries.length<=20000000):
  Calls Tryz.prog 81 #[.pointer (some ⟨p,0,none⟩),ji m d a c] w (Ok λW w'=>∃d a c G,W=DH (V.add m).1 d a c/\Row aG 8 w' G d a m.aN/\∃X,cd w' p X (V.add m).2/\cz F w X w'/\∀b,G b->w.heap.size<=b/\b<w'.heap.size/\¬X b):=by
 have Y:=M.aC;have h6:=Y _ M.self;refine xG (PA.mk λu e5 h7 d0=>PA.mk λh8 Z h9 e6=>?_);have k0:=e5.then Z;refine ar (aV m d a c) (Z.get d0 id) (PC.ok (mZ (hr.ah k0) λb e=>by have:=(r b e).1;omega) ?_);rintro _ i0 ⟨a6,n1,c1,G1,rfl,e7,v,O⟩;have a0:=k0.then O;refine bF (qB m a6 n1 c1) ⟨rfl,PC.ok (Po (M.ah a0) (hT.ah a0) e7 (λb e=>⟨(v b e).2,λk=>by have:=Y b k;have:=v b e;omega⟩) he e) ?_⟩;rintro _ x ⟨rfl,g,b8,P,Q⟩;have i1:=O.size;have i2:=P.size;have b0:∀b,g b->F b\/w.heap.size<=b:=λb e=>by
  rcases Q b e with f|f|f
  ·exact .inl f
  ·have:=v b f;exact .inr oM
  ·exact .inr oM
 have b1:ak F w x:=(ai.af a0).then P;have R:∀{b:Nat},w.heap.size<=b->¬F b:=λ{b} e k=>by have:=Y b k;omega
 have d1:=P.get (O.get (Z.get d0 id) id) (R (Q4 _));have d2:=P.get (O.get e6 id) (R oM);refine⟨_,_,_,rfl,PA.mk λi3 e8 i4 e9=>PS.mk e9 sM λi5 f2 i6 g0=>PS.mk g0 sM λi7 g1 i8 g2=>λy b9=>?_⟩;have B:ai x y:=((e8.new f2 λb e=>.inr oM).new g1 λb e=>.inr oM).then b9.af;have i9:y.heap.size=x.heap.size+1:=by rw [b9.heap];omega
 have a1:y.heap[x.heap.size]? =some (.cells #[.int .i64 (V.try m).2.1.1,.int .i64 (V.try m).2.1.2] 48 (0,0)):=(b9.af (S:=λ_=>False)).get g2 id;have b2:=B.get d1 id;obtain⟨h5,q,h⟩:=b8.ah B;have c0:=b8.self;have z:=b8.aC;have b3:=((hr.af b1 λb e=>(r b e).2).ah B)
 have a4:(V.try m).2.2.entries=V.entries:=by
  rw [aU.qx];split;rfl;split;rfl;split<;>rfl
 have j0:=h.MW.len dC;have C:∀b,aF q.ea=some b->g b/\q.cls b= .MW:=λb e=>h.MW.self b e;have E:¬aF q.ea=some p:=λl=>by have f:=(C p l).2;rw [h.lp.2]at f;cases f
 refine⟨λb=>aF q.ea=some b,p,0,rfl,E,_,_,_,ae h.at' rfl,ar (aV m d a c) b2 ⟨λl=>by have:=z _ (C _ l).1;omega,_,_,ae a1 rfl,ae a1 rfl,PC.ok (mZ b3 λb e=>by have:=(r b e).1;omega) ?_⟩⟩;rintro _ j1 ⟨a7,n2,c2,G2,rfl,g3,A,c4⟩;have j2:=c4.size;refine⟨_,_,_,_,_,_,_,_,_,_,_,_,rfl,ai.af c4,PA.mk λd3 c5 j3 g4=>⟨ai.af c5,?_⟩⟩;have a2:=c4.then c5;refine dQ (c:=xt) (x:=⟨m,(V.try m).1,(V.try m).2.1⟩) (h.MW.ah a2) Pj g4 (D:=G2) ⟨a7,n2,c2,rfl,g3.ah c5,he⟩ (λb e=>⟨by have:=A b e;omega,λl=>by have:=z _ (C _ l).1;have:=A b e;omega⟩) (by rw [a4];unfold aI;omega) (by rw [a4];unfold maxLen;omega) λa' H d4 F2 b4 c6 c7=>⟨_,_,_,rfl,p,0,rfl,?_⟩
 have j4:=c6.size;have d5:=c6.get ((h.ah a2).at') E;refine PS.mk d5 sM λI g5 j5 g6=>λs d6=>?_;have d7:ai I s:=d6.af;have j6:s.heap.size=I.heap.size:=by rw [d6.heap]
 have a5:ak (·=p) d4 s:=g5.ah d7;have k5:ak (λb=>aF q.ea=some b\/b=p) y s:=((ai.af a2).then (c6.mono λb _ e=>.inl e)).then (a5.mono λb _ e=>.inr e);have J:ak g y s:=k5.mono λb _ e=>e.elim (λf=>(C b f).1) λf=>f▸c0;have c8:∀{b:Nat},x.heap.size<=b->¬g b:=λ{b} e k=>by have:=z b k;omega
 have g7:¬g w.heap.size:=λk=>by
  rcases Q _ k with f|f|f
  ·exact R (Q4 _) f
  ·have:=v _ f;omega
  ·omega
 have c9:¬g u.heap.size:=λk=>by
  rcases Q _ k with f|f|f
  ·exact R oM f
  ·have:=v _ f;omega
  ·omega
 have d8:=J.get b2 g7;have d9:=J.get (B.get d2 id) c9;have b5:=J.get a1 (c8 (Q4 _));have e0:∀b,D b->¬g b:=λb e k=>by
  rcases Q _ k with f|f|f
  ·exact(r b e).2 f
  ·have:=v _ f;have:=(r b e).1;omega
  ·have:=(r b e).1;omega
 have e1:=b3.af J e0;have j7:=k5.size;refine⟨λb=>b=u.heap.size,ar (aV m d a c) d8 ⟨oM,_,_,ae b5 rfl,ae b5 rfl,PC.ok (mZ e1 λb e=>by have:=(r b e).1;omega) ?_⟩⟩;rintro _ j8 ⟨a3,n3,c3,G3,rfl,g8,e2,K⟩;have j9:=K.size;refine⟨_,_,_,_,_,_,_,_,_,_,_,_,rfl,ai.af K,az (ko ⟨m,(V.try m).1,(V.try m).2.1⟩ a3 n3 c3) (K.get d9 id) rfl λe3 S k2 g9=>⟨S,ar (ko ⟨m,(V.try m).1,(V.try m).2.1⟩ a3 n3 c3) g9 (Ok.mk ⟨a3,n3,c3,G3,rfl,g8.af S λb e l=>by have:=e2 b e;omega,λb=>b<I.heap.size/\(g b\/G2 b\/d3.heap.size<=b),?_,⟨?_,?_⟩,?_⟩)⟩⟩
 ·have h3:=(aU.yI (by
   have:V.OK:=M.1;exact this) m).1
  have T:ak (λb=>b=u.heap.size) s e3:=(ai.af K).then S;have zc:=T.size;have h4:∀b,g b->b<I.heap.size:=λb e=>by have:=z b e;omega
  classical
  have e4:∀b,g b->(if g b then q.cls b else Ic.MW)=q.cls b:=λb e=>if_pos e;have L:ak (λb=>(aF q.ea=some b\/b=p)\/b=u.heap.size) y e3:=(k5.mono λb _ e=>.inl e).then (T.mono λb _ e=>.inr e);have i:∀(o:Ic) b,o≠.MW->o≠.self->g b/\q.cls b=o->¬((aF q.ea=some b\/b=p)\/b=u.heap.size):=λo b f U e n=>by
   rcases n with(n|n)|n
   ·exact f (e.2.symm.trans (C b n).2)
   ·subst n;exact U (e.2.symm.trans h.lp.2)
   ·subst n;exact c9 e.1
  have j:∀(o:Ic) b,g b/\q.cls b=o->((b<I.heap.size/\(g b\/G2 b\/d3.heap.size<=b))/\(if g b then q.cls b else Ic.MW)=o):=λo b e=>⟨⟨h4 b e.1,.inl e.1⟩,(e4 b e.1).trans e.2⟩
  refine⟨h3,⟨q.ta,q.tn,q.tc,q.pa,q.pn,q.pc,a',q.en+1,H,q.r1,q.r2,q.l1,q.l2,λb=>if g b then q.cls b else Ic.MW⟩,?_,?_,?_,?_,?_,?_,?_,λb e=>by have:=e.1;omega,j _ _ h.lp,j _ _ h.l1,j _ _ h.l2⟩
  ·exact T.get (d7.get g6 id) oM
  ·exact(h.Pm.af L λb e=>i _ b sM sM e).mono (j _)
  ·have N:∀b,F2 b->b<d4.heap.size/\b≠u.heap.size/\b≠p:=λb e=>by
    refine⟨b4.aC b e,λl=>?_,λl=>?_⟩
    ·rcases c7 b e with f|f|f
     ·exact c9 (l▸f.1)
     ·have:=A b f;omega
     ·omega
    ·rcases c7 b e with f|f|f
     ·have U:=f.2;rw [l,h.lp.2]at U;cases U
     ·have:=A b f;have:=z p c0;omega
     ·have:=z p c0;omega
   have:(V.add m).2.entries=(V.try m).2.2.entries++[⟨m,(V.try m).1,(V.try m).2.1⟩]:=rfl;rw [this];refine((b4.af a5 λb e=>(N b e).2.2).af T λb e=>(N b e).2.1).mono (λb e=>?_) λb e=>by have:=e.1.1;omega
   have h0:=(N b e).1;rcases c7 b e with f|f|f
   ·exact j _ b f
   ·have:=A b f
    refine⟨⟨oM,.inr (.inl f)⟩,?_⟩;show(if g b then _ else _)=_;rw [if_neg (c8 oM)]
   ·refine⟨⟨oM,.inr (.inr f)⟩,?_⟩
    show(if g b then _ else _)=_;rw [if_neg (c8 oM)]
  ·exact h.st.af L (i _ _ sM sM h.l1)
  ·refine h.Ug.mono λW a8 t=>?_
   obtain⟨x1,x2,x3,rfl,t⟩:=t;exact⟨x1,x2,x3,rfl,(t.af L λb e=>i _ b sM sM e).mono (j _)⟩
  ·exact h.dn.af L (i _ _ sM sM h.l2)
  ·refine h.Ut.mono λa9 W a8 t=>?_
   obtain⟨x1,x2,x3,rfl,t⟩:=t;exact⟨x1,x2,x3,rfl,(t.af L λb e=>i _ b sM sM e).mono (j _) λb e=>by have:=e.1.1;omega⟩
 ·have k1:ak g x s:=(ai.af B).then J
  exact((b1.new k1 b0).ah K).new S λb e=>.inr oM
 ·intro b e
  rcases e.2 with f|f|f
  ·exact b0 b f
  ·have:=A b f;exact .inr oM
  ·exact .inr oM
 ·intro b e
  have:=e2 b e;refine⟨oM,oM,λn=>by have:=n.1;omega⟩
theorem DI (f:aM):∀(c:List aj) (a:aU) (b:Int×Int×Int),(((aD (c.foldl (λa e=>(a.add e).2) a).done b).getD []).length<=((aD a.done b).getD []).length+c.length)/\(c.foldl (λa e=>(a.add e).2) a).entries.length=a.entries.length+c.length
 |[],a,b=>by simp
 |e::c,a,b=>by
  rw [List.foldl_cons];obtain⟨g,h⟩:=DI f c (a.add e).2 b;have k:((aD (a.add e).2.done b).getD []).length<=((aD a.done b).getD []).length+1:=by
   show((aD (a.try e).2.2.done b).getD []).length<=_;rw [aU.qx];split
   ·simp
   split
   ·simp
   split
   ·simp
   ·simp only
    rw [qm];split
    ·rename_i i
     have d:b=(e.aT,e.agg,e.field):=by simpa using i
     rw [d];simp
    ·simp
  have j:(a.add e).2.entries.length=a.entries.length+1:=by
   show((a.try e).2.2.entries++[_]).length=_;have:(a.try e).2.2.entries=a.entries:=by rw [aU.qx];split;rfl;split;rfl;split<;>rfl
   rw [this];simp
  refine⟨?_,by rw [h,j];simp;omega⟩;simp only [Xq]at g⊢;omega
theorem FJ {q r s:Option Addr} {tn O t P j Q:Nat} (R:cO J=0) (S:eu w) (T:aW w D J q tn r t) (U:∀a,D a->a<w.heap.size) (u:Row f_ 96 w f s j H) (v:∀a,f a->a<w.heap.size) (c:H.length<=20000000):
  Calls Tryz.prog 39 #[.agg #[.slice q tn O,.slice r t P],.slice s j Q] w (Ok λV w'=>∃p F,V= .pointer (some ⟨p,0,none⟩)/\cd w' p F (cg J H)/\(∀a,F a->w.heap.size<=a)/\ai w w'):=by
 refine IG (PA.mk λw1 x s1 y=>⟨_,_,_,_,_,_,ae y rfl,ae y rfl,PC.ok (FU R (T.ah x) λa c=>by have:=U a c;omega) ?_⟩);rintro _ w9 ⟨p,W,rfl,e,X,z⟩;have a9:=u.len;have Y:=x.then z;have z9:=z.size;refine⟨_,rfl,λA o w'=>∃b:Nat,o=b/\b<=j/\A=j-b/\∃F,cd w' p F (cg J (H.take b))/\(∀a,F a->w.heap.size<=a)/\ai w w',⟨_,0,rfl,Qj _,rfl,W,e,λa c=>by have:=X a c;omega,Y⟩,?_⟩;rintro A _ _ Z ⟨b,rfl,hj,rfl,F,e,k,g⟩;refine al.dec (λb0=>?_) (λb1=>?_)
 ·have B:b<H.length:=oM
  obtain⟨a,a0,es,ha,a1,b2,C,l,m,n,rfl,E,I⟩:=(u.ah g).el b H[b] (Qq B);have K:H[b]? =some H[b]:=Qq B;generalize H[b]=d at C E I K;refine⟨a,a0,ha,oM,oM,bq (es:=aB d l m n) (k:=10) (aV d l m n) rfl (λo ht=>C o ht) (PA.mk λb3 a3 b4 a5=>az (aV d l m n) a5 rfl λa6 a7 b5 a8=>ar (aV d l m n) a8 ?_)⟩;have h:ai Z a6:=a3.new a7 λa c=>.inr oM;have L:=DI J (H.take b) (aU.new J) (d.aT,d.agg,d.field);have b6:=List.length_take_le b H;have b7:((aD (cg J (H.take b)).done (d.aT,d.agg,d.field)).getD []).length<=0+(H.take b).length:=L.1;have b8:(cg J (H.take b)).entries.length=0+(H.take b).length:=L.2;have b9:=g.size;have c0:=h.size;refine PC.ok (FK (e.ah h) (S.ah (g.then h)) (E.ah h) (λa c=>⟨by have:=v a c;omega,λhf=>by have:=k a hf;have:=v a c;omega⟩) I oM oM) ?_;rintro _ c1 ⟨a4,n4,c4,G,rfl,-,F',i,M,-⟩;refine bF (Nh _ a4 n4 c4) ⟨rfl,_,?_,b+1,aq oM,oM,rfl,F',?_,λa c=>?_,(g.then h).new M.1 λa c=>.inr (k a c)⟩
  ·omega
  ·rw [Qw,K]
   unfold cg at i⊢;rw [List.foldl_append];exact i
  ·rcases M.2 a c with N|N
   ·exact k a N
   ·omega
 ·rw [Qz oM]at e
  exact Ok.mk ⟨p,F,rfl,e,k,g⟩
end
end Go.Proofs.YthnilpgpacdmnaaGreatDoor
namespace Go.au
open Go
set_option linter.unusedVariables false
variable{a1:List Value}{C a b4 c i l:Nat}{f:Nat->Prop}{d p:Option Addr}{h:Program}{L j:Type}{g q:TypeId}{b:World}{y:World->Prop}
theorem MU {cs:List j} {p m:Nat} {v:j} {vs:List j} (a:p<cs.length):(cs.set p v).take (p+1)++vs++(cs.set p v).drop (p+1+m)=cs.take p++(v::vs)++cs.drop (p+(m+1)):=by
 have b:(cs.set p v).take (p+1)=cs.take p++[v]:=by
  rw [Qw,Xj,if_pos rfl,if_pos a,List.take_set_of_le (Q4 _)];rfl
 have c:(cs.set p v).drop (p+1+m)=cs.drop (p+(m+1)):=by
  rw [List.drop_set_of_lt oM,show p+1+m=p+(m+1) by omega]
 rw [b,c];simp
theorem Bn {m:TypeId} {n:Nat} {h:Option Addr} {o e b i f:Nat} {p:World->Prop} (q:h=some ⟨i,f,none⟩):∀(c:List Value) (a:Nat) {d:World} {cs:List Value},Own d m n h o e cs->b+a+c.length<=cs.length->
  (∀g,Own g m n h o e (cs.take (b+a)++c++cs.drop (b+a+c.length))->ak (λi=>aF h=some i) d g->g.heap.size=d.heap.size->p g)->iq ⟨i,f+b,none⟩ a c d p
 |[],a,d,cs,j,r,k=>k d (by simpa using j) (ak.refl _) rfl
 |v::c,a,d,cs,j,r,k=>by
  unfold iq;rw [Xq]at r;rw [Addr.add_lit,Nat.add_assoc];refine j.set (m:=b+a) oM q λg s t u=>Bn q c (a+1) s (by simp;omega) λw l x y=>k w ?_ (t.then x) (y.trans u);have:=MU (cs:=cs) (p:=b+a) (m:=c.length) (v:=v) (vs:=c) oM;rw [show b+(a+1)=b+a+1 from rfl]at l;rw [this]at l;exact l
theorem Own.store {l e m i f:Nat} {c cs:List Value} (o:Own b q a d l e cs) (p:d=some ⟨i,f,none⟩) (n:gP h g c=true) (r:m+c.length<=cs.length)
  (k:∀j,Own j q a d l e (cs.take m++c++cs.drop (m+c.length))->ak (λi=>aF d=some i) b j->j.heap.size=b.heap.size->y j):xu h g (.pointer (some ⟨i,f+m,none⟩)) (.agg c.toArray) b y:=by
 simp only [gP,QK]at n;obtain⟨⟨⟨s,x⟩,t⟩,u⟩:=n;unfold xu;have v:Nat.beq c.toArray.size (kK h g)=true:=by simpa using t
 have w:c.toArray.toList.all Value.oneCell'=true:=by simpa using u
 simp only [s,v,w];exact Bn p c 0 o (by simpa using r) k
theorem eg.store {e:eg j L} {r:List (Bx j)} (x:aO e.jt q f b d a c r) {k:Bx j} (z:r[i]? =some k) {E u:Nat} (N:d=some ⟨E,u,none⟩)
  (F:a1=(e.hd k.x p l C).take b4) (a2:e.o<b4) (a3:b4<=e.k) (O:gP h g a1=true)
  (A:∀t,aO e.jt q f t d a c (r.set i ⟨k.x,p,l,C⟩)->ak (λm=>aF d=some m) b t->t.heap.size=b.heap.size->y t):xu h g (.pointer (some ⟨E,u+i*e.k,none⟩)) (.agg a1.toArray) b y:=by
 obtain⟨cs,D,P,H,Q⟩:=x.body;have I:=bu.mu.1 H;have R:i<r.length:=(Qv.1 z).1;have J:cs.length=r.length*e.k:=by rw [I];exact jT (λm:Bx j=>e.hl m.x m.a m.n m.c) r
 have v:a1.length=b4:=by rw [F,Qy,e.hl];omega
 have S:(i+1)*e.k<=r.length*e.k:=Q0 _ R;rw [X7,Nat.one_mul]at S;refine P.store (m:=i*e.k) N O (by rw [J,v];omega) λt T U K=>A t ⟨⟨_,D,T,bu.mu.2 ?_,Q⟩,x.self,λm V=>by rw [K];exact x.aC m V⟩ U K;have W:=pU (enc:=λm:Bx j=>e.hd m.x m.a m.n m.c) (k:=e.k) (λm=>e.hl m.x m.a m.n m.c) (x':=⟨k.x,p,l,C⟩) (v:=.slice p l C) e.ho r i k z (e.eR ..).symm;rw [<-W,<-I,v];have X:∀n,n<e.k->cs[i*e.k+n]? =(e.hd k.x k.a k.n k.c)[n]? :=λn Y=>by
  obtain⟨Z,B,M⟩:=H.at z;have a0:Z=e.hd k.x k.a k.n k.c:=M.1;rw [<-a0];exact B n Y
 apply X3;intro n;have s:∀o,o<b4->a1[o]? =(e.hd k.x p l C)[o]? :=λo hu=>by rw [F,Xw,if_pos hu]
 by_cases B:n<i*e.k
 ·rw [XQ,XW (by rw [Qy];omega),Xw,if_pos B,Xj,if_neg oM]
 ·by_cases M:n<i*e.k+b4
  ·rw [XQ,X8 (by rw [Qy];omega),XW (by rw [Qy,v];omega),Qy,s _ oM]
   obtain⟨o,rfl⟩:∃o,n=i*e.k+o:=⟨n-i*e.k,oM⟩
   rw [X2 oM,Nat.add_sub_cancel_left,Xj];have w:=e.eR k.x k.a k.n k.c p l C;split
   ·rename_i q
    have:o=e.o:=oM
    subst this;rw [if_pos (by rw [J];have:=e.ho;omega),<-w,Xj,if_pos rfl,if_pos (by rw [e.hl];exact e.ho)]
   ·rename_i q
    rw [X o oM,<-w,Xj,if_neg oM]
  ·rw [X8 (by rw [QX,Qy,v];omega),QX,Qy,v,List.getElem?_drop,Xj,if_neg (by have:=e.ho;omega)]
   congr 1
   omega
end Go.au
namespace Go.au
open Go
variable{h:Program}{y:World->Prop}
section
variable {α β:Type} {N:eg α β} {w9 w w':World} {a:Option Addr} {n c j:Nat} {L0:List (Bx α)} {e:TypeId}
theorem dF.step2 {i:TypeId} (z:dF N e w9 a n c L0 j w) {g:Nat} (p:a=Option.some ⟨g,0,none⟩) {d:Bx α} (k:L0[j]? =Option.some d) {a':Option Addr} {n' c':Nat} {G:Nat->Prop} (A:Row N.ci N.ib w G a' n' (N.inner d.x)) (C:N.ok d.x)
  (l:∀b,G b->w9.heap.size<=b/\b<w.heap.size) (U:g<w9.heap.size) {hd:List Value} {r:Nat} (E:hd=(N.hd d.x a' n' c').take r) (F:N.o<r) (H:r<=N.k) (I:gP h i hd=true) 
  (m:∀w',dF N e w9 a n c L0 (j+1) w'->ak (λd=>aF a=Option.some d) w w'->w'.heap.size=w.heap.size->y w'):xu h i (.pointer (Option.some ⟨g,0+j*N.k,none⟩)) (.agg hd.toArray) w y:=by
 obtain⟨J,K,L,M,O,q,P,s⟩:=z;have t:J[j]? =Option.some d:=by rw [q j (Q4 _)];exact k
 have Q:=(Qv.1 t).1;have u:∀b,G b->¬aF a=Option.some b:=λb B e=>by
  have:=(l b B).1;rw [p]at e;simp only [aF,Q1]at e;omega
 refine eg.store L t p E F H I λR S f o=>m R ⟨_,λb=>K b\/G b,S,?_,?_,?_,P.then f,?_⟩ f o
 ·rw [List.map_set,M]
  apply X3;intro i;rw [Xj];split
  ·rename_i e;subst e
   rw [if_pos (by simpa using(Qv.1 k).1),Q9,k];rfl
  ·rfl
 ·intro v b V B
  rw [Xj]at B
  by_cases x:j=v
  ·subst x
   rw [if_pos rfl,if_pos Q]at B
   cases B
   exact⟨(A.af f λb B=>u b B).mono λb B=>.inr B,C⟩
  ·rw [if_neg x]at B
   exact((O v b oM B).af f λb B=>(s b B).2.2).mono λb B=>.inl B
 ·intro T W
  rw [Xj,if_neg oM,q T oM]
 ·rintro b (B|B)
  ·rw [o];exact s b B
  ·rw [o];exact⟨(l b B).1,(l b B).2,u b B⟩
end
end Go.au
namespace Go.Proofs.YthnilpgpacdmnaaGreatDoor
open Go.au
set_option linter.unusedVariables false
set_option maxRecDepth 20000
variable{a c:Nat}{d:Option Addr}
section
variable {w w':World} {p:Nat} {F D:Nat->Prop} {V:aU}
theorem yl {b:List (Bx cC)} (f:Row Kk.jt 120 w D d a b) (g:∀e,D e->e<w.heap.size):Calls Tryz.prog 389 #[.slice d a c] w (Ok (oy Kk.jt 160 w b)):=
 fI (yT Pj dC f g λi w' h=>Ok.mk h)
theorem DK (e:cd w p F V) (c:V.entries.length<=20000000):Calls Tryz.prog 387 #[.pointer (some ⟨p,0,none⟩)] w (Ok (oy xt 160 w V.entries)):=by
 obtain⟨X,Y,e⟩:=e;have l:=e.MW.row (bytes:=120) dC (by unfold aI;omega);have I:=l.dt;have Z:=l.len;obtain⟨g,x,J,K⟩:=eg.boxes l;have a8:g.length=V.entries.length:=by rw [<-x];simp
 refine qU ⟨p,0,rfl,_,_,_,ae e.at' rfl,PC.ok (yl J λa c=>e.aC a c.1) ?_⟩;rintro _ y ⟨j,h,z,F9,rfl,k,A,L⟩;have m:∀a,aF j=some a->w.heap.size<=a:=λa c=>L a (k.self a c);have M:∀a,aF j=some a->a<y.heap.size:=λa c=>k.aC a (k.self a c);refine⟨_,_,_,rfl,λB N w'=>∃d:Nat,N=d/\d<=h/\B=h-d/\dF Kk 160 y j h z g d w',⟨_,0,rfl,Qj _,rfl,dF.start k.alone⟩,?_⟩;rintro B _ _ O ⟨d,rfl,hj,rfl,f⟩;have b0:=f.len;have n:ai w O:=A.new f.af λa c=>.inr (m a c);have zk:=f.af.size;refine al.dec (λb1=>?_) (λb2=>?_)
 ·obtain⟨i,rfl⟩:=f.some oM
  have b3:=m i rfl;have P:=M i rfl;have o:g[d]? =some g[d]:=Qq oM;have q:=K g[d] (XY oM);generalize g[d]=b at o q;refine⟨i,0,rfl,oM,oM,bq (es:=aB b.x.ev b.a b.n b.c) (k:=10) (aV _ _ _ _) rfl (λr Q=>?_) (PC.ok (mZ (e:=b.x.ev) (q.1.ah n) λa c=>by have:=e.aC a c.1;have:=n.size;omega) ?_)⟩
  ·have R:=f.cell rfl o (by show h*13<=aI;unfold aI at I⊢;omega) r
   rw [Qx];have s:r<(aB b.x.ev b.a b.n b.c).length:=Q;rw [Qq s];refine R _ ?_;show(aB b.x.ev b.a b.n b.c++_)[r]? =_;rw [XW s,Qq s]
  rintro _ b4 ⟨t,u,v,G,rfl,S,C,T⟩;refine bF (qB b.x.ev t u v) ⟨rfl,i,0,rfl,oM,oM,?_⟩;rw [Qx];refine(f.ah T).step2 (g:=i) rfl o (a':=t) (n':=u) (c':=v) (G:=G) S q.2 (λE H=>⟨by have:=C E H;omega,(C E H).2⟩) P (hd:=aB b.x.ev t u v) (r:=10) rfl dC dC (aV _ _ _ _) λb5 U b6 b7=>⟨_,?_,d+1,aq oM,oM,rfl,U⟩
  omega
 ·obtain rfl:d=h:=oM
  obtain⟨Fd,hd,W⟩:=f.done;rw [x]at hd;have z9:=A.size;exact Ok.mk ⟨j,_,z,Fd,rfl,hd,n,λa c=>(W a c).elim (m a) λe=>oM⟩
end
end Go.Proofs.YthnilpgpacdmnaaGreatDoor
namespace Go.Proofs.YthnilpgpacdmnaaGreatDoor
open Go.au
set_option linter.unusedVariables false
set_option maxRecDepth 20000
def aX (a:du):List Value:=[.int .i64 a.group,.int .i64 a.value,.int .i64 a.count]
def du.Ok (a:du):Prop:=aK a.group/\aK a.value/\aK a.count
def FV:jk du:=flat 3 aX du.Ok (λ_=>rfl) (λb c a=>by simp [aX]at a;rcases a with rfl|rfl|rfl<;>rfl)
theorem TR:ix Tryz.prog 53 262 3 24:=⟨kR,kR,dC⟩
variable{U r:Array Value}{z:FuncId}{e:Int}{e0:du}
section
variable {w w':World} {D:Nat->Prop} {a:Option Addr} {n c:Nat} {l:List du}
theorem AR (d:Row FV 24 w D a n l) (e:∀b,D b->b<w.heap.size):Calls Tryz.prog 224 #[.slice a n c] w (Ok (oy FV 262 w l)):=
 il (yT TR dC d e λg w' f=>Ok.mk f)
theorem JJ {most:Int} (d:Row FV 24 w D a n l) (h:∀e,D e->e<w.heap.size) (v:n<=c):
  Calls Tryz.prog 161 #[.slice a n c,.int .i64 most] w (Ok λi w'=>∃f,i= .tuple #[f,.bool (decide ((max most 0).toNat<l.length))]/\oy FV 262 w (l.take (max most 0).toNat) f w'):=by
 have x:=d.len;have j:(if 0>most then 0 else most)=max most 0:=by split<;>omega
 refine BQ ?_;rw [j];obtain⟨b,g⟩:∃b:Nat,(if(n:Int)<max most 0 then(n:Int)else max most 0)=b:=⟨(if(n:Int)<max most 0 then(n:Int)else max most 0).toNat,by split<;>omega⟩
 rw [g];have k:b=min n (max most 0).toNat:=by split at g<;>omega
 rw [Qx];refine⟨oM,oM,oM,PC.ok (AR (d.take (m:=b) oM) h) ?_⟩;rintro _ y ⟨m,o,p,q,rfl,r,s,t⟩;refine⟨_,_,_,rfl,Ok.mk ⟨_,?_,m,o,p,q,rfl,?_,s,t⟩⟩
 ·have:decide ((b:Int)<(n:Int))=decide ((max most 0).toNat<l.length):=by rw [decide_eq_decide];omega
  rw [this]
 ·have:l.take (max most 0).toNat=l.take b:=by
   rw [k]
   by_cases u:(max most 0).toNat<=n
   ·rw [Nat.min_eq_right u]
   ·rw [X2 oM,Qz oM,Qz oM]
  rw [this];exact r
theorem Hq {c k:Nat} (u:c<=20000000) (l:k<=c) (m:enters Tryz.prog z=true)
  (n:∀(d:Nat) f,d<c->ai w f->Calls Tryz.prog z (r++ #[.int .i64 (d:Int)]++U) f (Ok λg w'=>g= .bool (decide (k<=d))/\ai f w')):
  Calls Tryz.prog 159 #[.int .i64 (c:Int),.func (.func z) r U] w (Ok λg w'=>g= .int .i64 (k:Int)/\ai w w'):=by
 refine zH ⟨λh d o w'=>∃a b:Nat,d=a/\o=b/\h=b-a/\a<=b/\b<=c/\a<=k/\k<=b/\ai w w',⟨_,0,c,rfl,rfl,rfl,oM,oM,oM,l,ak.refl _⟩,?_⟩;rintro h _ _ _ p ⟨a,b,rfl,rfl,rfl,v,q,s,t,e⟩;refine al.dec (λx=>?_) (λy=>?_)
 ·rw [RT oM]
  refine⟨_,_,_,rfl,m,PC.ok (n _ p oM e) ?_⟩;rintro _ A ⟨rfl,i⟩;refine⟨_,rfl,al.not (al.dec (λj=>⟨_,?_,a,(a+b)/2,rfl,rfl,rfl,oM,oM,s,j,e.then i⟩) (λj=>⟨_,?_,(a+b)/2+1,b,aq oM,rfl,rfl,oM,q,oM,t,e.then i⟩))⟩
  ·omega
  ·omega
 ·obtain rfl:a=k:=oM
  exact Ok.mk ⟨rfl,e⟩
theorem rL {b:Type} (a:b->Bool):∀l:List b,l.dropWhile a=l.drop (posOf a l)
 |[]=>rfl
 |x::l=>by
  unfold posOf;rw [List.dropWhile_cons,List.takeWhile_cons]
  cases c:a x
  ·simp
  ·simpa [posOf]using rL a l
abbrev tg (l:List du):Prop:=l.Pairwise λa b=>a.group<b.group
theorem QG {l:List du} (d:tg l) {a:Nat} (b:l[a]? =some e0):decide (posOf (λe0=>decide (e0.group<=e)) l<=a)=decide (e0.group>e):=by
 rw [decide_eq_decide]
 induction l generalizing a with
 |nil=>simp at b
 |cons f l g=>
  obtain⟨h,i⟩:=List.pairwise_cons.1 d;unfold posOf;rw [List.takeWhile_cons]
  by_cases c:f.group<=e
  ·rw [decide_eq_true c]
   cases a with
   |zero=>
    simp at b;subst b;simp;omega
   |succ a=>
    have:=g i (by simpa using b);unfold posOf at this;simp only [if_true,Xq];omega
  ·rw [Xv c]
   simp only [Bool.false_eq_true,if_false,List.length_nil,Qj,true_iff]
   cases a with
   |zero=>simp at b;subst b;omega
   |succ a=>
    have:=h e0 (QZ (by simpa using b));omega
theorem JK {b d:Int} (m:Row FV 24 w D a n l) (v:∀f,D f->f<w.heap.size) (x:n<=c) (y:tg l) (z:n<=20000000):
  Calls Tryz.prog 98 #[.slice a n c,.int .i64 b,.int .i64 d] w (Ok λA w'=>∃e,A= .tuple #[e,.bool (mz l b (max d 0).toNat).2]/\oy FV 262 w (mz l b (max d 0).toNat).1 e w'):=by
 have Q:=m.len;have R:=yL (λe:du=>decide (e.group<=b)) l;refine Eh (PA.mk λS q T o=>PA.mk λU i V B=>⟨_,_,_,ae (i.get o id) rfl,PC.ok (Hq (k:=posOf (λe=>decide (e.group<=b)) l) z oM kR λj C W g=>?_) ?_⟩)
 ·have h:=(q.then i).then g
  obtain⟨f,E,X,F,k,-,H,rfl,-⟩:=(m.ah h).el j l[j] (Qq oM);have I:l[j]? =some l[j]:=Qq oM;refine zt ⟨_,_,_,ae (g.get (i.get o id) id) rfl,f,E,F,oM,oM,_,by rw [Qx];exact H 0 dC,_,ae (g.get B id) rfl,λJ K=>Ok.mk ⟨?_,K.af⟩⟩;rw [QG y I]
 ·rintro _ C ⟨rfl,g⟩
  have h:=(q.then i).then g;have p:=(m.ah h).part (lo:=posOf (λe=>decide (e.group<=b)) l) (hi:=n) (cap:=c) oM (Q4 _) x;rw [Qz oM]at p;have L:FV.k=3:=rfl;rw [L]at p;refine⟨_,rfl,_,_,_,ae (g.get (i.get o id) id) rfl,oM,oM,?_⟩;rw [Qx];refine PC.ok (JJ (most:=d) p (λf k=>by have:=v f k;have:=h.size;omega) oM) ?_;rintro _ J ⟨_,rfl,r,s,t,M,rfl,N,O,P⟩;have u:l.dropWhile (λe=>decide (e.group<=b))=l.drop (posOf (λe=>decide (e.group<=b)) l):=rL _ l;refine⟨_,_,_,_,rfl,Ok.mk ⟨.slice r s t,?_,r,s,t,M,rfl,?_,h.then O,λf k=>by have:=P f k;have:=h.size;omega⟩⟩
  ·unfold mz;rw [u]
  ·unfold mz;rw [u];exact N
end
def rK (a:du):Value:=.agg (aX a).toArray
theorem Mg (a:du):gP Tryz.prog 262 (aX a)=true:=kR
theorem US (a:du):Pw (dT Tryz.prog 262) (.agg (aX a).toArray)=true:=kR
structure jU (w:World) (p r:Nat) (R:dh):Prop where
 at':w.heap[p]? =some (.cells #[.int .i64 R.p.aT,.int .i64 R.p.field,.int .i64 R.p.group,.int .i64 R.p.DG,.int .i64 R.p.make,.map (some r)] 273 (0,0))
 map:bG w r (Value.int .i64) (R.rows.map λx=>(x.1,rK x.2))
 ok:∀x∈R.rows,du.Ok x.2/\x.2.group=x.1
variable{a c:Nat}{d:Option Addr}{m:aj}{d9:iw}
section
variable {w w':World} {p r:Nat} {R:dh} {T:Nat->Prop}
theorem jU.af (a:jU w p r R) (b:ak T w w') (c:¬T p) (d:¬T r):jU w' p r R:=⟨b.get a.at' c,a.map.af b d,a.ok⟩
theorem jU.ah (a:jU w p r R) (b:ai w w'):jU w' p r R:=a.af b id id
theorem Nn :Calls Tryz.prog 107 #[.agg (mD d9).toArray] w (Ok λc w'=>∃p r,c= .pointer (some ⟨p,0,none⟩)/\jU w' p r ⟨d9,[]⟩/\w.heap.size<=p/\w.heap.size<=r/\p<w'.heap.size/\r<w'.heap.size/\ai w w'):=by
 refine IJ (PA.mk λd e k a=>⟨_,_,_,_,_,ae a rfl,ae a rfl,ae a rfl,ae a rfl,ae a rfl,PA.mk λf g l h=>PA.mk λm b n i=>Ok.mk ⟨f.heap.size,d.heap.size,rfl,⟨i,bG.new (b.get h id),λd9 j=>by cases j⟩,oM,oM,oM,oM,(e.then g).then b⟩⟩)
def EZ (a:iw) (c:aj) (b:Int):Option Int:=if a.group=1 then some c.agg else if a.group=2 then some c.arg else if a.group=3 then some b else none
theorem JM (j:jU w p r R) :Calls Tryz.prog 244 #[.pointer (some ⟨p,0,none⟩),ji m d a c,.int .i64 e] w (Ok λk w'=>k= .tuple #[.int .i64 ((EZ R.p m e).getD 0),.bool (EZ R.p m e).isSome]/\ai w w'):=by
 refine tL (PA.mk λl b n i=>⟨p,0,rfl,_,ae (j.ah b).at' rfl,al.dJ (λf=>⟨_,ae i rfl,Ok.mk ⟨?_,b⟩⟩) (λf=>al.dJ (λg=>⟨_,ae i rfl,Ok.mk ⟨?_,b⟩⟩) (λg=>al.dJ (λh=>Ok.mk ⟨?_,b⟩) (λh=>Ok.mk ⟨?_,b⟩)))⟩)
 ·unfold EZ;rw [if_pos f];rfl
 ·unfold EZ;rw [if_neg f,if_pos g];rfl
 ·unfold EZ;rw [if_neg f,if_neg g,if_pos h];rfl
 ·unfold EZ;rw [if_neg f,if_neg g,if_neg h];rfl
theorem My (h:jU w p r R) {arg:Int}:Calls Tryz.prog 245 #[.pointer (some ⟨p,0,none⟩),.agg (aX e0).toArray,.int .i64 arg] w (Ok λm w'=>m= .int .i64 (kO R.p e0 arg)/\ai w w'):=by
 refine vF (PA.mk λn c q g=>?_);have d:=(h.ah c).at';refine⟨_,ae g rfl,p,0,rfl,_,ae d rfl,al.dJ (λe=>⟨_,ae g rfl,Ok.mk ⟨?_,c⟩⟩) (λe=>⟨p,0,rfl,_,ae d rfl,al.dJ (λf=>⟨_,ae g rfl,Ok.mk ⟨?_,c⟩⟩) (λf=>⟨λl w'=>l=decide (R.p.make=5\/e0.count=1/\(R.p.make=3\/R.p.make=4))/\n=w',?_,?_⟩)⟩)⟩
 ·unfold kO;rw [if_pos e]
 ·unfold kO;rw [if_neg e,if_pos f]
 ·refine⟨p,0,rfl,_,ae d rfl,al.dJ (λi=>⟨?_,rfl⟩) (λi=>al.dJ (λk=>⟨p,0,rfl,_,ae d rfl,al.dJ (λa=>⟨?_,rfl⟩) (λa=>⟨p,0,rfl,_,ae d rfl,?_,rfl⟩)⟩) (λk=>⟨?_,rfl⟩))⟩
  ·rw [decide_eq_true (.inl i)];simpa using i
  ·rw [decide_eq_true (.inr ⟨k,.inl a⟩)]
  ·by_cases b:R.p.make=4
   ·rw [decide_eq_true (.inr ⟨k,.inr b⟩)];simpa using b
   ·rw [Xv (by rintro(h|⟨-,h|h⟩);exact i h;exact a h;exact b h)];simpa using b
  ·rw [Xv (by rintro(h|⟨h,-⟩);exact i h;exact k h)]
 ·rintro l _ _ ⟨o,rfl⟩
  subst o;refine al.dec (λj=>Ok.mk ⟨?_,c⟩) (λj=>⟨p,0,rfl,_,ae d rfl,al.dJ (λa=>⟨_,ae g rfl,Ok.mk ⟨?_,c⟩⟩) (λa=>⟨p,0,rfl,_,ae d rfl,al.dJ (λb=>⟨_,ae g rfl,Ok.mk ⟨?_,c⟩⟩) (λb=>Ok.mk ⟨?_,c⟩)⟩)⟩)
  ·unfold kO;rw [if_neg e,if_neg f,if_pos j]
  ·have:(if arg<e0.value then arg else e0.value)=min e0.value arg:=by split<;>omega
   unfold kO;rw [if_neg e,if_neg f,if_neg j,if_pos a,<-this]
  ·have:(if arg>e0.value then arg else e0.value)=max e0.value arg:=by split<;>omega
   unfold kO;rw [if_neg e,if_neg f,if_neg j,if_neg a,if_pos b,<-this]
  ·unfold kO;rw [if_neg e,if_neg f,if_neg j,if_neg a,if_neg b]
end
theorem OL:lJ Tryz.prog 271 3 262 (rK ⟨0,0,0⟩):=⟨kR,kR⟩
theorem KW {b f g:Type} [BEq b] (c:f->g) (d:b):∀a:List (b×f),aD (a.map λe=>(e.1,c e.2)) d=(aD a d).map c
 |[]=>rfl
 |(e,h)::a=>by
  simp only [QY];unfold aD;split
  ·rfl
  ·exact KW c d a
theorem KX {d e h:Type} [BEq d] (b:e->h) (f:d) (g:e):∀c:List (d×e),aH (c.map λa=>(a.1,b a.2)) f (b g)=(aH c f g).map λa=>(a.1,b a.2)
 |[]=>rfl
 |(a,i)::c=>by
  simp only [QY];unfold aH;split
  ·simp
  ·simp [KX b f g c]
section
variable {w w':World} {p r:Nat} {R:dh}
theorem dh.add_def (r:dh) (e:cC) (b:Int):r.add e b=match EZ r.p e.ev b with
  |none=>r
  |some a=>if e.void||e.ev.aT !=r.p.aT||e.ev.field !=r.p.field then r else
   {r with rows:=aH r.rows a ⟨a,kO r.p ⟨a,((aD r.rows a).getD ⟨0,0,0⟩).value,nE (((aD r.rows a).getD ⟨0,0,0⟩).count+1)⟩ e.ev.arg,nE (((aD r.rows a).getD ⟨0,0,0⟩).count+1)⟩}:=rfl
theorem FL:aK 0:=by unfold aK;omega
theorem SL {arg:Int} (a:du.Ok e0) (b:aK arg):aK (kO d9 e0 arg):=by
 obtain⟨d,e,c⟩:=a;unfold kO;split;exact c;split;exact Ku _;split;exact b;split
 ·unfold aK at*;omega
 split
 ·unfold aK at*;omega
 ·exact FL
theorem Ni (j:jU w p r R) (a1:p≠r) {x:cC} (y:x.ev.Ok) (a2:aK e):Calls Tryz.prog 187 #[.pointer (some ⟨p,0,none⟩),DH x d a c,.int .i64 e] w (Ok λm w'=>m= .tuple #[]/\jU w' p r (R.add x e)/\ak (·=r) w w'):=by
 have b1:=ay j.at';have b2:=j.map.lt;refine xS (PA.mk λw1 M s1 N=>SM (cs:=aB x.ev d a c) (aV _ _ _ _) N (λa3 m O=>?_) (PC.ok (JM (j.ah M)) ?_))
 ·rw [Xz]
  have a4:=(Qv.1 O).1;show(aB x.ev d a c++_).toArray[a3]? =_;simp only [List.getElem?_toArray];rw [XW a4];exact O
 rintro _ P ⟨rfl,Q⟩;have n:=M.then Q;have o:=Q.get N id;have s:=j.ah n;have g:R.add x e=R->∀i,bd P i->Ok (λm w'=>m= .tuple #[]/\jU w' p r (R.add x e)/\ak (·=r) w w') (.returned (.tuple #[])) i:=λhe i k=>Ok.mk ⟨rfl,by rw [he];exact s.ah k.af,ai.af (n.then k.af)⟩;refine⟨_,_,rfl,al.not (al.mk (λz=>?_) (λz=>g ?_))⟩
 rotate_left
 ·rw [dh.add_def,show EZ R.p x.ev e=none by simpa using z]
 obtain⟨f,h⟩:=Option.isSome_iff_exists.1 z;rw [h,Option.getD_some];have t:∀{q:dh},(if x.void||x.ev.aT !=R.p.aT||x.ev.field !=R.p.field then R else
   {R with rows:=aH R.rows f ⟨f,kO R.p ⟨f,((aD R.rows f).getD ⟨0,0,0⟩).value,nE (((aD R.rows f).getD ⟨0,0,0⟩).count+1)⟩ x.ev.arg,nE (((aD R.rows f).getD ⟨0,0,0⟩).count+1)⟩})=q->R.add x e=q:=λ{q} A=>by
  rw [dh.add_def,h];exact A
 refine⟨_,ae o rfl,al.mk (λl=>g (t (by rw [l];rfl))) (λl=>⟨_,ae o rfl,p,0,rfl,_,ae s.at' rfl,al.df (λB=>g (t ?_)) (λB=>⟨_,ae o rfl,p,0,rfl,_,ae s.at' rfl,λi k=>?_⟩)⟩)⟩
 ·rw [l,show(x.ev.aT !=R.p.aT)=true by simpa using B];rfl
 have S:(x.ev.aT !=R.p.aT)=false:=by simpa using B
 have u:ai P i:=k.af;have v:=s.ah u;refine al.df (λC=>g (t (by rw [l,S,show(x.ev.field !=R.p.field)=true by simpa using C];rfl)) i k) (λC=>?_);have a5:(x.ev.field !=R.p.field)=false:=by simpa using C
 have T:aK f:=by
  unfold EZ at h;split at h
  ·cases h;exact y.agg
  split at h
  ·cases h;exact y.arg
  split at h
  ·cases h;exact a2
  ·cases h
 obtain⟨b,E⟩:∃b,b=(aD R.rows f).getD ⟨0,0,0⟩:=⟨_,rfl⟩
 have a6:du.Ok b:=by
  rw [E]
  cases A:aD R.rows f with
  |none=>exact⟨FL,FL,FL⟩
  |some U=>exact(j.ok _ (bQ A)).1
 have a7:(aD (R.rows.map λx=>(x.1,rK x.2)) f).getD (rK ⟨0,0,0⟩)=rK b:=by
  rw [KW,E];cases aD R.rows f<;>rfl
 refine⟨p,0,rfl,_,ae v.at' rfl,yr OL DS v.map ?_⟩;rw [a7];refine bF (US b) ⟨rfl,PA.mk λw4 k4 s4 g4=>az (Mg b) g4 rfl λw5 k5 s5 g5=>PS.mk g5 (by simp [aX]) λw6 k6 s6 V=>⟨_,ae V rfl,PS.mk V (by simp [aX]) λw7 k7 s7 W=>?_⟩⟩;have F:ai i w7:=((k4.new k5 λH I=>.inr oM).new k6 λH I=>.inr oM).new k7 λH I=>.inr oM;have a8:=F.get (u.get o id) id;refine ar (cs:=aX ⟨f,b.value,nE (b.count+1)⟩) (Mg _) W ⟨_,ae a8 rfl,PC.ok (My (v.ah F)) ?_⟩;rintro _ w8 ⟨rfl,J⟩;have z8:=J.size;refine⟨_,rfl,PS.mk (J.get W id) (by simp [aX]) λw9 k9 s9 g9=>λX a9=>?_⟩;have Y:ai w9 X:=a9.af;have Z:ai i X:=((F.then J).new k9 λH I=>.inr oM).then Y;have K:=v.ah Z;have z3:=(n.then u).size;refine⟨p,0,rfl,_,ae K.at' rfl,ar (cs:=aX ⟨f,kO R.p ⟨f,b.value,nE (b.count+1)⟩ x.ev.arg,nE (b.count+1)⟩) (Mg _) (Y.get g9 id) (ij OL DS K.map λb3 b0 a0 b4=>Ok.mk ⟨rfl,?_,?_⟩)⟩
 ·rw [t (q:={R with rows:=aH R.rows f ⟨f,kO R.p ⟨f,b.value,nE (b.count+1)⟩ x.ev.arg,nE (b.count+1)⟩}) (by rw [l,S,a5,E];rfl)]
  refine⟨a0.get K.at' a1,?_,λU L=>?_⟩
  ·rw [<-KX];exact b0
  ·rcases eG L with rfl|L
   ·exact⟨⟨T,SL ⟨T,a6.2.1,Ku _⟩ y.arg,Ku _⟩,rfl⟩
   ·exact j.ok U L
 ·exact(ai.af ((n.then u).then Z)).then a0
end
section
variable {w w':World} {p r:Nat} {R:dh}
theorem Ll (g:jU w p r R):Calls Tryz.prog 225 #[.pointer (some ⟨p,0,none⟩)] w (Ok λh w'=>∃d f,h= .pointer (some ⟨d,0,none⟩)/\jU w' d f R/\d≠f/\w.heap.size<=d/\w.heap.size<=f/\d<w'.heap.size/\f<w'.heap.size/\ai w w'):=by
 refine vE λb j=>?_;have k:ai w b:=j.af;have u:b.heap.size=w.heap.size:=by rw [j.heap]
 have c:=g.ah k;obtain⟨e,a,m,n,o,q⟩:=c.map.at';refine⟨no,p,0,rfl,id,_,_,_,_,_,ae c.at' rfl,ae c.at' rfl,ae c.at' rfl,ae c.at' rfl,ae c.at' rfl,p,0,rfl,_,ae c.at' rfl,PC.ok (φ:=λh w'=>h= .map (some b.heap.size)/\w'=b.alloc (.map e a)) ((AnyW.maps_Clone Tryz.SN r e a b m).mono ?_) ?_⟩
 ·rintro v w' ⟨rfl,s⟩
  exact Ok.mk ⟨rfl,s⟩
 ·rintro _ x ⟨rfl,rfl⟩
  have l:ai b (b.alloc (.map e a)):=ak.alloc _ _;have y:(b.alloc (.map e a)).heap.size=b.heap.size+1:=sM
  refine⟨_,rfl,ai.af l,PA.mk λz i A t=>⟨ai.af i,Ok.mk ⟨_,b.heap.size,rfl,⟨t,⟨⟨e,a,i.get (heap_alloc_new b _) id,n,o,q⟩,g.map.tidy⟩,g.ok⟩,?_⟩⟩⟩;refine⟨oM,oM,oM,oM,oM,(k.then l).then i⟩
end
open Go.au Go.Sort
theorem my {d:Type} {h:Nat} {a:d->List Value} {f:d->Prop} {hl h1} {i:World} {D:Nat->Prop}:∀{b:List d} {cs:List Value},bu (flat h a f hl h1) i D b cs↔cs=b.flatMap a/\∀x∈b,f x
 |[],cs=>by simp [bu]
 |x::b,cs=>by
  constructor
  ·rintro⟨m,n,rfl,⟨rfl,j⟩,k⟩
   obtain⟨rfl,l⟩:=my.1 k;exact⟨rfl,λe c=>by rcases Q2.1 c with rfl|c;exact j;exact l e c⟩
  ·rintro⟨rfl,g⟩
   exact⟨a x,b.flatMap a,rfl,⟨rfl,g x (QV ..)⟩,my.2 ⟨rfl,λe c=>g e (QJ _ c)⟩⟩
section
variable {α:Type} {enc:α->List Value} {K:Nat}
theorem fm (c:∀b,(enc b).length=K) (a:List α):(a.flatMap enc).length=a.length*K:=by
 induction a with
 |nil=>simp
 |cons b a d=>rw [List.flatMap_cons,QX,d,c,Xq,X7];omega
theorem jy [Inhabited α] (h:0<K) (c:∀e,(enc e).length=K) {b:List α} (f:a<b.length*K):(b.flatMap enc)[a]? =(enc b[a/K]!)[a % K]? :=by
 induction b generalizing a with
 |nil=>simp at f
 |cons e b i=>
  rw [List.flatMap_cons]
  by_cases d:a<K
  ·rw [XW (by rw [c];exact d),Nat.div_eq_of_lt d,Nat.mod_eq_of_lt d];rfl
  ·rw [Xq,X7]at f
   rw [X8 (by rw [c];omega),c,i oM];obtain⟨g,rfl⟩:∃g,a=g+K:=⟨a-K,oM⟩
   rw [Nat.add_sub_cancel,Nat.add_div_right _ h,Nat.add_mod_right];simp
theorem xk [Inhabited α] (e:0<K) (d:∀h,(enc h).length=K) (a:List α):(flatK enc K a.toArray).toList=a.flatMap enc:=by
 apply X3;intro b
 by_cases c:b<a.length*K
 ·rw [jy e d c]
  have i:b<(flatK enc K a.toArray).size:=by simpa using c
  have f:=get_flatK enc K a.toArray b (by simpa using c);rw [getElem!_pos _ b i]at f;have g:b % K<(enc a[b/K]!).length:=by rw [d];exact Nat.mod_lt _ e
  rw [Qq (by simpa using c),Qq g]
  congr 1
  rw [Array.getElem_toList,f];rw [getElem!_pos _ _ (by simpa using g)]
  congr 1
  simp
 ·rw [Q7 (by simpa using c),Q7 (by rw [fm d];omega)]
end
instance:Inhabited du:=⟨⟨0,0,0⟩⟩
theorem SX (b:du):∀c∈aX b,c.oneCell'=true:=by
 intro d a;simp only [aX,Q2,List.not_mem_nil,or_false]at a;rcases a with rfl|rfl|rfl<;>rfl
theorem nz (a:du):(aX a).length=3:=rfl
def Bl (a b:du):Int:=if a.group<b.group then-1 else 1
theorem yC (a b:du):ltOf Bl a b=decide (a.group<b.group):=by
 unfold ltOf Bl
 by_cases c:a.group<b.group<;>simp [c]
theorem Ue:SWO (ltOf Bl) where
 irrefl x:=by rw [yC];simp
 trans x y z h1 h2:=by rw [yC]at*;simp at*;omega
 ntrans x y z h1 h2:=by rw [yC]at*;simp at*;omega
variable{g4:List du}{f:Nat->Prop}{b:World}
theorem SY {d e:du} :Calls Tryz.prog 391 #[.agg (aX d).toArray,.agg (aX e).toArray] b (Ok λg h=>g= .int .i64 (Bl d e)/\G b h):=by
 refine sE (PA.Uc λk f l i=>PA.Uc λm a n j=>⟨_,ae ((a.af (S:=λ_=>False)).get i id) rfl,_,ae j rfl,al.dec (λc=>Ok.mk ⟨?_,f.then a⟩) (λc=>Ok.mk ⟨?_,f.then a⟩)⟩)
 ·unfold Bl;rw [if_pos c]
 ·unfold Bl;rw [if_neg c]
theorem Mw (m:aO FV 262 f b d a c g4) (C:g4.length<=20000000):
  Calls Tryz.prog 390 #[.slice d a c,.func (.func 391) #[] #[]] b (Ok λM s=>M= .tuple #[]/\∃E:List du,E.Perm g4/\(E.Pairwise λt N=>¬N.group<t.group)/\aO FV 262 f s d a c E/\ak (λu=>aF d=some u) b s):=by
 obtain⟨cs,D,y,Y,Z⟩:=m.body;obtain⟨rfl,O⟩:=my.1 Y;obtain⟨e,z⟩:∃e,e=g4:=⟨g4,rfl⟩
 rw [<-z]at y O;have F:=m.len dC;have v:e.length=a:=by rw [F,<-z]
 rcases y.cases with⟨rfl,rfl,rfl,h0⟩|⟨i,j,rfl,w,P,H,Q⟩
 ·have hd:e=[]:=QW v
  refine(AnyF.slices_SortFunc_none Tryz.RP none 0 _ b).mono ?_;rintro A s ⟨rfl,rfl⟩;exact Ok.mk ⟨rfl,g4,List.Perm.refl _,by rw [<-z,hd];exact List.Pairwise.nil,m,ak.refl _⟩
 ·have R:FV.k=3:=rfl
  rw [R]at Q H;have a5:flatK aX 3 e.toArray=(e.flatMap aX).toArray:=by rw [<-xk (show 0<3 by decide) nz]
  have hH:HoldsK aX 3 b i 0 e.toArray:=by
   intro k o;rw [size_flatK]at o;simp only [List.size_toArray]at o;have S:k<(e.flatMap aX).length:=by rw [fm nz];exact o
   refine⟨?_,by simp [World.frozen?,w]⟩;have p:(flatK aX 3 e.toArray)[k]! =(e.flatMap aX)[k]:=by
    rw [a5,getElem!_pos _ k (by simpa using S)];simp
   rw [p,Xz];refine ae w ?_;have l:(j.toList.take (a*3))[k]? =some (e.flatMap aX)[k]:=by rw [Q];exact Qq S
   rw [Xw,if_pos oM]at l;simpa using l
  have C:=y.row;have I:c<=maxLen:=by
   obtain⟨_,a0,_,T,_,_,_,I,_⟩:=y.row.2.resolve_left (by rintro⟨m,_⟩;cases m);simp only [XX]at T;rw [T.2.2];exact I
  have a6:e.toArray.size<4611686018427387904:=by
   simp only [List.size_toArray,v];omega
  have U:=AnyQ.slices_SortFunc Tryz.RP 3 (λb=>cK _ _ _ kR ⟨_,Tryz.underlying262⟩ b) (λb=>Tryz.sizeOf262 b) aX (λ_=>rfl) SX (Bl) Ue 391 #[] i 0 c e.toArray b
   (enters_of Tryz.func391 kR rfl) (λa9 q dk b0 t N=>(SY).mono ?_) hH (ay w) a6
  ·rw [show e.toArray.size=a by simpa using v]at U
   refine U.mono ?_;rintro A s ⟨rfl,h,x,q,hp,hs,rfl⟩;obtain⟨p1,p2,V⟩:=hp;have g:h.size=a:=p1.trans (by simpa using v);have W:h.toList.Perm e:=by
    have p:h.extract 0 a=h:=by rw [<-g];exact Array.extract_size
    have l:e.toArray.extract 0 a=e.toArray:=by rw [show a=e.toArray.size by simpa using v.symm];exact Array.extract_size
    rw [p,l]at V;exact V
   have a2:flatK aX 3 h=(h.toList.flatMap aX).toArray:=by rw [<-xk (show 0<3 by decide) nz]
   have J:(sortWorldK aX 3 b i 0 x h q).heap[i]? =some (.cells (putCells id 0 (flatK aX 3 h) j) 262 (0,0)):=by
    have a7:=ay w;show((Sort.ahead b x).heap.modify i _++q)[i]? =_;rw [Array.getElem?_append_left (by simpa [Sort.ahead]using a7),Array.getElem?_modify,if_pos rfl];show Option.map _ b.heap[i]? =_;rw [w];rfl
   have B:ak (λu=>aF (some ⟨i,0,none⟩)=some u) b (sortWorldK aX 3 b i 0 x h q):=by
    refine⟨rfl,rfl,rfl,?_,λa1 B F=>?_⟩
    ·show b.heap.size<=((Sort.ahead b x).heap.modify i _++q).size
     simp [Sort.ahead]
    ·show((Sort.ahead b x).heap.modify i _++q)[a1]? =_
     rw [Array.getElem?_append_left (by simpa [Sort.ahead]using B),Array.getElem?_modify,if_neg (λA=>F (by rw [A];rfl))]
     rfl
   have a3:(putCells id 0 (flatK aX 3 h) j).size=c*3:=by unfold putCells;rw [Array.size_mapIdx];exact H
   refine Ok.mk ⟨rfl,h.toList,by rw [<-z];exact W,?_,⟨⟨h.toList.flatMap aX,D,⟨⟨?_,.inr ⟨i,c,_,rfl,Qj _,J,P,I,a3,?_⟩⟩⟩,my.2 ⟨rfl,λt hx=>?_⟩,Z⟩,m.self,λu C=>Qk (m.aC u C) B.size⟩,B⟩
   ·rw [List.pairwise_iff_getElem]
    intro X k hi o a8;have p:=hs X k (Qj _) a8 (by simpa [g]using o);rw [yC,getElem!_pos _ k (by simpa using o),getElem!_pos _ X (by simpa using hi)]at p;simpa using p
   ·rw [fm nz,XK,g];rfl
   ·apply X3
    intro r;rw [R,Xw];split
    ·rename_i n
     rw [jy (show 0<3 by decide) nz (by rw [XK,g];exact n),<-jy (show 0<3 by decide) nz (by rw [XK,g];exact n)];unfold putCells;have a4:r<j.size:=by rw [H];exact Qk n (Q0 _ P)
     rw [Array.getElem?_toList,Array.getElem?_mapIdx,X6 a4];simp only [Option.map_some];have K:r<(flatK aX 3 h).size:=by rw [size_flatK,g];exact n
     rw [if_pos ⟨Qj _,by rw [Xz];exact K⟩,Nat.sub_zero,getElem!_pos _ r K];have:(flatK aX 3 h)[r]=(h.toList.flatMap aX)[r]'(by rw [fm nz,XK,g];exact n):=by
      have l:=congrArg (·[r]?) a2;simp only [List.getElem?_toArray]at l;rw [X6 K,Qq (by rw [fm nz,XK,g];exact n)]at l;exact XJ l
     rw [this];exact(Qq _).symm
    ·rename_i n
     rw [Q7 (by rw [fm nz,XK,g];omega)]
   ·have L:t∈e:=W.mem_iff.1 hx
    exact O t L
  ·rintro A s ⟨M,rfl,rfl,hG⟩
   exact⟨rfl,hG⟩
end Go.Proofs.YthnilpgpacdmnaaGreatDoor
namespace Go.au
open Go
set_option linter.unusedVariables false
structure bt (w:World) (F:Nat->Prop) (cls:Nat->Nat) (C:Nat->World->(Nat->Prop)->Prop):Prop where
 at':∀k,C k w (λb=>F b/\cls b=k)
 aC:∀b,F b->b<w.heap.size
def te (a:Nat->World->(Nat->Prop)->Prop):Prop:=∀b c d G e,a b c G->ak e c d->(∀f,G f->¬e f)->a b d G
section
variable {w w':World} {F T:Nat->Prop} {cls:Nat->Nat} {C C2:Nat->World->(Nat->Prop)->Prop}
theorem bt.af (c:bt w F cls C) (f:te C) (d:ak T w w') (g:∀a,F a->¬T a):bt w' F cls C:=
 ⟨λe=>f e w w' _ T (c.at' e) d λa b=>g a b.1,λa b=>Qk (c.aC a b) d.size⟩
theorem bt.ah (a:bt w F cls C) (b:te C) (c:ai w w'):bt w' F cls C:=a.af b c λ_ _ a=>a
theorem bt.FP (i:bt w F cls C) (n:te C) {k:Nat} {G':Nat->Prop} (h:ak (λa=>F a/\cls a=k) w w') (o:∀a,G' a->F a->cls a=k) (p:∀a,G' a->a<w'.heap.size)
  (q:C2 k w' G') (r:∀c G,c≠k->C c w' G->C2 c w' G):∃g d,bt w' g d C2/\ak F w w'/\(∀a,g a->((F a/\cls a≠k)\/G' a))/\(∀c,c≠k->(λa=>g a/\d a=c)=λa=>F a/\cls a=c)/\(λa=>g a/\d a=k)=G':=by
 classical
 have j:∀c,c≠k->(λa=>((F a/\cls a≠k)\/G' a)/\(if G' a then k else cls a)=c)=λa=>F a/\cls a=c:=λc f=>by
  funext a
  refine propext ⟨λb=>?_,λb=>?_⟩
  ·by_cases e:G' a
   ·rw [if_pos e]at b;exact absurd b.2.symm f
   ·rw [if_neg e]at b
    exact⟨(b.1.resolve_right e).1,b.2⟩
  ·have l:cls a≠k:=λs=>f (b.2.symm.trans s)
   rw [if_neg λe=>l (o a e b.1)];exact⟨.inl ⟨b.1,l⟩,b.2⟩
 have m:(λa=>((F a/\cls a≠k)\/G' a)/\(if G' a then k else cls a)=k)=G':=by
  funext a
  refine propext ⟨λb=>?_,λb=>⟨.inr b,if_pos b⟩⟩
  by_cases e:G' a
  ·exact e
  ·rw [if_neg e]at b;exact absurd b.2 (b.1.resolve_right e).2
 refine⟨λa=>(F a/\cls a≠k)\/G' a,λa=>if G' a then k else cls a,⟨λc=>?_,λa b=>?_⟩,h.mono λa _ b=>b.1,λa b=>b,j,m⟩
 ·by_cases f:c=k
  ·subst f
   rw [m];exact q
  ·rw [j c f]
   refine r c _ f (n c w w' _ _ (i.at' c) h λa b t=>f (b.2.symm.trans t.2))
 ·rcases b with b|b
  ·exact Qk (i.aC a b.1) h.size
  ·exact p a b
theorem bt.dZ (e:bt w F cls C) (j:te C) {k:Nat} {G':Nat->Prop} (l:ak (λa=>F a/\cls a=k) w w') (g:∀a,G' a->(F a/\cls a=k)\/w.heap.size<=a) (m:∀a,G' a->a<w'.heap.size)
  (f:C2 k w' G') (n:∀c G,c≠k->C c w' G->C2 c w' G):∃d b,bt w' d b C2/\cz F w d w'/\(∀a,d a->((F a/\cls a≠k)\/G' a))/\(∀c,c≠k->(λa=>d a/\b a=c)=λa=>F a/\cls a=c)/\(λa=>d a/\b a=k)=G':=by
 obtain⟨d,b,h,f,i,o⟩:=e.FP j l (λa p q=>(g a p).elim (·.2) λh=>by have:=e.aC a q;omega) m f n;exact⟨d,b,h,⟨f,λa r=>(i a r).elim (λe=>.inl e.1) λe=>(g a e).imp (·.1) id⟩,i,o⟩
theorem bt.same (e:bt w F cls C) (g:te C) {k:Nat} (f:ak (λa=>F a/\cls a=k) w w') (h:C2 k w' (λa=>F a/\cls a=k)) (i:∀b G,b≠k->C b w' G->C2 b w' G):bt w' F cls C2:=
 ⟨λb=>by
  by_cases c:b=k
  ·subst c;exact h
  ·exact i b _ c (g b w w' _ _ (e.at' b) f λa d j=>c (d.2.symm.trans j.2)),λa d=>Qk (e.aC a d) f.size⟩
theorem bt.Bq (f:bt w F cls C) (g:te C) {k:Nat} {G':Nat->Prop} (e:cz (λa=>F a/\cls a=k) w G' w') (h:∀a,G' a->a<w'.heap.size)
  (i:C2 k w' G') (j:∀c G,c≠k->C c w' G->C2 c w' G):∃d b,bt w' d b C2/\cz F w d w'/\(∀a,d a->((F a/\cls a≠k)\/G' a))/\(∀c,c≠k->(λa=>d a/\b a=c)=λa=>F a/\cls a=c)/\(λa=>d a/\b a=k)=G':=f.dZ g e.1 e.2 h i j
theorem bt.join {G:Nat->Nat->Prop} (c:∀a,C a w (G a)) (i:∀f g b,G f b->G g b->f=g) (j:∀a b,G a b->b<w.heap.size):∃cls,bt w (λb=>∃a,G a b) cls C:=by
 classical
 refine⟨λb=>if c:∃a,G a b then c.choose else 0,⟨λa=>?_,λb ⟨a,d⟩=>j a b d⟩⟩;have:(λb=>(∃a,G a b)/\(if c:∃a,G a b then c.choose else 0)=a)=G a:=by
  funext b
  refine propext ⟨λ⟨e,h⟩=>?_,λd=>⟨⟨a,d⟩,?_⟩⟩
  ·rw [dif_pos e]at h;exact h▸e.choose_spec
  ·have e:∃a,G a b:=⟨a,d⟩
   rw [dif_pos e];exact i _ _ b e.choose_spec d
 rw [this];exact c a
end
end Go.au
namespace Go.Proofs.YthnilpgpacdmnaaGreatDoor
open Go.au
set_option linter.unusedVariables false
set_option maxRecDepth 20000
def TS:jk Nat:=flat 1 (λb=>[.pointer (some ⟨b,0,none⟩)]) (λ_=>True) (λ_=>rfl) (λc d a=>by simp at a;subst a;rfl)
theorem Nf:ix Tryz.prog 189 196 1 8:=⟨kR,kR,dC⟩
structure cf (w:World) (G:Nat->Prop) (a:Option Addr) (n c:Nat) (Rs:List dh):Prop where
 body:∃ps:List (Nat×Nat),ps.length=Rs.length/\aO TS 196 (λb=>aF a=some b) w a n c (ps.map (·.1))/\
  (∀(i j:Nat) (x y:Nat×Nat),ps[i]? =some x->ps[j]? =some y->x.1≠y.2/\(x.2=y.2->i=j))/\(∀x∈ps,G x.1/\G x.2/\aF a≠some x.1/\aF a≠some x.2)/\
  ∀(i:Nat) (x:Nat×Nat) (R:dh),ps[i]? =some x->Rs[i]? =some R->jU w x.1 x.2 R
 self:∀b,aF a=some b->G b
variable{F:Nat×Nat}{h:Program}{g q:TypeId}{o s:Value->World->Prop}
section
variable {w w':World} {G G' T:Nat->Prop} {a:Option Addr} {n c:Nat} {Rs:List dh}
theorem cf.af (d:cf w G a n c Rs) (i:ak T w w') (e:∀b,G b->¬T b):cf w' G a n c Rs:=by
 obtain⟨j,k,l,m,f,o⟩:=d.body;exact⟨⟨j,k,l.af i λb p=>e b (d.self b p),m,f,λq g r h s=>(o q g r h s).af i (e _ (f g (QZ h)).1) (e _ (f g (QZ h)).2.1)⟩,d.self⟩
theorem cf.ah (b:cf w G a n c Rs) (d:ai w w'):cf w' G a n c Rs:=b.af d λ_ _ b=>b
theorem cf.mono (h:cf w G a n c Rs) (d:∀b,G b->G' b):cf w G' a n c Rs:=by
 obtain⟨i,j,k,l,e,m⟩:=h.body;exact⟨⟨i,j,k,l,λf g=>⟨d _ (e f g).1,d _ (e f g).2.1,(e f g).2.2⟩,m⟩,λb o=>d b (h.self b o)⟩
theorem cf.len (b:cf w G a n c Rs):n=Rs.length:=by
 obtain⟨f,d,e,-⟩:=b.body;rw [e.len dC,Q8,d]
theorem cf.nil (w:World):cf w (λ_=>False) none 0 0 []:=⟨⟨[],rfl,(aO.nil w).mono (λb a=>a.elim) (λb a=>by cases a),sM,sM,sM⟩,λb a=>by cases a⟩
theorem cf.elem (o:cf w G a n c Rs) {b:Nat} {p:dh} (v:Rs[b]? =some p):∃g f h,a=some ⟨g,0,none⟩/\w.cell? ⟨g,0+b,none⟩=some (.pointer (some ⟨f,0,none⟩))/\jU w f h p/\f≠h/\G f/\G h/\G g/\
  ∀w' q,ak (·=h) w w'->jU w' f h q->cf w' G a n c (Rs.set b q):=by
 obtain⟨i,C,x,k,y,z⟩:=o.body;have M:=(Qv.1 v).1;have d:i[b]? =some i[b]:=Qq oM;generalize i[b]=e at d;obtain⟨cs,D,E,F,N⟩:=x.body;have r:=y e (QZ d);obtain⟨rfl,-⟩:=my.1 F;have H:((i.map (·.1)).flatMap λf=>[Value.pointer (some ⟨f,0,none⟩)])[b]? =some (.pointer (some ⟨e.1,0,none⟩)):=by
  rw [jy (K:=1) dC (λ_=>rfl) (by simp;omega),Nat.div_one,Nat.mod_one,getElem!_pos _ b (by simp;omega)];simp [(Qv.1 d).2]
 obtain⟨g,A,I⟩:=E.cell H;refine⟨g,e.1,e.2,A,by rw [Xz];exact I.2,z b e p d v,(k b b e e d d).1,r.1,r.2.1,o.self g (by rw [A];rfl),λw' q B J=>⟨⟨i,by simpa using C,x.af B λO K s=>r.2.2.2 (s▸K),k,y,λl t L j m=>?_⟩,o.self⟩⟩
 by_cases u:b=l
 ·subst u
  rw [d]at j;cases j
  rw [List.getElem?_set_self oM]at m;cases m
  exact J
 ·rw [List.getElem?_set_ne u]at m
  exact(z l t L j m).af B (k l b t e j d).1 λs=>u ((k b l e t d j).2 s.symm)
theorem cf.push (t:cf w G a n c Rs) (K:∀b,G b->b<w.heap.size) {f i O:Nat} {P:dh} (L:jU w f i P) (Q:¬G f) (z:¬G i) (X:f≠i) (Y:ix h g 196 1 8)
  (Z:w.heap[O]? =some (.cells #[.pointer (some ⟨f,0,none⟩)] 196 F)) (d:Rs.length<=1000) 
  (M:∀l A w' G',cf w' G' l (n+1) A (Rs++[P])->ak G w w'->(∀b,G' b->G b\/b=f\/b=i\/w.heap.size<=b)->(∀b,G' b->b<w'.heap.size)->o (.slice l (n+1) A) w'):
  aE h (Builtin.append_ #[g,g] q #[.slice a n c,.slice (some ⟨O,0,none⟩) 1 1]) w o s:=by
 obtain⟨m,p,N,h3,C,h5⟩:=t.body;have a1:f<w.heap.size:=ay L.at';have a2:i<w.heap.size:=L.map.lt;refine dQ N Y Z (D:=λ_=>False) (x:=f) ⟨rfl,trivial⟩ (λb d=>d.elim) (by unfold aI;simp;omega) (by unfold maxLen;simp;omega) λl A w' F' R H hF=>?_;have a0:∀b,aF l=some b->aF a=some b\/w.heap.size<=b:=λb d=>(hF b (R.self b d)).imp id λt=>t.resolve_left id;have u:=R.alone;have a5:=H.size;have S:∀b,aF l=some b->aF a=some b\/w.heap.size<=b:=a0;have I:∀b,b<w.heap.size->aF a≠some b->aF l≠some b:=λb d p N=>(S b N).elim p oM;have T:aF a≠some f:=λk=>Q (t.self f k);have U:aF a≠some i:=λk=>z (t.self i k);refine M l A w' (λb=>(G b\/b=f\/b=i\/aF l=some b)) ⟨⟨m++[(f,i)],by simp [p],by rw [Q3];exact u,λj V x v B J=>?_,λx B=>?_,λj x a3 B r=>?_⟩,λb d=>.inr (.inr (.inr d))⟩ (H.mono λb _ d=>t.self b d) (λb d=>?_) λb d=>?_
 ·have E:∀j x,(m++[(f,i)])[j]? =some x->(m[j]? =some x)\/(j=m.length/\x=(f,i)):=λj x B=>by
   rw [List.getElem?_append]at B;split at B
   ·exact .inl B
   ·rename_i W
    have:j-m.length=0:=by
     rcases Nat.eq_zero_or_pos (j-m.length)with y|y
     ·exact y
     ·rw [Q7 (by simp;omega)]at B;cases B
    rw [this]at B;simp at B;exact .inr ⟨oM,B.symm⟩
  rcases E j x B with B|⟨rfl,rfl⟩<;>rcases E V v J with J|⟨rfl,rfl⟩
  ·exact h3 j V x v B J
  ·have e:=C x (QZ B)
   exact⟨λk=>z ((show x.1=i from k)▸e.1),λk=>absurd ((show x.2=i from k)▸e.2.1) z⟩
  ·have e:=C v (QZ J)
   exact⟨λk=>Q ((show f=v.2 from k)▸e.2.1),λk=>absurd ((show i=v.2 from k)▸e.2.1) z⟩
  ·exact⟨X,λ_=>rfl⟩
 ·rcases Q6.1 B with B|B
  ·have e:=C x B
   exact⟨.inl e.1,.inl e.2.1,I _ (K _ e.1) e.2.2.1,I _ (K _ e.2.1) e.2.2.2⟩
  ·simp at B;subst B
   exact⟨.inr (.inl rfl),.inr (.inr (.inl rfl)),I _ a1 T,I _ a2 U⟩
 ·rw [List.getElem?_append]at B r
  rw [<-p]at r;split at B
  ·rename_i a4
   rw [if_pos a4]at r;have e:=C x (QZ B);exact(h5 j x a3 B r).af H e.2.2.1 e.2.2.2
  ·rename_i W
   rw [if_neg W]at r;have:j-m.length=0:=by
    rcases Nat.eq_zero_or_pos (j-m.length)with y|y
    ·exact y
    ·rw [Q7 (by simp;omega)]at B;cases B
   rw [this]at B r;simp at B r;subst B r;exact L.af H T U
 ·rcases d with d|d|d|d
  ·exact .inl d
  ·exact .inr (.inl d)
  ·exact .inr (.inr (.inl d))
  ·rcases S b d with p|p
   ·exact .inl (t.self b p)
   ·exact .inr (.inr (.inr p))
 ·rcases d with d|d|d|d
  ·have:=K b d;omega
  ·omega
  ·omega
  ·exact u.aC b d
def Vu:jk (List dh) where
 k:=2
 rep:=λw D Rs cs=>∃b a n c,cs=[.pointer b,.slice a n c]/\cf w D a n c Rs
 af:=λ⟨b,a,n,c,d,e⟩ h f=>⟨b,a,n,c,d,e.af h f⟩
 mono:=λ⟨b,a,n,c,d,e⟩ f=>⟨b,a,n,c,d,e.mono f⟩
 len:=λ⟨b,a,n,c,d,e⟩=>by rw [d];rfl
 one:=λ⟨b,a,n,c,d,e⟩ i g=>by
  rw [d]at g;simp only [Q2,List.not_mem_nil,or_false]at g;rcases g with rfl|rfl<;>rfl
theorem Th:ix Tryz.prog 192 191 2 32:=⟨kR,kR,dC⟩
end
theorem Ij (a:aM) (b:List aj) (c:aj):dE a (b++[c])=(dE a b).add c:=by unfold dE;rw [List.foldl_append];rfl
theorem Il (a:aM) (b:List aj) (c:aj):cg a (b++[c])=((cg a b).add c).2:=by unfold cg;rw [List.foldl_append];rfl
theorem Ik (c:aM) (a:List aj):(dE c a).view=cg c a:=by
 have:∀(a:List aj) (b:jj),(a.foldl jj.add b).view=a.foldl (λe d=>(e.add d).2) b.view:=by
  intro a
  induction a with
  |nil=>intro b;rfl
  |cons d a f=>intro b;rw [List.foldl_cons,List.foldl_cons,f];rfl
 exact this a _
variable{a:Nat}{J:aM}
theorem FX (e:cO J=0) (b:List aj):(cg J b).OK/\(cg J b).decl=J:=by
 have:∀(b:List aj) (a:aU),a.OK->(b.foldl (λa c=>(a.add c).2) a).OK/\(b.foldl (λa c=>(a.add c).2) a).decl=a.decl:=by
  intro b
  induction b with
  |nil=>intro a d;exact⟨d,rfl⟩
  |cons c b f=>
   intro a d;obtain⟨g,h⟩:=aU.yI d c;obtain⟨i,j⟩:=f _ g;exact⟨i,j.trans h⟩
 exact this b _ (aU.rV e)
theorem dh.Ti (b:dh) (c:cC) (a:Int):(b.add c a).p=b.p:=by
 unfold dh.add;dsimp only;split
 ·rfl
 ·split<;>rfl
theorem FO (e:aM) (a:List aj):(dE e a).rows.map (·.p)=e.projs:=by
 have:∀(a:List aj) (b:jj),(a.foldl jj.add b).rows.map (·.p)=b.rows.map (·.p):=by
  intro a
  induction a with
  |nil=>intro b;rfl
  |cons c a f=>
   intro b;rw [List.foldl_cons,f];show((b.rows.map λd=>d.add (b.view.add c).1 (rb ((b.view.add c).2.state c.aT c.agg) d.p)).map (·.p))=_;rw [List.map_map];exact List.map_congr_left λd _=>d.Ti _ _
 refine(this a _).trans ?_;show(e.projs.map λg=>(⟨g,[]⟩:dh)).map (·.p)=_;rw [List.map_map];exact List.map_id _
theorem oD (a:aM) (b:List aj):(dE a b).rows.length=a.projs.length:=by
 rw [<-FO a b,Q8]
def jr (c:aM) (a:Nat) (b:List aj):List (List dh):=(List.range (b.length/a+1)).map λd=>(dE c (b.take (d*a))).rows
section
variable {d:aM} {every:Nat} {l:List aj}
theorem yG:(jr d every l).length=l.length/every+1:=by simp [jr]
theorem Nk (b:a<=l.length/every):(jr d every l)[a]? =some (dE d (l.take (a*every))).rows:=by
 unfold jr;rw [Q9,List.getElem?_range oM];rfl
theorem No:jr d every []=[(dE d []).rows]:=by
 unfold jr;rw [List.length_nil,Nat.zero_div];simp
theorem Lm (f:0<every) (g:aj):jr d every (l++[g])=if l.length+1=(l.length/every+1)*every then jr d every l++[(dE d (l++[g])).rows]else jr d every l:=by
 have i:=Nat.div_add_mod l.length every;have j:=Nat.mod_lt l.length f;have b:∀a,a<=l.length/every->(l++[g]).take (a*every)=l.take (a*every):=λa c=>by
  have:a*every<=l.length:=Xx (Q0 _ c) (Nat.div_mul_le_self ..);rw [List.take_append_of_le_length this]
 split
 ·rename_i e
  have h:(l.length+1)/every=l.length/every+1:=by rw [e];exact Nat.mul_div_cancel _ f
  unfold jr;rw [QX,List.length_singleton,h,List.range_succ,Q3]
  congr 1
  ·refine List.map_congr_left λa c=>?_
   rw [b a (by have:=List.mem_range.1 c;omega)]
  ·rw [List.map_singleton,<-e,Qz sM]
 ·rename_i e
  have h:(l.length+1)/every=l.length/every:=by
   have k:(l.length+1)/every<l.length/every+1:=by
    rw [Nat.div_lt_iff_lt_mul f];rw [X7,Nat.one_mul,Nat.mul_comm]at e⊢;omega
   have m:l.length/every<=(l.length+1)/every:=Nat.div_le_div_right oM;omega
  unfold jr;rw [QX,List.length_singleton,h];refine List.map_congr_left λa c=>?_;rw [b a (by have:=List.mem_range.1 c;omega)]
theorem Lq (c:0<every) (e:a<=l.length/every):(jr d every l).take (a+1)=jr d every (l.take (a*every)):=by
 have f:a*every<=l.length:=Xx (Q0 _ e) (Nat.div_mul_le_self ..);unfold jr;rw [Qy,X2 f,Nat.mul_div_cancel _ c,<-List.map_take,List.take_range,X2 oM];refine List.map_congr_left λg h=>?_;have b:g<=a:=by have:=List.mem_range.1 h;omega
 rw [List.take_take,X2 (Q0 _ b)]
end
end Go.Proofs.YthnilpgpacdmnaaGreatDoor

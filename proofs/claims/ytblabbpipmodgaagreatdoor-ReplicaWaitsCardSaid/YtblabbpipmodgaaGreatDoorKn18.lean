import Derived.Test.YtblabbpipmodgaaGreatDoorKn17
set_option maxHeartbeats 4000000
set_option linter.all false
set_option maxRecDepth 20000
namespace Go.Proofs.YtblabbpipmodgaaGreatDoor
open Go.aw
variable{a:Nat}{j:Type}
section
variable {w w':World} {D D' S:XN} {d:aH} {ta pa:ZH} {tn tc pn pc:Nat}
def qP(P:aZ):Bool:=if P.kind==4 then !within P.bg.length 1 16 else decide (0<P.bg.length)
def zt(P:List aZ):Bool:=!within P.length 1 8||P.any qP
def Gg{P:j->Bool}{b:List j}{c:j}(d:b[a]? =some c)(e:(b.take a).any P=false)(f:P c=false):(b.take (a+1)).any P=false:=by
 rw[Qw,d,List.any_append,e];simp[f]
def ID{b:j->Bool}{c:List j}{P:j}(d:c[a]? =some P)(e:b P=true):c.any b=true:=List.any_eq_true.2 ⟨P,QZ d,e⟩
def eZ{f:Type}{g:f->Int}:∀{a:List f} {b:Nat} {c:f},a[b]? =some c->bW g (a.take b)=0->bW g (a.take (b+1))=g c
 |[],b,c,P,_=>by simp at P
 |y::a,0,c,P,_=>by simp at P;subst P;simp[bW];intro P;exact P.symm
 |y::a,b+1,c,P,d=>by
  simp only[Zw,bW]at d⊢;split at d
  ·rename_i e;simp at e;exact Zz d e
  ·rename_i e;rw[Zq e];exact eZ (by simpa using P) d
def mR{b:Type}{a:b->Int}:∀{l:List b} {j:Nat},bW a (l.take j)≠0->bW a l=bW a (l.take j)
 |[],j,P=>by simp at P⊢
 |y::l,0,P=>by simp[bW]at P
 |y::l,j+1,P=>by
  simp only[Zw,bW]at P⊢;split
  ·rfl
  ·rename_i c;rw[Zq c]at P;exact mR P
def Gh(c:aW w D d ta tn pa pn):ZG 67 #[.agg #[.slice ta tn tc,.slice pa pn pc]] w (Ok λe w'=>e= .bool (ph d)/\ai w w'):=by
 have r:=c.aT.len;have s:=c.aT.dE;have hp:=c.xm.len;unfold aN at s;refine Ad (PA.mk λY t s1 u=>⟨_,_,_,ae u rfl,PC.ok bT ?_⟩);rintro _ _ ⟨rfl,rfl⟩;refine⟨_,rfl,an.not (an.mk (λh=>⟨_,_,_,ae u rfl,an.dec (λZ=>Ok.mk ⟨?_,t⟩) (λZ=>⟨_,_,_,ae u rfl,λj k w'=>∃a:Nat,k=a/\a<=tn/\j=tn-a/\(d.types.take a).any zt=false/\ai Y w',⟨_,0,rfl,Qj _,rfl,sM,ak.refl _⟩,?_⟩)⟩) (λh=>Ok.mk ⟨?_,t⟩))⟩
 ·unfold ph;rw[<-r,h,Zx bc]
 rotate_left
 ·unfold ph;rw[<-r,h];rfl
 have v:ph d=d.types.any zt:=by unfold ph zt qP;rw[<-r,h,Zq bc]
 rintro j k _ w2 ⟨a,rfl,hj,rfl,x,K⟩;have l:=t.then K;refine an.dec (λa8=>?_) (λa9=>?_)
 rotate_left
 ·rw[Qz oM]at x
  exact Ok.mk ⟨by rw[v,x],l⟩
 obtain⟨y,z,A,es,rfl,_,_,B,f,a2,g,c1,rfl,C⟩:=((c.ah l).aT).vB (i:=a) oM;have L:=C.len;have a0:=C.dE;unfold aN at a0;have M:=f 0 dC;simp only[jk,Nat.mul_one,Nat.add_zero]at M;refine⟨y,z,rfl,oM,oM,_,_,_,M,PA.mk λw3 k3 s3 g3=>PS.mk g3 sM λm k4 s4 N=>⟨_,_,_,ae N rfl,PC.ok bT ?_⟩⟩;rintro _ _ ⟨rfl,rfl⟩;have n:ai w2 m:=k3.new k4 λy s=>.inr oM;have E:zt A=true->Ok (λe w'=>e= .bool (ph d)/\ai w w') (.returned (.bool true)) m:=λP=>Ok.mk ⟨by rw[v,ID B P],l.then n⟩;refine⟨_,rfl,an.not (an.mk (λF=>⟨_,_,_,ae N rfl,λj k w'=>∃i:Nat,k=i/\i<=g/\j=g-i/\(A.take i).any qP=false/\ai m w',⟨_,0,rfl,Qj _,rfl,sM,ak.refl _⟩,?_⟩) (λF=>E (by unfold zt;rw[<-L,F];rfl)))⟩;rintro m' t' _ w5 ⟨i,rfl,hi,rfl,H,o⟩;have a3:=(l.then n).then o;refine an.dec (λa6=>?_) (λa7=>?_)
 rotate_left
 ·rw[Qz oM]at H
  exact⟨_,oM,a+1,aq oM,oM,rfl,Gg B x (by unfold zt;rw[<-L,F,H];rfl),(K.then n).then o⟩
 obtain⟨b2,a1,p,b0,rfl,_,_,O,a4,Q,R,S,rfl,T,b1,b3⟩:=((C.ah n).ah o).vB (i:=i) oM;have U:=T.len;have a5:=T.dE;unfold aN at a5;refine⟨b2,a1,rfl,oM,oM,bq (eF p Q R S) rfl a4 (PA.mk λw6 k6 s6 g6=>aA (eF p Q R S) g6 rfl λI k7 s7 J=>⟨_,ae J rfl,?_⟩)⟩;have V:ai w5 I:=k6.new k7 λy s=>.inr oM;have W:qP p=true->Ok (λe w'=>e= .bool (ph d)/\ai w w') (.returned (.bool true)) I:=λP=>Ok.mk ⟨by rw[v,ID B (by unfold zt;rw[ID O P];simp)],a3.then V⟩;have next:qP p=false->∃X,X<g-i/\∃q:Nat,IntKind.wrap .i64 ((i:Int)+1)=q/\q<=g/\X=g-q/\(A.take q).any qP=false/\ai m I:=λP=>
  ⟨_,oM,i+1,aq oM,oM,rfl,Gg O H P,o.then V⟩
 refine an.eB (λb=>⟨_,_,_,ae J rfl,PC.ok bT ?_⟩) (λb=>an.not (an.eB (λf=>Zz f b) (λ_=>⟨_,_,_,ae J rfl,an.dec (λc=>W ?_) (λc=>next ?_)⟩)))
 ·rintro _ _ ⟨rfl,rfl⟩
  refine⟨_,rfl,an.not (an.mk (λP=>an.not (an.eB (λ_=>next ?_) (λf=>Zz b f))) (λP=>W ?_))⟩
  ·unfold qP;rw[b,<-U,P];rfl
  ·unfold qP;rw[b,<-U,P];rfl
 ·unfold qP;rw[Zq (by simpa using b)];simp only[Zk];omega
 ·unfold qP;rw[Zq (by simpa using b)];simp only[decide_eq_false_iff_not];omega
def Dk(hT:eh w)(g:aW w D d ta tn pa pn)(hD:∀a,D a->a<w.heap.size):
  ZG 32 #[.agg #[.slice ta tn tc,.slice pa pn pc]] w (Ok λB w'=>B= XH (cy d)/\ai w w'):=by
 have hl:=g.aT.len;have f:=g.aT.dE;have b1:=g.xm.len;have a6:=g.xm.dE;unfold aN at f a6;refine xK (PA.mk λw1 U s1 C=>⟨_,_,_,_,_,_,ae C rfl,ae C rfl,PC.ok (Gh (g.ah U)) ?_⟩);rintro _ w2 ⟨rfl,V⟩;have W:=U.then V;have X:=V.get C id;refine⟨_,rfl,an.mk (λt=>Ok.mk ⟨by unfold cy;rw[t];rfl,W⟩) (λt=>⟨_,_,_,ae X rfl,λk b w'=>∃P:Nat,b=P/\P<=tn/\k=tn-P/\bW (λb=>bW (eM b) b) (d.types.take P)=0/\ai w2 w',⟨_,0,rfl,Qj _,rfl,rfl,ak.refl _⟩,?_⟩)⟩;rintro k b _ Y ⟨P,rfl,hj,rfl,u,E⟩;have v:=W.then E;have Z:=E.get X id;have F:∀{w':World},ai w w'->∀P c,d.types[P]? =some c->bW (λb=>bW (eM b) b) (d.types.take P)=0->∀x:Int,bW (eM c) c=x->x≠0->Ok (λB w'=>B= XH (cy d)/\ai w w') (.returned (XH x)) w':=by
  intro w' a2 P c y h0 x hr j;have l:=eZ y h0;rw[hr]at l;have h2:=mR (l:=d.types) (j:=P+1) (by rw[l];exact j);refine Ok.mk ⟨?_,a2⟩;unfold cy;rw[t,h2,l];simp[j]
 refine an.dec (λb2=>?_) (λb3=>⟨_,_,_,ae Z rfl,λk b w'=>∃i:Nat,b=i/\i<=pn/\k=pn-i/\bW (kr d) (d.projs.take i)=0/\ai Y w',⟨_,0,rfl,Qj _,rfl,rfl,ak.refl _⟩,?_⟩)
 ·obtain⟨a,H,I,es,rfl,_,_,y,hc,b4,n1,c1,rfl,z⟩:=((g.ah v).aT).vB (i:=P) oM
  have b5:=z.len;have a7:=z.dE;unfold aN at a7;have a0:=hc 0 dC;simp only[jk,Nat.mul_one,Nat.add_zero]at a0;refine⟨a,H,rfl,oM,oM,_,_,_,a0,PA.mk λw4 o s4 g4=>PS.mk g4 sM λJ K s5 A=>⟨_,_,_,ae A rfl,λk b w'=>∃i:Nat,b=i/\i<=n1/\k=n1-i/\bW (eM I) (I.take i)=0/\ai J w',⟨_,0,rfl,Qj _,rfl,rfl,ak.refl _⟩,?_⟩⟩;have a8:ai Y J:=o.new K λa f=>.inr oM;rintro m' t' _ L ⟨i,rfl,hi,rfl,e,m⟩;have p:=a8.then m;refine an.dec (λa3=>?_) (λa9=>?_)
  ·obtain⟨M,N,c,b0,rfl,_,_,n,O,Q,R,S,rfl,hM,b6,b7⟩:=(z.ah p).vB (i:=i) oM
   refine⟨M,N,rfl,oM,oM,bq (eF c Q R S) rfl O (PA.mk λw7 h s7 g7=>aA (eF c Q R S) g7 rfl λw8 q s8 g8=>⟨_,_,_,ae (q.get (h.get (m.get A id) id) (by have:=m.size;omega)) rfl,au (eF c Q R S) g8 (PC.ok (Du (hT.ah ?_) (z.ah ?_) (hM.ah ?_)) ?_)⟩)⟩
   ·exact(v.then p).then (h.new q λa f=>.inr oM)
   ·exact p.then (h.new q λa f=>.inr oM)
   ·exact h.new q λa f=>.inr oM
   ·rintro _ w9 ⟨rfl,k9⟩
    have a4:ai L w9:=ak.then (h.new q λa f=>.inr oM) k9;refine⟨_,rfl,an.dR (λj=>?_) (λT=>⟨_,oM,i+1,aq oM,oM,rfl,by rw[eZ n e];exact T,m.then a4⟩)⟩;have l:=eZ n e;exact F ((v.then p).then a4) P I y u _ (by rw[mR (j:=i+1) (by rw[l];exact j),l]) j
  ·rw[Qz oM]at e
   refine⟨_,oM,P+1,aq oM,oM,rfl,by rw[eZ y u];exact e,E.then p⟩
 ·rw[Qz oM]at u
  rintro m' t' _ w4 ⟨i,rfl,hi,rfl,e,o⟩;have r:=v.then o;have a1:cy d=bW (kr d) d.projs:=by unfold cy;rw[t,u];simp
  refine an.dec (λa3=>?_) (λa9=>?_)
  ·obtain⟨M,N,c,b0,rfl,_,_,n,O,rfl,_⟩:=((g.ah r).xm).vB (i:=i) oM
   refine⟨M,N,rfl,oM,oM,bq (nR c) rfl O (PA.mk λJ K s5 A=>aA (nR c) A rfl λL m s6 g6=>?_)⟩;have s:ai w4 L:=K.new m λa f=>.inr oM;have a5:=s.get (o.get Z id) id;refine⟨_,_,_,_,_,_,ae a5 rfl,ae a5 rfl,au (nR c) g6 (PC.ok (Dw (g.ah (r.then s)) λa f=>by have:=hD a f;have:=(r.then s).size;omega) ?_)⟩;rintro _ w7 ⟨rfl,h⟩;refine⟨_,rfl,an.dR (λj=>Ok.mk ⟨?_,(r.then s).then h⟩) (λT=>⟨_,oM,i+1,aq oM,oM,rfl,by rw[eZ n e];exact T,(o.then s).then h⟩)⟩;rw[a1,mR (j:=i+1) (by rw[eZ n e];exact j),eZ n e]
  ·rw[Qz oM]at e
   exact Ok.mk ⟨by rw[a1,e],r⟩
end
def bK(P:cI)(a:Int):Int×bP:=
 if cy P.decl≠0 then(cy P.decl,(ze P).2)else if gH P a=false then(1,(ze P).2)else ze P
def Ir(b:World)(a:cI)(P:Int)(c:Value)(d:World):Prop:=ai b d/\
 (((bK a P).1≠0/\c= .tuple #[.pointer none,XH (bK a P).1])\/
  ((bK a P).1=0/\∃e f,c= .tuple #[XL e,XH 0]/\bU d e f a P (bK a P).2/\(∀g,f g->b.heap.size<=g)/\(bK a P).2.S.l.length<=16777216))
variable{d r:ZH}
section
variable {w w' w0 w1 w2:World} {p:Nat} {F E D:XN} {c:cI} {self:Int}
def Dj(hT:eh w0)(hL:Laid w0)(A:ai w0 w){tn Q B R:Nat}(hd:aW w D c.decl d tn r B)(hD:∀P,D P->P<w.heap.size)(hs:aP c.dq)(d3:aP c.every)(d4:aP c.start):
  ZG 11 #[oK c d tn Q r B R,XH self] w (Ok (Ir w c self)):=by
 refine Aa (PA.mk λf4 C f5 E=>⟨_,_,_,_,_,_,ae E rfl,ae E rfl,PC.ok (Dk (hT.ah (A.then C)) (hd.ah C) λP a=>by have:=hD P a;omega) ?_⟩);rintro _ d5 ⟨rfl,b8⟩;have a3:=C.then b8;have b9:d5.heap[w.heap.size]? =some (.cells (dP c d tn Q r B R).toArray 29 (0,0)):=b8.get E id;refine⟨_,rfl,an.dR (λl=>Ok.mk ⟨a3,.inl ?_⟩) (λS=>au (oL c d tn Q r B R) b9 (PC.ok KU ?_))⟩
 ·have:bK c self=(cy c.decl,(ze c).2):=by unfold bK;rw[Zx l]
  rw[this];exact⟨l,rfl⟩
 rintro _ T ⟨rfl,c0⟩;have F:=a3.then c0;have U:=c0.get b9 id;refine⟨_,rfl,an.not (an.mk (λm=>?_) (λm=>Ok.mk ⟨F,.inl ?_⟩))⟩
 rotate_left
 ·have:bK c self=(1,(ze c).2):=by unfold bK;rw[Zq (by simpa using S),Zx m]
  rw[this];exact⟨show(1:Int)≠0 by decide,rfl⟩
 have a4:bK c self=ze c:=by unfold bK;rw[Zq (by simpa using S),Zq (by rw[m];simp)]
 have c1:jC c self:=⟨m,S,hs,d3,d4⟩
 have c2:=m;unfold gH within at c2;simp only[QK,Zk]at c2;refine⟨_,ae U rfl,PC.ok (qU (A.then F) oM oM) ?_⟩;rintro _ c3 ⟨dp,rfl,d6,V⟩;obtain⟨Fd,c4,-,d7,-⟩:=d6;have H:∀P,Fd P->T.heap.size<=P/\P<c3.heap.size:=λP a=>⟨Nat.le_of_not_lt (d7 P a).2,c4.aC P a⟩
 have W:=F.then V;have X:=V.get U id;refine⟨_,_,rfl,an.dR (λl=>Zz rfl l) (λ_=>⟨_,_,_,_,_,_,ae X rfl,ae X rfl,PC.ok (Iq (hd.ah W) λP a=>by have:=hD P a;have:=W.size;omega) ?_⟩)⟩;rintro _ c5 ⟨n,Ax,o,p,q,s,I,rfl,d8,J,K⟩;have c6:=W.then K;have d9:=K.get X id;have f6:=C.size;have f7:=F.size;have g1:=V.size;have g2:=K.size;have g3:=ay E;have e8:w.heap.size<T.heap.size:=ay U;refine⟨_,_,_,_,_,_,rfl,PS.mk d9 (by simp[dP]) λg4 e0 g5 e1=>PS.mk e1 (by simp[dP]) λY e2 g6 e3=>λt c7=>?_⟩;have Z:ak (λP=>P=w.heap.size) c5 Y:=e0.then e2;have L:ai Y t:=c7.af;have g7:t.heap.size=Y.heap.size:=by rw[c7.heap]
 have e:t.heap[w.heap.size]? =some (.cells (dP c n Ax o p q s).toArray 29 (0,0)):=L.get e3 id;have c8:ai w t:=(c6.new Z λP a=>.inr (by have a:P=w.heap.size:=a;omega)).then L;have h:∀{P:Nat},T.heap.size<=P->P≠w.heap.size:=λ{P} a=>by omega
 refine⟨λ_=>False,id,_,_,_,_,_,_,_,_,_,_,_,_,_,_,ae e rfl,ae e rfl,ae e rfl,ae e rfl,ae e rfl,ae e rfl,ae e rfl,ae e rfl,ae e rfl,ae e rfl,_,ae e rfl,id,_,ae e rfl,PC.ok (GN oM) ?_⟩;rintro _ e4 ⟨i,rfl,c9,e9,f2,b4⟩;refine⟨_,rfl,b4,PC.ok FJ ?_⟩;rintro _ g ⟨tp,M,rfl,a5,N,d0⟩;have g8:=b4.size;have g9:=N.size;have d1:=a5.aC;refine⟨_,rfl,N,PA.mk λb5 O h2 e5=>⟨O,?_⟩⟩
 let f:iO:=⟨n,Ax,o,p,q,s,dp,none,0,0,i,tp⟩
 let a2:bP:=⟨⟨c.bM.toNat,[]⟩,et c.u_.toNat,none,[],⟨c.lR,[],[]⟩⟩
 have d2:b5.heap[g.heap.size]? =some (.cells (FK f c self none none none) 99 (0,0)):=e5;have a0:ai t b5:=(b4.then N).then O;have a1:=c8.then a0;have b6:∃u,bB b5 (λP=>∃k,(match k with|0=>P=g.heap.size|1=>I P|2=>Fd P|5=>P=i|6=>M P|_=>False:Prop)) u (recC g.heap.size (FK f c self none none none) f c a2 false):=by
  refine bB.join (G:=λk P=>match k with|0=>P=g.heap.size|1=>I P|2=>Fd P|5=>P=i|6=>M P|_=>False) (λk=>?_) (λj a9 P b hj=>?_) λk P a=>?_
  ·match k with
   |0=>exact⟨rfl,d2⟩
   |1=>exact(((d8.af Z λP a v=>h (by have:=J P a;omega) v).ah L).ah a0)
   |2=>exact⟨Fd,((((c4.af K λ_ _ f=>f).af Z λP a v=>h (H P a).1 v).af L λ_ _ f=>f).af a0 λ_ _ f=>f),λP a=>a,rfl⟩
   |3=>intro v;cases v
   |4=>trivial
   |5=>exact⟨_,_,c9.ah (N.then O),λ_ f=>f,λP a=>a.elim⟩
   |6=>exact a5.ah O
   |k+7=>trivial
  ·have x:∀j:Nat,(match j with|0=>P=g.heap.size|1=>I P|2=>Fd P|5=>P=i|6=>M P|_=>False:Prop)->j=(if P<c3.heap.size then 2 else if P<c5.heap.size then 1 else if P<e4.heap.size then 5 else if P<g.heap.size then 6 else 0):=λj b=>by
    rcases j with _|_|_|_|_|_|_|j
    ·have b:P=g.heap.size:=b
     rw[Zq oM,Zq oM,Zq oM,Zq oM]
    ·have:=J P b;rw[Zq oM,Zx oM]
    ·have:=H P b;rw[Zx oM]
    ·exact b.elim
    ·exact b.elim
    ·have b:P=i:=b
     rw[Zq oM,Zq oM,Zx oM]
    ·have h5:=d0 P b;have h6:=d1 P b;rw[Zq oM,Zq oM,Zq oM,Zx oM]
    ·exact b.elim
   rw[x j b,<-x a9 hj]
  ·rcases k with _|_|_|_|_|_|_|k
   ·have a:P=g.heap.size:=a
    omega
   ·have:=J P a;omega
   ·have:=H P a;omega
   ·exact a.elim
   ·exact a.elim
   ·have a:P=i:=a
    omega
   ·have:=d1 P a;omega
   ·exact a.elim
 obtain⟨u,hp⟩:=b6;have b7:∀P,(∃k,(match k with|0=>P=g.heap.size|1=>I P|2=>Fd P|5=>P=i|6=>M P|_=>False:Prop))->w.heap.size<=P:=λP ⟨k,a⟩=>by
  rcases k with _|_|_|_|_|_|_|k
  ·have a:P=g.heap.size:=a
   omega
  ·have:=J P a;omega
  ·have:=H P a;omega
  ·exact a.elim
  ·exact a.elim
  ·have a:P=i:=a
   omega
  ·have:=d0 P a;omega
  ·exact a.elim
 refine PC.ok (FL (h:=f) (z1:=none) (z2:=none) (z3:=none) hp c1 ⟨hT,hL,A.then a1,λP a=>by have:=b7 P a;have:=A.size;omega⟩) ?_;rintro _ e6 ⟨rfl,a6,h',F',y,z,a7⟩;have e7:jK c a2=ze c:=rfl;rw[e7]at z a6⊢;have a8:ai w e6:=a1.new a7.af λP a=>.inr (b7 P a);refine⟨_,rfl,an.dR (λl=>Ok.mk ⟨a8,.inl ?_⟩) (λhz=>Ok.mk ⟨a8,.inr ?_⟩)⟩
 ·rw[a4];exact⟨l,rfl⟩
 ·rw[a4]
  exact⟨hz,_,F',rfl,⟨c1,h',y,z⟩,λP a=>(a7.new P a).elim (b7 P) λh5=>by have:=a1.size;omega,a6⟩
end
variable{R b7 e o:Int}{b2:List cF}{g0:List dv}{H g5:Nat×Nat}{Q X:Operand}{c6:ZH}{g p:TypeId}{b6 u:Value}{b:World}{B:aH}{b1:aZ}{e7:rL}
def Is(P:World):(callMethod (.iface 97 (XL a)) "State" #[XH e,XH o]).run XP P= .ok (.enter 391 #[XL a,XH e,XH o]) P:=kR
def Dp(P:World):(callMethod (.iface 97 (XL a)) "Entries" #[]).run XP P= .ok (.enter 389 #[XL a]) P:=kR
def KV(P:World):(callMethod (.iface 97 (XL a)) "Rows" #[XH e]).run XP P= .ok (.enter 390 #[XL a,XH e]) P:=kR
def AF(P:aH)(a:List aj)(b c:Int):rL:=match(ck P a).state b c with
 |none=>m_ 14
 |some d=>⟨0,(0,0),d,[],[],false⟩
def uV(b:aH)(c:List aj)(a P:Int):rL:=if a<0\/a>=(b.projs.length:Int)then m_ 1 else⟨0,(0,0),⟨0,[]⟩,[],(lQ (gP b c a) P 32).1,(lQ (gP b c a) P 32).2⟩
section
variable {w w' w0 w1 w2:World} {p:Nat} {F E D:XN} {cls:Nat->Nat} {h:iO} {c:cI} {self:Int} {X:bP}
def zf(P:cT w F cls p h c self X):ZG 66 #[XL p] w (Ok λa w'=>a= .iface 97 (XL h.bp)/\w=w'):=
 mf ⟨p,0,rfl,_,ae P.bu rfl,Ok.mk ⟨rfl,rfl⟩⟩
def wZ(x:bU w p F c self X):ZG 30 #[XL p,XH e,XH o] w (Ok λy w'=>gU w (AF c.decl X.S.l e o) y w'/\ai w w'):=by
 obtain⟨z,h,cls,n⟩:=x;refine nx (PA.mk λA d S B=>PC.ok (zf (cT.ah n d)) ?_);rintro _ _ ⟨rfl,rfl⟩;have C:=cT.ah n d;have P:cU A h.bp (λa=>F a/\cls a=4) c.decl c.every.toNat X.S.l:=C.at' 4;refine⟨_,rfl,_,_,Is,PC.ok (GM P) ?_⟩;rintro _ q ⟨i,j,k,G,rfl,l,r,f⟩;have E:=l.aC;have T:=f.size;refine⟨_,_,_,_,_,rfl,PA.mk λU H V I=>PS.mk I sM λW J Y K=>PS.mk K sM λL M Z m=>?_⟩;have b:ai q L:=H.new (J.then M) λa P=>.inr (by have P:a=q.heap.size:=P;omega);have s:=b.get (f.get B id) id;have b0:=b.size;have t:(((ck c.decl X.S.l).state e o).getD DF).cells.length<=8:=AV (DU z.decl X.S.l).1 ⟨0,0,0,[],e,o,0,0,0,0⟩;unfold AF
 cases N:(ck c.decl X.S.l).state e o with
 |none=>
  refine an.tt rfl (aA (jL (m_ 14) none 0 0 none 0 0 none 0 0) s rfl λb1 O b2 Q=>au (jL (m_ 14) none 0 0 none 0 0 none 0 0) Q (Ok.mk ⟨gU.plain rfl rfl rfl,?_⟩));exact((d.then f).then b).new O λa P=>.inr (by have P:a=w.heap.size:=P;omega)
 |some g=>
  rw[N]at l t m;refine an.ff rfl ⟨_,_,_,_,ae m rfl,ae m rfl,aA (jL ⟨0,(0,0),g,[],[],false⟩ i j k none 0 0 none 0 0) s rfl λb3 u b4 R=>au (jL ⟨0,(0,0),g,[],[],false⟩ i j k none 0 0 none 0 0) R (Ok.mk ⟨?_,?_⟩)⟩
  ·refine⟨i,j,k,none,0,0,none,0,0,G,rfl,((l.ah b).af u λa P v=>by have v:a=w.heap.size:=v;have:=r a P;omega).row dC (by have:g.cells.length<=8:=t;show g.cells.length*32<=aN;unfold aN;omega),dO _ _,dO _ _,λa P=>⟨by have:=r a P;omega,by have:=E a P;omega⟩⟩
  ·exact((d.then f).then b).new u λa P=>.inr (by have P:a=w.heap.size:=P;omega)
def KW(b:aH)(P:List aj)(c:Int):(gP b P c).length<=P.length:=by
 unfold gP;split
 ·simp
 split
 ·simp
 ·rename_i a d
  have f:=IS b P a (QZ d);have e:=(vh (a.rows.map (·.2))).length_eq;rw[Q8]at e;show(a.rows.map (·.2)|>.foldr kW []).length<=_;omega
def pG(A:bU w p F c self X):ZG 54 #[XL p,XH e,XH o] w (Ok λf w'=>gU w (uV c.decl X.S.l e o) f w'/\ai w w'):=by
 obtain⟨R,h,cls,B⟩:=A;refine lz (PA.mk λg i S r=>?_);have b:=cT.ah B i;have no:(e<0\/e>=(c.decl.projs.length:Int))->vm XP 46 (XL w.heap.size) (.agg (lH (m_ 1) none 0 0 none 0 0 none 0 0).toArray) g λs=>mW XP 46 (XL w.heap.size) s λC=>Ok (λf w'=>gU w (uV c.decl X.S.l e o) f w'/\ai w w') (.returned C) s:=λE=>by
  refine aA (jL (m_ 1) none 0 0 none 0 0 none 0 0) r rfl λT H U I=>au (jL (m_ 1) none 0 0 none 0 0 none 0 0) I (Ok.mk ⟨?_,i.new H λP a=>.inr (by have a:P=w.heap.size:=a;omega)⟩);unfold uV;rw[Zx E];exact gU.plain rfl rfl rfl
 have V:=(show aW g (λP=>F P/\cls P=1) c.decl h.ta h.tn h.pa h.pn from b.at' 1).xm.len;refine an.dec (λj=>no (.inl j)) (λj=>⟨p,0,rfl,_,_,_,ae b.bu rfl,an.dec (λt=>no (.inr oM)) (λt=>PC.ok (zf b) ?_)⟩);rintro _ _ ⟨rfl,rfl⟩;have a:cU g h.bp (λP=>F P/\cls P=4) c.decl c.every.toNat X.S.l:=b.at' 4;have W:X.S.l.length<=20000000:=a.1.2.2.2;have Y:=KW c.decl X.S.l e;refine⟨_,rfl,_,_,KV,PC.ok (JP a) ?_⟩;rintro _ Z ⟨⟨a0,a1,cc,G,rfl,d,k,hG⟩,J⟩;have hn:=d.len dC;have K:=d.iG;refine⟨_,_,_,rfl,PC.ok (Ij (d.row dC ba) d.aC K J oM) ?_⟩;rintro _ L ⟨a2,rfl,l,m,n,M,rfl,u,q,v⟩;have N:=u.aC;have a9:=k.size;have b0:=q.size;have b1:(lQ (gP c.decl X.S.l e) o 32).1.length<=32:=by unfold lQ;rw[Qy];omega
 have O:ai w L:=(i.then k).then q;refine⟨_,_,_,_,rfl,aA (jL ⟨0,(0,0),⟨0,[]⟩,[],(lQ (gP c.decl X.S.l e) o 32).1,(lQ (gP c.decl X.S.l e) o 32).2⟩ none 0 0 none 0 0 l m n) (q.get (k.get r id) id) rfl λb2 x b3 Q=>au (jL ⟨0,(0,0),⟨0,[]⟩,[],(lQ (gP c.decl X.S.l e) o 32).1,(lQ (gP c.decl X.S.l e) o 32).2⟩ none 0 0 none 0 0 l m n) Q (Ok.mk ⟨?_,O.new x λP a=>.inr (by have a:P=w.heap.size:=a;omega)⟩)⟩;unfold uV;rw[Zq (by rintro(y|y);exact j y;exact t oM)];refine⟨none,0,0,none,0,0,l,m,n,M,rfl,dO _ _,dO _ _,(u.af x λP a z=>by have z:P=w.heap.size:=z;have:=v P a;omega).row dC (by show(lQ (gP c.decl X.S.l e) o 32).1.length*24<=aN;unfold aN;omega),λP a=>⟨by have:=v P a;omega,by have:=N P a;omega⟩⟩
end
def zM{b:Type}{c:b->Bool}:∀{L:List b} {j:Nat} {P:b},L[j]? =some P->c P=true->(L.filter c)[((L.take j).filter c).length]? =some P
 |[],j,P,a,_=>by simp at a
 |x::L,0,P,a,d=>by simp at a;subst a;simp[d]
 |x::L,j+1,P,a,d=>by
  have e:=zM (L:=L) (j:=j) (by simpa using a) d;rw[Zw,List.filter_cons,List.filter_cons];split
  ·simpa using e
  ·exact e
section
variable {w w' wz A B w1:World} {D:XN} {a:ZH} {n c:Nat} {l:List cz} {O R1 R2 f most:Nat} {own L:List (Bx cz)} {pre:List (List Value)}
def P_(b P:Int)(a:cz):Bool:=a.ev.aT==b&&a.ev.agg==P
def AS{e:cz}{a:ZH}{n c:Nat}(i:Row aJ 8 w D a n e.ev.aK)(t:∀P,D P->P<w.heap.size):
  ZG 164 #[BT e a n c] w (Ok λu w'=>∃a n c G,u=BT e a n c/\Row aJ 8 w' G a n e.ev.aK/\(∀P,G P->w.heap.size<=P/\P<w'.heap.size)/\ai w w'):=by
 have v:=i.dE;have x:=i.len;refine wG (PA.mk λw1 m A f=>PA.mk λB g C j=>⟨_,_,_,ae (g.get f id) rfl,PC.ok (cm (i.ah (m.then g)) λP b=>by have:=t P b;omega) ?_⟩);rintro _ E ⟨o,p,q,G,rfl,r,h,k⟩;have f:=h.get (g.get f id) id;have j:=h.get j id;have F:=h.size;refine⟨_,_,_,rfl,PS.mk f sM λH l I y=>?_⟩;refine au (cs:=f_ e o p q) (jU _ _ _ _) y (aA (jU _ _ _ _) (l.get j (λd=>by have d:w1.heap.size=w.heap.size:=d;omega)) rfl λJ s K z=>au (jU _ _ _ _) z (Ok.mk ⟨o,p,q,G,rfl,?_,?_,?_⟩))
 ·refine(((r.af l λP b d=>?_).af s λP b d=>?_).row (bytes:=8) dC (by rw[<-x];exact v))
  ·have d:P=w.heap.size:=d;have:=k P b;omega
  ·have d:P=w1.heap.size:=d;have:=k P b;omega
 ·intro P b
  have:=k P b;have:=r.aC P b;omega
 ·exact((((m.then g).then h).new l λP b=>.inr (by have b:P=w.heap.size:=b;omega)).new s λP b=>.inr (by have b:P=w1.heap.size:=b;omega))
def Ll{d:cz}{f h:Nat}(j:w.heap[f]? =some (.cells #[XH e] g H))(k:w.heap[h]? =some (.cells #[XH o] p g5)):
  ZG 163 #[BT d a n c,XL f,XL h] w (Ok λl w'=>l= .bool (P_ e o d)/\ai w w'):=by
 refine wF (PA.mk λw1 P m i=>⟨_,ae i rfl,_,ae (P.get j id) rfl,an.mk (λb=>⟨_,ae i rfl,_,ae (P.get k id) rfl,Ok.mk ⟨?_,P⟩⟩) (λb=>Ok.mk ⟨?_,P⟩)⟩)
 ·unfold P_;rw[b];rfl
 ·unfold P_;rw[b];rfl
structure Lu (wz:World) (O:Nat) (own:List (Bx cz)) (f most:Nat) (pre:List (List Value)) (A:World):Prop where
 af:ak (·=O) wz A
 dE:wz.heap.size+2<=A.heap.size
 mV:∃a n c G,A.heap[O]? =some (.cells #[.slice a n c] 43 (0,0))/\aO vY 160 G A a n c (((own.take pre.length).drop f).map (·.x))/\(∀b,G b->wz.heap.size+2<=b)/\n<=most
structure Rw (wz:World) (O R1 R2:Nat) (own:List (Bx cz)) (f most:Nat) (A:World):Prop where
 af:ak (λb=>b=O\/b=R1\/b=R2) wz A
 r2:A.heap[R2]? =some (.cells #[.bool true] 4 (0,0))
 more:most<(own.drop f).length
 mV:∃a n c G,A.heap[R1]? =some (.cells #[.slice a n c] 43 (0,0))/\aO vY 160 G A a n c (((own.drop f).take most).map (·.x))/\(∀b,G b->wz.heap.size+2<=b)
def Lu.ah(b:Lu wz O own f most pre A)(P:ai A B):Lu wz O own f most pre B:=by
 obtain⟨d,e,a,n,c,G,g,h,i⟩:=b;exact⟨d.ah P,Xx e P.size,a,n,c,G,P.get g id,h.ah P,i⟩
def Lu.ft(o:O<wz.heap.size)(h:Lu wz O own f most pre A)(i:sQ (wz.heap.size+1) A B):Lu wz O own f most pre B:=by
 obtain⟨j,p,a,n,c,G,k,l,g,m⟩:=h;obtain⟨e,q⟩:=i;exact⟨j.new e λb d=>.inr (by have d:b=wz.heap.size+1:=d;omega),oM,a,n,c,G,e.get k (λP=>by have P:O=wz.heap.size+1:=P;omega),l.af e λb d P=>by have P:b=wz.heap.size+1:=P;have:=g b d;omega,g,m⟩
def Rw.ft(q:O<wz.heap.size/\R1<wz.heap.size/\R2<wz.heap.size)(h:Rw wz O R1 R2 own f most A){k:Nat}(r:wz.heap.size<=k/\k<=wz.heap.size+1)(i:sQ k A B):Rw wz O R1 R2 own f most B:=by
 obtain⟨j,l,m,a,n,c,G,o,p,g⟩:=h;obtain⟨b,s⟩:=i;exact⟨j.new b λd e=>.inr (by have e:d=k:=e;omega),b.get l (λP=>by have P:R2=k:=P;omega),m,a,n,c,G,b.get o (λP=>by have P:R1=k:=P;omega),p.af b λd e P=>by have P:d=k:=P;have:=g d e;omega,g⟩
def Po{r s t u:Nat}{R:XU}{Rx:XU}(hO:O<wz.heap.size)(Y:wz.heap[r]? =some (.cells #[XH e] g H))(Z:wz.heap[s]? =some (.cells #[XH o] p g5))(h1:r≠O)(h2:s≠O)(v:∃j f,wz.heap[t]? =some (.cells #[.slice a n c] j f))(h3:t≠O)(w:∃j f,wz.heap[u]? =some (.cells #[.func (.func 163) #[] #[XL r,XL s]] j f))(h4:u≠O)(I:Row IL.iX 120 wz D a n L)(hD:∀P,D P->P<wz.heap.size/\P≠O)(J:own=L.filter λP=>P_ e o P.x)(b6:L.length<=20000000)(hR:∀A B,R A->ak (qt wz) A B->R B)(hy:∀pre l A,Lu wz O own f most pre A->R A->zo [XH 0,BT ⟨pW,false,(0,0)⟩ none 0 0] l->(∃P,own[pre.length]? =some P/\l=[XH (pre.length:Int),BT P.x P.a P.n P.c])->mq XP (wz.heap.size+1) l A λP d=>(P=true/\Lu wz O own f most (pre++[l]) d/\R d)\/(P=false/\Rw wz O R1 R2 own f most d/\Rx d))(K:Lu wz O own f most [] w1)(a4:R w1):
  ZG 237 #[.func (.yield (wz.heap.size+1)) #[] #[],XL t,XL u] w1 (λj d=>(∃a0,j= .returned a0)/\((R d/\∃k:List (List Value),Lu wz O own f most k d/\k.length=own.length)\/(Rw wz O R1 R2 own f most d/\Rx d))):=by
 obtain⟨e3,f3,v⟩:=v;obtain⟨e4,f4,w⟩:=w;have hn:=I.len;refine sT ⟨_,_,_,ae (K.af.get v h3) rfl,λM a1 x w'=>∃(b:Nat) (pre:List (List Value)),x=b/\b<=n/\M=n-b/\a1=(pre.length:Int)/\pre.length=((L.take b).filter λP=>P_ e o P.x).length/\Lu wz O own f most pre w'/\R w',⟨_,0,[],rfl,Qj _,rfl,rfl,rfl,K,a4⟩,?_⟩;rintro M _ _ _ N ⟨b,pre,rfl,hj,rfl,rfl,i,m,Q⟩;refine an.dec (λb7=>?_) (λb8=>?_)
 ·obtain⟨P,h⟩:∃P,L[b]? =some P:=⟨_,Qq oM⟩
  obtain⟨a2,a3,es,ha,a5,a6,y,rfl,-⟩:=(I.af m.af λP h=>(hD P h).2).el b P h;have b3:pre.length<=20000000:=by
   rw[i];have h5:=List.length_filter_le (λP:Bx cz=>P_ e o P.x) (L.take b);have h6:=List.length_take_le b L;omega
  refine⟨a2,a3,ha,oM,oM,bq (es:=f_ P.x P.a P.n P.c) (k:=13) (jU _ _ _ _) rfl (λx ht=>by rw[Qx];exact y x ht) (PA.mk λb9 a7 c0 a8=>aA (jU P.x P.a P.n P.c) a8 rfl λa9 b0 c1 S=>?_)⟩;have T:ai N a9:=a7.new b0 λP h=>.inr (by have h:P=N.heap.size:=h;omega);have z:=m.ah T;refine⟨_,ae (z.af.get w h4) rfl,au (jU P.x P.a P.n P.c) S ⟨_,_,_,rfl,kR,PC.ok (Ll (z.af.get Y h1) (z.af.get Z h2)) ?_⟩⟩;rintro _ b1 ⟨rfl,U⟩;have V:=T.then U;have W:=m.ah V;have X:=hR _ _ Q (ai.af V);refine⟨_,rfl,an.not (an.mk (λq=>?_) (λq=>⟨_,oM,b+1,pre,aq oM,oM,rfl,rfl,?_,W,X⟩))⟩
  rotate_left
  ·rw[Qw,h,List.filter_append,i];simp[q]
  refine au (jU P.x P.a P.n P.c) (U.get S id) ⟨_,rfl,(hy pre _ b1 W X ?_ ⟨P,?_,rfl⟩).mono ?_⟩
  ·exact λφ C=>C pre.length P.x.ev.origin P.x.ev.seq P.x.ev.ax P.a P.n P.c P.x.ev.aT P.x.ev.agg P.x.ev.field P.x.ev.op P.x.ev.arg P.x.ev.key P.x.void P.x.BS.1 P.x.BS.2
  ·rw[J,i];exact zM h q
  ·rintro b' d (⟨rfl,E,b5⟩|⟨rfl,F,b2⟩)
   ·refine an.ff rfl ⟨_,oM,b+1,pre++[_],aq oM,oM,rfl,?_,?_,E,b5⟩
    ·rw[aq oM];simp
    ·rw[Qw,h,List.filter_append,QX,QX,<-i];simp[q]
   ·exact an.tt rfl ⟨⟨_,rfl⟩,.inr ⟨F,b2⟩⟩
 ·rw[Qz oM]at i
  exact⟨⟨_,rfl⟩,.inl ⟨Q,pre,m,by rw[J];exact i⟩⟩
end
section
variable {w w' wz A B w1:World} {D:XN} {a:ZH} {n c:Nat} {l:List cz}
def FM{most:Nat}(I:Row vY 120 w D a n l)(hD:∀P,D P->P<w.heap.size)(hm:most<=1000)(hl:l.length<=20000000)(k1:aP R):
  ZG 109 #[.slice a n c,XH e,XH o,XH R,XH (most:Int)] w (Ok λa6 w'=>∃N,a6= .tuple #[N,.bool (je l e o R most).2]/\nX vY 160 w (je l e o R most).1 N w'):=by
 obtain⟨V,c1,hL,e8⟩:=ej.boxes (N:=IL) I;have k5:V.length=l.length:=by rw[<-c1,Q8]
 obtain⟨own,q⟩:∃own,own=V.filter λP=>P_ e o P.x:=⟨_,rfl⟩
 obtain⟨i,hf⟩:∃i:Nat,i=(max R 0).toNat:=⟨_,rfl⟩
 have c7:own.map (·.x)=l.filter λb=>b.ev.aT==e&&b.ev.agg==o:=by rw[q,<-c1,List.filter_map];rfl
 have e9:je l e o R most=(((own.drop i).take most).map (·.x),decide (most<(own.drop i).length)):=by
  unfold je;rw[<-c7,<-hf];simp only[List.map_take,List.map_drop,XZ,Q8]
 rw[e9];have h4:own.length<=20000000:=by rw[q];have:=List.length_filter_le (λP:Bx cz=>P_ e o P.x) V;omega
 refine Ar (PA.mk λw6 k6 s6 g6=>PA.mk λv k7 s7 g7=>PA.mk λw8 k8 s8 g8=>PA.mk λj k9 s9 g9=>PA.mk λk a0 l0 f4=>PA.mk λm W l3 f5=>PA.mk λf6 O l4 f7=>?_);have a7:=(((k8.then k9).then a0).then W).then O;have c8:=a7.get (show v.heap[w6.heap.size]? =_ from g7) id;have k2:(if 0>(if False then(0:Int)else R)then 0 else R)=(i:Int):=by simp;split<;>omega
 refine⟨_,ae ((((k9.then a0).then W).then O).get g8 id) rfl,?_⟩;have g0:(if 0>R then(0:Int)else R)=(i:Int):=by rw[hf];split<;>omega
 rw[g0];refine PS.mk ((((k9.then a0).then W).then O).get g8 id) sM λE J l5 g1=>?_;have c9:E.heap[v.heap.size]? =some (.cells #[XH (i:Int)] 3 (0,0)):=g1;have d0:ai w f6:=((k6.then k7).then a7)
 have d1:ai w E:=d0.new J λP d=>.inr (by have d:P=v.heap.size:=d;omega);have d2:=J.get ((k7.then a7).get g6 id) (λb=>by have b:w.heap.size=v.heap.size:=b;omega);have d5:=J.get c8 (λb=>by have b:w6.heap.size=v.heap.size:=b;omega);have d6:=J.get (((a0.then W).then O).get g9 id) (λb=>by have b:w8.heap.size=v.heap.size:=b;omega);have d8:=J.get ((W.then O).get f4 id) (λb=>by have b:j.heap.size=v.heap.size:=b;omega);have e1:=J.get (O.get f5 id) (λb=>by have b:k.heap.size=v.heap.size:=b;omega);have e2:=J.get f7 (λb=>by have b:m.heap.size=v.heap.size:=b;omega);refine PC.ok (φ:=λa6 w'=>a6= .func (.func 237) #[] #[XL E.heap.size,.pointer (some ⟨E.heap.size+1,0,none⟩)]/\w'.heap[E.heap.size]? =some (.cells #[.slice a n c] 43 (0,0))/\(∃b ff,w'.heap[E.heap.size+1]? =some (.cells #[.func (.func 163) #[] #[XL w.heap.size,XL w6.heap.size]] b ff))/\ai E w'/\w'.heap.size=E.heap.size+2)
  (xS (PA.mk λw3 k3 s3 g3=>PA.mk λw4 k4 s4 g4=>Ok.mk ⟨by rw[s3],k4.get g3 id,⟨_,_,by rw[<-s3];exact g4⟩,k3.then k4,oM⟩)) ?_
 rintro _ wz ⟨rfl,g2,g5,y,sz⟩;have h:=d1.then y;have a8:=y.get d2 id;have a9:=y.get d5 id;have b0:=y.get d6 id;have b1:=y.get c9 id;have K:=y.get d8 id;have L:=y.get e1 id;have X:=y.get e2 id;have Y:m.heap.size<wz.heap.size:=ay X;have d3:j.heap.size<wz.heap.size:=ay K;have d4:k.heap.size<wz.heap.size:=ay L;have b2:∀P,D P->P<wz.heap.size/\P≠m.heap.size:=λP d=>⟨by have:=hD P d;have:=h.size;omega,λb=>by have:=hD P d;omega⟩
 have e3:∀P∈V,IL.In wz D P:=λP d=>(e8 P d).af h λ_ _ I=>I;have e5:∀{c0:Nat} {P:Bx cz},own[c0]? =some P->P∈V:=λ{c0 P} d=>by
  have:=QZ d;rw[q]at this;exact(List.mem_filter.1 this).1
 refine⟨_,rfl,237,_,rfl,kR,Unit,(),λ_=>Lu wz m.heap.size own i most,λN _ A=>N= .ret/\Rw wz m.heap.size j.heap.size k.heap.size own i most A,
  λf Q=>∃P,own[f.length]? =some P/\Q=[XH (f.length:Int),BT P.x P.a P.n P.c],λz=>z.length=own.length,?_,λ_ f A B M t=>M.ft Y t,λN f A B hx t=>⟨hx.1,hx.2.ft ⟨Y,d3,d4⟩ ⟨oM,oM⟩ t⟩,?_,?_,?_,?_,trivial⟩
 ·intro w1 hk hs
  refine⟨ai.af hk,oM,none,0,0,λ_=>False,hk.get X id,?_,λP d=>d.elim,Qj _⟩;simpa using aO.nil w1
 ·rintro _ f A M l6 l7 l8 l9 m0 ta tn tc m1 m2 m3 m4 m5 m6 m7 m8 m9 ⟨P,d,he⟩
  simp only[f_,aB,List.cons_append,List.nil_append,List.cons.injEq,Value.agg.injEq,Array.mk.injEq,Value.int.injEq,XX,Value.bool.injEq,and_true,true_and]at he;obtain⟨rfl,rfl,rfl,rfl,⟨rfl,rfl,rfl⟩,rfl,rfl,rfl,rfl,rfl,rfl,rfl,rfl,rfl⟩:=he;have n0:f.length<own.length:=(Qv.1 d).1;refine PA.mk λn1 h0 n3 h8=>aA (jU P.x P.a P.n P.c) h8 rfl λh9 i0 n4 i1=>?_;have c2:ai A h9:=h0.new i0 λP d=>.inr (by have d:P=A.heap.size:=d;omega);refine⟨ai.af c2,λb3 t=>?_⟩;have c3:=(M.ah c2).ft Y t;have i2:=t.1.get i1 (λb=>by have b:A.heap.size=wz.heap.size+1:=b;omega);have n8:=t.2;have Z:=c3.af;have c4:∀Q:List Value,(((own.take (f++[Q]).length).drop i)=if f.length<i then []else((own.take f.length).drop i)++[P]):=λQ=>by
   rw[QX,List.length_singleton,Qw,d];have i3:(own.take f.length).length=f.length:=by rw[Qy];omega
   split
   ·rename_i r
    exact List.drop_eq_nil_of_le (by rw[QX,i3];simp;omega)
   ·rename_i r
    rw[List.drop_append_of_le_length oM];rfl
  obtain⟨p,x,C,F,S,G,u,s,r,h6⟩:=c3;have a1:=s.len dC;rw[Q8,XZ,Qy,X2 oM]at a1;refine⟨_,ae (Z.get b1 (λb=>by have b:v.heap.size=m.heap.size:=b;omega)) rfl,an.dec (λn9=>⟨ak.refl _,?_⟩) (λo0=>⟨_,_,_,ae u rfl,_,ae (Z.get b0 (λb=>by have b:w8.heap.size=m.heap.size:=b;omega)) rfl,an.dec (λi4=>?_) (λi5=>λd7 i6=>?_)⟩)⟩
  ·refine⟨p,x,C,F,S,G,u,?_,r,h6⟩
   rw[c4,Zx oM];rw[List.drop_eq_nil_of_le (by rw[Qy];omega)]at s;exact s
  ·have e6:F=most:=oM
   have b4:=Z.get K (λb=>by have b:j.heap.size=m.heap.size:=b;omega);have b5:=Z.get L (λb=>by have b:k.heap.size=m.heap.size:=b;omega);refine⟨_,_,_,ae u rfl,PS.mk b4 sM λo1 d9 o2 i7=>PS.mk (d9.get b5 (λb=>by have b:k.heap.size=j.heap.size:=b;omega)) sM λi8 e0 o3 i9=>?_⟩;have T:ak (λP=>P=j.heap.size\/P=k.heap.size) b3 i8:=(d9.mono λP _ b=>.inl b).then (e0.mono λP _ b=>.inr b);have j0:(own.drop i).take most=(own.take f.length).drop i:=by
    rw[<-e6,a1,List.drop_take]
   refine⟨T.mono λP _ d=>⟨by rcases d with rfl|rfl<;>omega,by rcases d with rfl|rfl<;>omega⟩,.inl rfl,rfl,(p.mono λP _ b=>.inl b).then (T.mono λP _ b=>.inr b),i9,by rw[XZ];omega,C,F,S,G,e0.get i7 (λb=>by have b:j.heap.size=k.heap.size:=b;omega),?_,r⟩;rw[j0];exact s.af T λP d b=>by have:=r P d;rcases b with rfl|rfl<;>omega
  ·have U:ai b3 d7:=i6.af
   have c5:=(e3 P (e5 d)).af Z λP d b=>(b2 P d).2 b;have e7:Row aJ 8 d7 D P.a P.n P.x.ev.aK:=c5.1.ah U;have f0:P.x.ev.Ok:=c5.2;refine⟨λ_=>False,id,_,_,_,ae (U.get u id) rfl,au (jU P.x P.a P.n P.c) (U.get i2 id) (PC.ok (AS e7 λP d=>by have:=(b2 P d).1;have:=U.size;omega) ?_)⟩;rintro _ o4 ⟨f1,n2,f2,G2,rfl,j1,b6,b7⟩;have o5:=U.size;have o6:=b7.size;refine⟨_,_,_,_,_,_,_,_,_,_,_,_,_,_,_,rfl,b7,PA.mk λo7 b8 o8 j2=>⟨b8,?_⟩⟩;have a2:=(U.then b7).then b8;refine dU (c:=vY) (x:=P.x) (s.ah a2) Nz j2 (D:=G2) ⟨f1,n2,f2,rfl,j1.ah b8,f0⟩ (λP d=>⟨by have:=b6 P d;omega,λb=>by have:=s.aC P (s.self P b);have:=b6 P d;omega⟩) (by rw[Q8,XZ,Qy];unfold aN;omega) (by rw[Q8,XZ,Qy];unfold maxLen;omega) λa' c' o9 F' f3 b9 j3=>⟨_,_,_,rfl,?_⟩
   have g:∀P,aE C=some P->wz.heap.size+2<=P:=λP d=>r P (s.self P d);have j4:¬aE C=some m.heap.size:=λb=>by have:=g _ b;omega
   have p0:=b9.size;have p1:=a2.size;have H:∀P,F' P->wz.heap.size+2<=P:=λP d=>by
    rcases j3 P d with h7|h7|h7
    ·exact r P h7
    ·have:=b6 P h7;omega
    ·omega
   refine PS.mk (b9.get (a2.get u id) j4) sM λj5 e4 p2 j6=>?_;have T:ak (λP=>aE C=some P\/P=m.heap.size) b3 j5:=((ai.af a2).then (b9.mono λP _ b=>.inl b)).then (e4.mono λP _ b=>.inr b);refine⟨T.mono λP _ d=>⟨?_,?_⟩,⟨(p.new (T.mono λP _ b=>b) λP d=>d.elim (λb=>.inr (by have:=g P b;omega)) .inl),oM,a',F+1,c',F',j6,?_,H,oM⟩⟩
   ·rcases d with d|rfl
    ·have:=g P d;omega
    ·omega
   ·rcases d with d|rfl
    ·have:=g P d;omega
    ·omega
   ·rw[c4,Zq oM,Q3]
    exact f3.af e4 λP d b=>by have b:P=m.heap.size:=b;have:=H P d;omega
 ·intro f8 Rx hR _ p3 hy w1 j7 f9
  refine Calls.mono (Po (own:=own) (f:=i) (most:=most) (R:=f8) (Rx:=Rx .ret) (R1:=j.heap.size) (R2:=k.heap.size) Y a8 a9 oM oM ⟨_,_,y.size|>λ_=>g2⟩ oM g5 oM (hL.ah h) b2 q oM hR (λf Q A M j8 t hN=>(hy () f Q A M j8 t hN).mono ?_) j7 f9) ?_
  ·rintro P A' (I|⟨p,N,⟨rfl,x⟩,u⟩)
   ·exact .inl I
   ·exact .inr ⟨p,x,u⟩
  ·rintro b A' ⟨hv,I⟩
   refine⟨hv,?_⟩;rcases I with⟨p,z,x,u⟩|⟨p,x⟩
   ·exact .inl ⟨p,(),z,x,u⟩
   ·exact .inr ⟨.ret,[],⟨rfl,p⟩,x⟩
 ·rintro _ z A M c6 hm
  obtain⟨p,x,C,F,S,G,u,s,r,h6⟩:=M;have a1:=s.len dC;rw[c6,List.take_length]at s;rw[c6,List.take_length,Q8,XZ]at a1;have b4:=p.get K (λb=>by have b:j.heap.size=m.heap.size:=b;omega);have b5:=p.get L (λb=>by have b:k.heap.size=m.heap.size:=b;omega);refine⟨_,_,_,ae u rfl,PS.mk b4 sM λp4 a3 p5 j9=>PS.mk (a3.get b5 (λb=>by have b:k.heap.size=j.heap.size:=b;omega)) sM λp6 a4 p7 k0=>?_⟩;refine⟨a4.get (a3.get hm (λb=>by have b:wz.heap.size=j.heap.size:=b;omega)) (λb=>by have b:wz.heap.size=k.heap.size:=b;omega),λp8 t=>?_⟩;have a5:=t.1;have h1:=a5.get (a4.get j9 (λb=>by have b:j.heap.size=k.heap.size:=b;omega)) (λb=>by have b:j.heap.size=wz.heap.size:=b;omega);have h2:=a5.get k0 (λb=>by have b:k.heap.size=wz.heap.size:=b;omega);refine⟨_,_,_,ae h1 rfl,_,ae h2 rfl,Ok.mk ⟨_,?_,C,F,S,G,rfl,?_,?_,λP d=>by have:=r P d;have:=h.size;omega⟩⟩
  ·rw[Xv (by rw[XZ];omega)]
  ·rw[Qz (by rw[XZ];omega)]
   exact((s.af a3 λP d b=>by have b:P=j.heap.size:=b;have:=r P d;omega).af a4 λP d b=>by have b:P=k.heap.size:=b;have:=r P d;omega).af a5 λP d b=>by have b:P=wz.heap.size:=b;have:=r P d;omega
  ·refine(((h.new p λP d=>.inr (by have d:P=m.heap.size:=d;omega)).new a3 λP d=>.inr (by have d:P=j.heap.size:=d;omega)).new a4 λP d=>.inr (by have d:P=k.heap.size:=d;omega)).new a5 λP d=>.inr (by have d:P=wz.heap.size:=d;have:=h.size;omega)
 ·rintro f A ⟨-,hx⟩ hm
  refine⟨hm,λp9 t=>?_⟩;obtain⟨p,x,h3,C,F,S,G,u,s,r⟩:=hx.ft ⟨Y,d3,d4⟩ ⟨oM,oM⟩ t;refine⟨_,_,_,ae u rfl,_,ae x rfl,Ok.mk ⟨_,by rw[Zy h3],C,F,S,G,rfl,s,?_,λP d=>by have:=r P d;have:=h.size;omega⟩⟩;exact h.new p λP d=>.inr (by rcases d with d|d|d<;>omega)
end
def w_(a:aH)(b:List aj)(c d P:Int):rL:=⟨0,(0,0),⟨0,[]⟩,(je (ck a b).entries c d P 32).1,[],(je (ck a b).entries c d P 32).2⟩
section
variable {w w' w0 w1 w2:World} {p:Nat} {F E D:XN} {cls:Nat->Nat} {h:iO} {c:cI} {self:Int} {X:bP}
def yE(s:bU w p F c self X)(t:aP R):ZG 53 #[XL p,XH e,XH o,XH R] w (Ok λu w'=>gU w (w_ c.decl X.S.l e o R) u w'/\ai w w'):=by
 obtain⟨I,h,cls,k⟩:=s;refine ku (PA.mk λv b J x=>PC.ok (zf (cT.ah k b)) ?_);rintro _ _ ⟨rfl,rfl⟩;have y:=cT.ah k b;have P:cU v h.bp (λa=>F a/\cls a=4) c.decl c.every.toNat X.S.l:=y.at' 4;have z:=(t_ c.decl X.S.l P.1.2.2.2).1;refine⟨_,rfl,_,_,Dp,PC.ok (BW P) ?_⟩;rintro _ K ⟨L,M,N,G,rfl,l,d,O⟩;refine⟨_,_,_,rfl,PC.ok (FM (most:=32) (l.row dC ba) l.aC oM z t) ?_⟩;rintro _ A ⟨Q,rfl,f,g,i,B,rfl,m,j,n⟩;have C:=m.aC;have S:=d.size;have T:=j.size;have U:(je (ck c.decl X.S.l).entries e o R 32).1.length<=32:=by unfold je;rw[Qy];omega
 have E:ai w A:=(b.then d).then j;refine⟨_,_,_,_,rfl,aA (jL (w_ c.decl X.S.l e o R) none 0 0 f g i none 0 0) (j.get (d.get x id) id) rfl λV q W H=>au (jL (w_ c.decl X.S.l e o R) none 0 0 f g i none 0 0) H (Ok.mk ⟨?_,E.new q λa P=>.inr (by have P:a=w.heap.size:=P;omega)⟩)⟩;refine⟨none,0,0,f,g,i,none,0,0,B,rfl,dO _ _,(m.af q λa P r=>by have r:a=w.heap.size:=r;have:=n a P;omega).row dC (by show(je (ck c.decl X.S.l).entries e o R 32).1.length*120<=aN;unfold aN;omega),dO _ _,λa P=>⟨by have:=n a P;omega,by have:=C a P;omega⟩⟩
end
def MA:(do eqGuard .neq 39 Q X (.agg #[XH e,XH o]) (.agg #[XH R,XH b7]);binOp .neq 39 (.agg #[XH e,XH o]) (.agg #[XH R,XH b7]):Sem Value).run XP b= .ok (.bool (!(e==R&&o==b7))) b:=by
 have P:=HI (x:=Q) (y:=X) (a:=e) (b:=o) (c:=R) (d:=b7) (w:=b);rw[Sem.run_bind,run_eqGuard_agg b .eql _ Q X _ _ kR,Result.andThen_ok,run_eql_struct]at P;rw[Sem.run_bind,run_eqGuard_agg b .neq _ Q X _ _ kR,Result.andThen_ok,run_neq_struct];generalize(Op.equalIn 10000 39 (.agg #[XH e,XH o]) (.agg #[XH R,XH b7])).run XP b=a at P⊢
 cases a with
 |ok c d=>simp only[Result.andThen_ok,Result.ok.injEq,Value.bool.injEq]at P⊢;obtain⟨rfl,rfl⟩:=P;exact⟨rfl,rfl⟩
 |_=>simp[Result.andThen]at P
def QG(a:dv)(b:World):(do eqGuard .neq 269 Q X (.agg (aY a).toArray) (.agg (aY a).toArray);binOp .neq 269 (.agg (aY a).toArray) (.agg (aY a).toArray):Sem Value).run XP b= .ok (.bool false) b:=by
 have e:Tryz.prog.underlying 269=some (.struct (Tryz.prog.fieldsOf 269)):=kR
 have c:Tryz.prog.underlying 3=some (.int .i64):=kR
 have P:(Tryz.prog.fieldsOf 269).toList.map (λd=>(d.name,d.type,d.offset))=[("Group",3,0),("Value",3,1),("Count",3,2)]:=kR
 rw[Sem.run_bind,run_eqGuard_agg b .neq _ Q X _ _ kR,Result.andThen_ok,run_neq_struct,run_equalIn_struct b 9999 _ _ _ e kR];generalize(Tryz.prog.fieldsOf 269).toList=f at P
 match f,P with
 |[d,t,u],P=>
  simp only[QY,List.map_nil,List.cons.injEq,Prod.mk.injEq,and_true]at P;obtain⟨⟨g,h,i⟩,⟨j,k,l⟩,m,n,o⟩:=P;have p:(isAgg 3).run XP b= .ok false b:=cP _ _ _ kR ⟨_,c⟩ b;have q:=run_equalIn_int (P:=XP) b 9998 3 .i64 .i64 a.group a.group c;have r:=run_equalIn_int (P:=XP) b 9998 3 .i64 .i64 a.value a.value c;have s:=run_equalIn_int (P:=XP) b 9998 3 .i64 .i64 a.count a.count c;unfold Op.eqFields Op.eqFields Op.eqFields Op.eqFields;rw[g,h,i,j,k,l,m,n,o];simp[part,p,q,r,s,aY]
 |[],P=>simp at P
 |[_],P=>simp at P
 |[_,_],P=>simp at P
 |_::_::_::_::_,P=>simp at P
section
variable {w w':World} {D E:XN} {a b:ZH} {n m c d:Nat}
def AB(f:Row eN 32 w D a n b2)(h:Row eN 32 w E b m b2):ZG 161 #[.slice a n c,.slice b m d] w (Ok λu w'=>u= .bool true/\ai w w'):=by
 have F:=f.len;have H:=h.len;have v:=f.dE;unfold aN at v;refine wD (an.dR (λe=>Zz oM e) (λ_=>?_));refine⟨λj i w'=>∃P:Nat,i=P/\P<=n/\j=n-P/\ai w w',⟨_,0,rfl,Qj _,rfl,ak.refl w⟩,?_⟩;rintro j i _ I ⟨P,rfl,J,rfl,k⟩;refine an.dec (λK x y=>?_) (λ_=>Ok.mk ⟨rfl,k⟩);have g:ai w x:=k.then y.af;obtain⟨l,o,L,M,rfl,_,_,z,p,N,O,Q,rfl,A,_⟩:=(f.ah g).vB (i:=P) oM;obtain⟨q,r,R,S,rfl,_,_,s,t,T,U,V,rfl,B,_⟩:=(h.ah g).vB (i:=P) oM;rw[z]at s;cases s
 refine⟨l,o,rfl,oM,oM,_,p 0 dC,q,r,rfl,oM,oM,_,t 0 dC,an.dR (λe=>Zz rfl e) (λ_=>?_)⟩;refine⟨l,o,rfl,oM,oM,_,_,_,p 1 dC,q,r,rfl,oM,oM,_,_,_,t 1 dC,PC.ok (kM A B) ?_⟩;rintro _ W ⟨rfl,C⟩;exact⟨_,rfl,an.not (an.dec (λ_=>⟨_,oM,P+1,aq oM,oM,rfl,g.then C.af⟩) (λe=>Zz rfl e))⟩
def AD{s:kN}(h:Row eN 32 w D a n s.cells)(i:Row eN 32 w E b m s.cells):ZG 106 #[.agg #[XH s.version,.slice a n c],.agg #[XH s.version,.slice b m d]] w (Ok λj w'=>j= .bool true/\ai w w'):=by
 refine wq (PA.mk λp e q k=>PA.mk λr P t f=>?_);have g:=P.get k id;refine⟨_,ae g rfl,_,ae f rfl,an.eB (λ_=>?_) (λl=>Zz rfl l)⟩;refine⟨_,_,_,ae g rfl,_,_,_,ae f rfl,PC.ok (AB (h.ah (e.then P)) (i.ah (e.then P))) ?_⟩;rintro _ u ⟨rfl,o⟩;exact⟨_,rfl,Ok.mk ⟨rfl,(e.then P).then o⟩⟩
def wO{C:List cz}(p:Row vY 120 w D a n C)(F:Row vY 120 w E b m C):ZG 107 #[.slice a n c,.slice b m d] w (Ok λN w'=>N= .bool true/\ai w w'):=by
 have Y:=p.len;have Z:=F.len;have O:=p.dE;unfold aN at O;refine ss (an.dR (λg=>Zz oM g) (λ_=>?_));refine⟨λH i w'=>∃e:Nat,i=e/\e<=n/\H=n-e/\ai w w',⟨_,0,rfl,Qj _,rfl,ak.refl w⟩,?_⟩;rintro H i _ w1 ⟨e,rfl,hj,rfl,I⟩;refine an.dec (λh1 q Q=>?_) (λ_=>Ok.mk ⟨rfl,I⟩);have r:ai w q:=I.then Q.af;obtain⟨h,j,k,es,rfl,R,_,S,J,s,t,u,rfl,T,_⟩:=(p.ah r).vB (i:=e) oM;obtain⟨l,o,a0,fs,rfl,U,_,K,L,v,x,y,rfl,V,_⟩:=(F.ah r).vB (i:=e) oM;rw[S]at K;cases K
 have W:∀P,P<10->q.cell? ⟨h,j+e*13+P,none⟩=(aB k.ev s t u)[P]? :=λP f=>(J P (show P<13 by omega)).trans (XW (show P<10 from f));have X:∀P,P<10->q.cell? ⟨l,o+e*13+P,none⟩=(aB k.ev v x y)[P]? :=λP f=>(L P (show P<13 by omega)).trans (XW (show P<10 from f));refine⟨h,j,rfl,oM,oM,bq (es:=aB k.ev s t u) (k:=10) (aU _ _ _ _) rfl (λP f=>by rw[Qx];exact W P f) ⟨l,o,rfl,oM,oM,bq (es:=aB k.ev v x y) (k:=10) (aU _ _ _ _) rfl (λP f=>by rw[Qx];exact X P f) (PC.ok (qE T V) ?_)⟩⟩;rintro _ M ⟨rfl,z⟩;have A:∀P,P<13->M.cell? ⟨h,j+e*13+P,none⟩=(f_ k s t u)[P]? :=λP f=>(z.cell (a:=⟨h,j+e*13+P,none⟩) R id).trans (J P f);have B:∀P,P<13->M.cell? ⟨l,o+e*13+P,none⟩=(f_ k v x y)[P]? :=λP f=>(z.cell (a:=⟨l,o+e*13+P,none⟩) U id).trans (L P f);refine⟨_,rfl,an.not (an.dec (λ_=>?_) (λg=>Zz rfl g))⟩;refine⟨h,j,rfl,oM,oM,_,A 10 dC,l,o,rfl,oM,oM,_,B 10 dC,an.not (an.mk (λ_=>?_) (λg=>by simp at g))⟩;refine⟨h,j,rfl,oM,oM,_,_,A 11 dC,A 12 dC,l,o,rfl,oM,oM,_,_,B 11 dC,B 12 dC,_,λw'=>MA,an.mk (λg=>by simp at g) (λ_=>?_)⟩;exact⟨_,oM,e+1,aq oM,oM,rfl,r.then z⟩
def CN(g:Row DT 24 w D a n g0)(l:Row DT 24 w E b m g0):ZG 108 #[.slice a n c,.slice b m d] w (Ok λq w'=>q= .bool true/\ai w w'):=by
 have B:=g.len;have C:=l.len;have r:=g.dE;unfold aN at r;refine xQ (an.dR (λh=>Zz oM h) (λ_=>?_));refine⟨λo i w'=>∃P:Nat,i=P/\P<=n/\o=n-P/\ai w w',⟨_,0,rfl,Qj _,rfl,ak.refl w⟩,?_⟩;rintro o i _ F ⟨P,rfl,H,rfl,f⟩;refine an.dec (λI=>?_) (λ_=>Ok.mk ⟨rfl,f⟩);obtain⟨s,t,e,J,rfl,K,_,u,v,rfl,_⟩:=(g.ah f).vB (i:=P) oM;obtain⟨x,y,L,M,rfl,N,_,p,z,rfl,_⟩:=(l.ah f).vB (i:=P) oM;rw[u]at p;cases p
 refine⟨s,t,rfl,oM,oM,bq (es:=aY e) (k:=3) (Kv e) rfl (λj k=>by rw[Qx];exact v j k) ⟨x,y,rfl,oM,oM,bq (es:=aY e) (k:=3) (Kv e) rfl (λj k=>by rw[Qx];exact z j k) ⟨false,λm=>QG e _,λO A=>an.mk (λh=>by cases h) λ_=>?_⟩⟩⟩;exact⟨_,oM,P+1,aq oM,oM,rfl,f.then A.af⟩
def yD{l m:World}(n:gU l e7 u w)(o:gU m e7 b6 w):ZG 52 #[u,b6] w (Ok λb6 w'=>b6= .bool true/\ai w w'):=by
 obtain⟨A,B,C,E,F,H,I,J,K,G,rfl,p,q,r,L⟩:=n;obtain⟨M,tn,N,O,Q,R,S,T,U,V,rfl,s,t,v,W⟩:=o;refine uu (PA.mk λX x Y y=>PA.mk λz g Z b=>?_);have c:=g.get y id;have P:ai w z:=x.then g;refine⟨_,ae c rfl,_,ae b rfl,an.eB (λ_=>?_) (λe=>Zz rfl e)⟩;refine⟨_,_,ae c rfl,ae c rfl,_,_,ae b rfl,ae b rfl,aD.mk HI ⟨_,rfl,an.mk (λ_=>?_) (λe=>by simp at e)⟩⟩;refine⟨_,_,_,_,ae c rfl,ae c rfl,_,_,_,_,ae b rfl,ae b rfl,PC.ok (AD (s:=e7.st) (p.ah P) (s.ah P)) ?_⟩;rintro _ w5 ⟨rfl,a⟩;have h:=a.get c id;have i:=a.get b id;refine⟨_,rfl,an.tt rfl ⟨_,_,_,ae h rfl,_,_,_,ae i rfl,PC.ok (wO (q.ah (P.then a)) (t.ah (P.then a))) ?_⟩⟩;rintro _ w6 ⟨rfl,d⟩;have j:=d.get h id;have k:=d.get i id;refine⟨_,rfl,an.tt rfl ⟨_,_,_,ae j rfl,_,_,_,ae k rfl,PC.ok (CN (r.ah ((P.then a).then d)) (v.ah ((P.then a).then d))) ?_⟩⟩;rintro _ w7 ⟨rfl,f⟩;exact⟨_,rfl,an.tt rfl ⟨_,ae (f.get j id) rfl,_,ae (f.get k id) rfl,Ok.mk ⟨sM,((P.then a).then d).then f⟩⟩⟩
end
section
variable {w w':World} {D E:XN} {a b:ZH} {n m c:Nat}
def AE(h:Row fm 32 w D a n b1.bg):ZG 77 #[.agg (dm b1 a n c).toArray] w (Ok λH w'=>∃p v q e,H= .agg (dm b1 p v q).toArray/\aO fm 125 e w' p v q b1.bg/\ai w w'/\∀b,e b->w.heap.size<=b):=by
 have Y:=h.len;have P:=h.dE;unfold aN at P;refine wm (PA.mk λy I Z J=>PA.mk λr z s7 K=>?_);have L:=z.get J id;have A:=I.then z;refine⟨λB k d l i w'=>i=(d:Int)/\d<=n/\B=n-d/\∃e,aO fm 125 e w' k d l (b1.bg.take d)/\ai r w'/\∀b,e b->r.heap.size<=b,
  ⟨_,rfl,Qj _,rfl,λ_=>False,by simpa using aO.nil r,ak.refl _,λ_ h=>h.elim⟩,?_⟩
 rintro B k d l i _ w1 ⟨rfl,hj,rfl,e,m,f,g⟩;have s:=f.get L id;have C:=A.then f;have E:(b1.bg.take d).length=d:=by simp;omega
 refine⟨_,_,_,ae s rfl,an.dec (λM=>?_) (λM=>?_)⟩
 ·obtain⟨b,t,x,es,rfl,_,_,N,o,rfl,O⟩:=(h.ah C).vB (i:=d) oM
  refine⟨_,_,_,ae s rfl,b,t,rfl,oM,oM,_,_,_,_,o 0 dC,o 1 dC,o 2 dC,o 3 dC,DQ m HJ (x:=x) (D:=λ_=>False) ⟨rfl,O⟩ (λ_ h=>h.elim) (by rw[E];unfold aN;omega) (by rw[E];unfold maxLen;omega) λp q Q R S T U _=>?_⟩;refine⟨_,_,_,rfl,n-(d+1),oM,aq oM,oM,rfl,R,?_,f.new T λb P=>.inr (g b (m.self b P)),?_⟩
  ·rw[Qw,N];exact S
  ·intro b P
   have:=f.size;rcases U b P with h|h|h
   ·exact g b h
   ·exact h.elim
   ·omega
 ·obtain rfl:d=n:=oM
  rw[Qz oM]at m;have V:=f.get K id;refine PS.mk s sM λw2 u s2 W=>au (cs:=dm b1 k d l) (eF _ _ _ _) W (aA (eF _ _ _ _) (u.get V oM) rfl λQ F s3 X=>au (eF _ _ _ _) X (Ok.mk ⟨k,d,l,e,rfl,?_,?_,λb P=>by have:=g b P;have:=A.size;omega⟩))
  ·exact(m.af u λb P j=>by have j:b=w.heap.size:=j;have:=g b P;omega).af F λb P j=>by have j:b=y.heap.size:=j;have:=g b P;omega
  ·exact(C.new u λb P=>.inr (by have P:b=w.heap.size:=P;omega)).new F λb P=>.inr (by have P:b=y.heap.size:=P;omega)
def CO{tn tc W pc:Nat}(o:aW w D B d tn r W):
  ZG 39 #[.agg #[.slice d tn tc,.slice r W pc]] w (Ok λe0 w'=>∃I Ax a3 J K a7 G,e0= .agg #[.slice I Ax a3,.slice J K a7]/\aW w' G B I Ax J K/\(∀b,G b->w.heap.size<=b/\b<w'.heap.size)/\ai w w'):=by
 have g8:=o.aT.len;have b3:=o.aT.dE;have g9:=o.xm.len;have b4:=o.xm.dE;refine xL (PA.mk λL k4 s4 g4=>PA.mk λh k5 s5 g5=>PA.mk λw6 k6 s6 g6=>?_);have b5:=k4.then k5;have d7:=b5.then k6;have gp:=k6.get (k5.get g4 id) id;have gr:=k6.get g5 id;have z6:=d7.size;refine⟨λm M w'=>∃f:Nat,M=f/\f<=tn/\m=tn-f/\ak (·=h.heap.size) w6 w'/\∃N O X Z,w'.heap[h.heap.size]? =some (.cells #[.slice N O X,.slice none 0 0] 25 (0,0))/\aO jk 130 Z w' N O X (B.types.take f)/\∀b,Z b->w6.heap.size<=b,
  ⟨_,0,rfl,Qj _,rfl,ak.refl _,none,0,0,λ_=>False,g6,aO.nil _,λ_ o=>o.elim⟩,?_⟩
 rintro m _ _ g ⟨f,rfl,hj,rfl,Q,N,O,X,Z,go,v,F⟩;have a4:ai w g:=d7.new Q λb P=>.inr (by have P:b=h.heap.size:=P;have:=b5.size;omega);have zk:=Q.size;have a0:=Q.get gp λc=>by have c:w.heap.size=h.heap.size:=c;omega
 refine⟨_,_,_,ae a0 rfl,an.dec (λj7=>?_) (λj8=>?_)⟩
 ·have h0:f<B.types.length:=oM
  have b6:B.types[f]? =some B.types[f]:=Qq h0;generalize B.types[f]=p at b6;obtain⟨b,A,es,ha,P,j9,e1,fa,fn,fc,rfl,b8⟩:=(o.aT.ah a4).el f p b6;have c0:=e1 0 dC;have h2:jk.k=1:=rfl;rw[h2,Nat.mul_one]at c0;have h3:=b8.len;have b9:=b8.dE;refine PA.mk λk0 h4 k1 h6=>PS.mk h6 sM λa5 h7 k2 h8=>?_;have C:ai g a5:=h4.new h7 λb P=>.inr (by have P:b=g.heap.size:=P;omega);have e2:=C.get a0 id;have d9:=C.size;have e3:=a4.then C;refine⟨λm M w'=>∃k:Nat,M=k/\k<=fn/\m=fn-k/\ak (·=g.heap.size) a5 w'/\∃s t x u,w'.heap[g.heap.size]? =some (.cells #[.slice s t x] 130 (0,0))/\aO nq 123 u w' s t x (p.take k)/\∀b,u b->a5.heap.size<=b,
   ⟨_,0,rfl,Qj _,rfl,ak.refl _,none,0,0,λ_=>False,h8,aO.nil _,λ_ o=>o.elim⟩,?_⟩
  rintro m _ _ a6 ⟨k,rfl,hk,rfl,i,s,t,x,u,y,j,q⟩;have zx:=i.size;have e4:ai w a6:=e3.new i λb P=>.inr (by have P:b=g.heap.size:=P;have:=a4.size;omega);have b2:=i.get e2 λc=>by have c:w.heap.size=g.heap.size:=c;have:=ay a0;omega
  have b7:a6.cell? ⟨b,A+Int.toNat (f:Int),none⟩=some (.slice fa fn fc):=by
   rw[Qx];refine(i.cell (a:=⟨b,A+f,none⟩) (Qk P d9) λc=>by have c:b=g.heap.size:=c;omega).trans ((C.cell (a:=⟨b,A+f,none⟩) P id).trans ?_);exact c0
  refine⟨_,_,_,ae b2 rfl,b,A,ha,oM,oM,_,_,_,b7,an.dec (λe5=>?_) (λe6=>?_)⟩
  ·intro c1 h9
   have l:ai a6 c1:=h9.af;have j6:=e4.then l;have e7:=l.get y id;have e8:=l.get b2 id;have f0:c1.cell? ⟨b,A+Int.toNat (f:Int),none⟩=some (.slice fa fn fc):=(l.cell (a:=⟨b,A+Int.toNat (f:Int),none⟩) (Qk (Qk P d9) zx) id).trans b7;have i0:k<p.length:=oM
   have c2:p[k]? =some p[k]:=Qq i0;generalize p[k]=H at c2;have f1:ai g c1:=(C.new i λb P=>.inr (by have P:b=g.heap.size:=P;omega)).then l;obtain⟨fb,fo,a8,rfl,-,-,c4,ya,yn,yc,rfl,c5,a9⟩:=(b8.ah f1).el k H c2;have f3:=c5.len;have f4:=c5.dE;refine⟨λ_=>False,id,_,_,_,ae e7 rfl,_,_,_,ae e8 rfl,b,A,ha,oM,oM,_,_,_,f0,fb,fo,rfl,oM,oM,bq (es:=dm H ya yn yc) (k:=4) (eF _ _ _ _) rfl (λp ht=>by rw[Qx];exact c4 p ht) (PC.ok (AE c5) ?_)⟩;rintro _ k3 ⟨a,n,cc,Fm,rfl,c6,e9,f2⟩;have f6:=c6.aC;refine⟨_,_,_,_,_,_,rfl,e9,PA.mk λf5 c7 k7 i1=>⟨c7,?_⟩⟩;have a1:ai a6 f5:=(l.then e9).then c7;have k8:=c6.len dC;have f7:Row fm 32 f5 Fm a n H.bg:=(c6.ah c7).row dC (by rw[<-f3];exact f4);refine dU (c:=nq) (x:=H) (j.ah a1) Mg i1 (D:=Fm) ⟨a,n,cc,rfl,f7,a9⟩ (λb P=>⟨by have:=f6 b P;omega,λc=>by have:=j.aC b (j.self b c);have:=f2 b P;have:=l.size;omega⟩) (by rw[Qy];unfold aN at*;omega) (by rw[Qy];unfold aN at b9;unfold maxLen;omega) λR S i2 z b0 E T=>⟨_,_,_,rfl,?_⟩
   have c9:¬aE s=some g.heap.size:=λc=>by have:=q _ (j.self _ c);omega
   have k9:=a1.size;have i3:=E.size;have zd:=l.size;have e:∀b,z b->a5.heap.size<=b:=λb P=>by
    rcases T b P with Y|Y|Y
    ·exact q b Y
    ·have:=f2 b Y;omega
    ·omega
   refine PS.mk (E.get (a1.get y id) c9) sM λi4 U i5 d0=>⟨_,oM,k+1,aq (by unfold aN at b9;omega),oM,rfl,((i.ah a1).new E λb P=>.inr (q b (j.self b P))).then U,R,t+1,S,z,d0,?_,e⟩
   rw[Qw,c2];exact b0.af U λb P c=>by have c:b=g.heap.size:=c;have:=e b P;omega
  ·rw[Qz oM]at j
   have c3:=i.get (C.get go id) λc=>by have c:h.heap.size=g.heap.size:=c;have:=ay go;omega
   refine⟨_,_,_,ae c3 rfl,_,_,_,ae y rfl,PA.mk λi6 d1 l0 i7=>?_⟩;have b1:ai g i6:=(C.new i λb P=>.inr (by have P:b=g.heap.size:=P;omega)).then d1;refine dU (c:=jk) (x:=p) (v.ah b1) IQ i7 (D:=u) ⟨s,t,x,rfl,(j.ah d1).row dC (by rw[<-h3];exact b9)⟩ (λb P=>⟨by have:=j.aC b P;omega,λc=>by have:=v.aC b (v.self b c);have:=q b P;omega⟩) (by rw[Qy];unfold aN at*;omega) (by rw[Qy];unfold aN at b3;unfold maxLen;omega) λR S l3 z f8 d2 T=>⟨_,_,_,rfl,?_⟩
   have i8:¬aE N=some h.heap.size:=λc=>by have:=F _ (v.self _ c);omega
   have l4:=b1.size;have l5:=d2.size;have e:∀b,z b->w6.heap.size<=b:=λb P=>by
    rcases T b P with Y|Y|Y
    ·exact F b Y
    ·have:=q b Y;omega
    ·omega
   refine PS.mk (d2.get (d1.get c3 id) i8) sM λl6 c8 l7 i9=>⟨_,oM,f+1,aq (by unfold aN at b3;omega),oM,rfl,((Q.ah b1).new d2 λb P=>.inr (F b (v.self b P))).then c8,R,O+1,S,z,i9,?_,e⟩
   rw[Qw,b6];exact f8.af c8 λb P c=>by have c:b=h.heap.size:=c;have:=e b P;omega
 ·rw[Qz oM]at v
  have f9:=v.aC;refine⟨λm M w'=>∃f:Nat,M=f/\f<=W/\m=W-f/\ak (·=h.heap.size) g w'/\∃s t x u,w'.heap[h.heap.size]? =some (.cells #[.slice N O X,.slice s t x] 25 (0,0))/\aO tg 128 u w' s t x (B.projs.take f)/\∀b,u b->g.heap.size<=b,
   ⟨_,0,rfl,Qj _,rfl,ak.refl _,none,0,0,λ_=>False,go,aO.nil _,λ_ o=>o.elim⟩,?_⟩
  rintro m _ _ d3 ⟨k,rfl,hk,rfl,i,s,t,x,u,y,j,q⟩;have zx:=i.size;have d4:ai w d3:=a4.new i λb P=>.inr (by have P:b=h.heap.size:=P;have:=b5.size;omega);have d8:=i.get a0 λc=>by have c:w.heap.size=h.heap.size:=c;omega
  refine⟨_,_,_,ae d8 rfl,an.dec (λe5=>?_) (λe6=>?_)⟩
  ·intro j0 j1
   have l:ai d3 j0:=j1.af;have g0:=l.get y id;obtain⟨fb,fo,H,a8,rfl,-,-,j2,c4,rfl,a9⟩:=(o.xm.ah (d4.then l)).vB (i:=k) oM;have V:=λp (ht:p<5)=>c4 p ht;refine⟨λ_=>False,id,_,_,_,ae g0 rfl,_,_,_,ae (l.get d8 id) rfl,fb,fo,rfl,oM,oM,_,_,_,_,_,V 0 dC,V 1 dC,V 2 dC,V 3 dC,V 4 dC,PA.mk λj3 g1 l8 j4=>⟨g1,?_⟩⟩;have a2:ai d3 j3:=l.then g1;refine dU (c:=tg) (x:=H) (j.ah a2) Hv j4 (D:=λ_=>False) ⟨rfl,a9⟩ (λb P=>P.elim) (by rw[Qy];unfold aN at*;omega) (by rw[Qy];unfold aN at b4;unfold maxLen;omega) λR S i2 z b0 E T=>⟨_,_,_,rfl,?_⟩
   have c9:¬aE s=some h.heap.size:=λc=>by have:=q _ (j.self _ c);omega
   have l9:=a2.size;have i3:=E.size;have zd:=l.size;have e:∀b,z b->g.heap.size<=b:=λb P=>by
    rcases T b P with Y|Y|Y
    ·exact q b Y
    ·exact Y.elim
    ·omega
   refine PS.mk (E.get (a2.get y id) c9) sM λi4 U i5 d0=>⟨_,oM,k+1,aq (by unfold aN at b4;omega),oM,rfl,((i.ah a2).new E λb P=>.inr (q b (j.self b P))).then U,R,t+1,S,z,d0,?_,e⟩
   rw[Qw,j2];exact b0.af U λb P c=>by have c:b=h.heap.size:=c;have:=e b P;omega
  ·rw[Qz oM]at j
   have g2:=j.aC;have g3:=i.get (Q.get gr λc=>by have c:L.heap.size=h.heap.size:=c;omega) λc=>by have c:L.heap.size=h.heap.size:=c;omega
   have h1:=v.af i λb P c=>by have c:b=h.heap.size:=c;have:=F b P;omega
   refine⟨_,_,_,_,_,_,ae y rfl,ae y rfl,PS.mk g3 sM λm0 d5 m1 j5=>PS.mk j5 sM λm2 d6 m3 g7=>⟨_,_,_,_,_,_,ae g7 rfl,ae g7 rfl,Ok.mk ⟨_,_,_,_,_,_,λb=>Z b\/u b,rfl,⟨?_,?_⟩,?_,?_⟩⟩⟩
   ·exact(((h1.row (bytes:=24) dC (by rw[<-g8];exact b3)).af (d5.then d6) λb P c=>by have c:b=L.heap.size:=c;have:=F b P;omega)).mono λb P=>.inl P
   ·exact(((j.row (bytes:=40) dC (by rw[<-g9];exact b4)).af (d5.then d6) λb P c=>by have c:b=L.heap.size:=c;have:=q b P;omega)).mono λb P=>.inr P
   ·have z4:=k4.size
    rintro b (P|P)
    ·have:=F b P;have:=f9 b P;omega
    ·have:=q b P;have:=g2 b P;omega
   ·exact d4.new (d5.then d6) λb P=>.inr (by have P:b=L.heap.size:=P;have:=k4.size;omega)
def CP{c:cI}{tn t p u:Nat}(v:aW w D c.decl d tn r p):
  ZG 12 #[oK c d tn t r p u] w (Ok λx w'=>∃P Ax f a e g G,x=oK c P Ax f a e g/\aW w' G c.decl P Ax a e/\(∀b,G b->w.heap.size<=b/\b<w'.heap.size)/\ai w w'):=by
 refine xI (PA.mk λk q I y=>PA.mk λJ l K z=>?_);have m:=l.get y id;refine⟨_,_,_,_,_,_,ae m rfl,ae m rfl,PC.ok (CO (v.ah (q.then l))) ?_⟩;rintro _ L ⟨P,Ax,f,a,e,g,G,rfl,A,n,j⟩;have M:=j.size;refine⟨_,_,_,_,_,_,rfl,PS.mk (j.get m id) sM λN B O C=>PS.mk C sM λQ E R F=>?_⟩;have o:=B.then E;refine au (oL c P Ax f a e g) F (aA (oL c P Ax f a e g) (o.get (j.get z id) λi=>by have i:k.heap.size=w.heap.size:=i;omega) rfl λS s T H=>au (oL c P Ax f a e g) H (Ok.mk ⟨_,_,_,_,_,_,G,rfl,?_,λb h=>?_,?_⟩))
 ·exact(A.af o λb h i=>by have i:b=w.heap.size:=i;have:=n b h;omega).af s λb h i=>by have i:b=k.heap.size:=i;have:=n b h;omega
 ·have:=n b h;omega
 ·exact(((q.then l).then j).new o λb h=>.inr (by have h:b=w.heap.size:=h;omega)).new s λb h=>.inr (by have h:b=k.heap.size:=h;omega)
end
structure MB where
 kind:Int
 n:Int
 now:Int
 cmd:ir
 m:di
structure nd (X Y:bP):Prop where
 evs:Y.S.l.length<=X.S.l.length+300\/Y.S.l.length<=16777216
 asked:Y.kZ.asked.length<=X.kZ.asked.length+1
def nd.refl(P:bP):nd P P:=⟨.inl oM,oM⟩
def FU{P a:Type}[BEq P][LawfulBEq P](b:P)(c:a):∀(d:List (P×a)),(aG d b c).length<=d.length+1
 |[]=>by simp[aG]
 |(f,g)::e=>by
  unfold aG;split
  ·simp
  ·have:=FU b c e
   simp;omega
def FV{P c:Type}[BEq P][LawfulBEq P](a:P):∀(b:List (P×c)),(bO b a).length<=b.length
 |[]=>by simp[bO]
 |(e,f)::d=>by
  unfold bO;split
  ·simp
  ·have:=FV a d
   simp;omega
def pO(P:Nat):∀(c:List aj) (d:ar) (a b:List aj),(eH P c d a b).2.1.length+(eH P c d a b).2.2.length<=a.length+b.length+c.length
 |[],d,a,b=>by simp[eH]
 |e::c,d,a,b=>by
  unfold eH;split
  ·have:=pO P c (d.add e).2 (a++[e]) b
   simp at this⊢;omega
  split
  ·have:=pO P c d a b
   simp;omega
  ·have:=pO P c d a (dy P b e).2
   have:=zn P b e;simp;omega
def pt:∀(a:List aj) (b:ar) (P:List aj),(dB a b P).2.length<=P.length+a.length
 |[],b,P=>by simp[dB]
 |e::a,b,P=>by
  unfold dB;split
  ·have:=pt a (b.add e).2 (P++[e])
   simp at this⊢;omega
  ·have:=pt a (b.add e).2 P
   simp;omega
def BI:∀(k:Nat) (a:ar) (P b:List aj),(pq k a P b).1.length<=P.length+b.length
 |0,a,P,b=>by simp[pq]
 |k+1,a,P,b=>by
  unfold pq;have c:=tS a b;dsimp only;split
  ·simp
  ·have d:=pt (bl a b).1 a P
   have e:=BI k (dB (bl a b).1 a P).1 (dB (bl a b).1 a P).2 (bl a b).2;omega
def Iv(a:cI)(P:bP)(b:List aj):(gI a P b).1.length<=P.waits.length+b.length:=by
 have c:=pO a.buffer.toNat b (dL a P.S []) [] P.waits;have d:=BI ((eH a.buffer.toNat b (dL a P.S []) [] P.waits).2.2.length+1) (eH a.buffer.toNat b (dL a P.S []) [] P.waits).1 (eH a.buffer.toNat b (dL a P.S []) [] P.waits).2.1 (eH a.buffer.toNat b (dL a P.S []) [] P.waits).2.2;simp at c;unfold gI;dsimp only;omega
def KX(b:cI)(P:ar)(a:List aj):(dL b P a).l.length<=P.l.length+a.length:=by
 have:=ar.lj (P.l++a) ⟨b.bM.toNat,[]⟩;unfold dL;simp at this⊢;omega
def BJ(b:cI)(P:bP)(a:List aj):(cK b P a).2.S.l.length<=P.S.l.length+a.length/\(cK b P a).2.kZ=P.kZ:=by
 unfold cK
 cases P.log with
 |none=>exact⟨by dsimp only;omega,rfl⟩
 |some c=>
  dsimp only;split
  ·exact⟨by dsimp only;omega,rfl⟩
  split
  ·exact⟨by dsimp only;omega,rfl⟩
  ·exact⟨KX b P.S a,rfl⟩
def Iw(b:cI)(a:Int)(P:bP)(c:ir):nd P (bR b a P c).2.2:=by
 unfold bR
 cases P.log with
 |none=>exact nd.refl P
 |some d=>
  dsimp only;split
  ·exact nd.refl P
  split
  ·have:=BJ b P [(lF b.decl P.S (ck b.decl P.S.l) a b.start c).1]
   simp at this;split
   ·exact⟨.inl be,by dsimp only;rw[this.2];omega⟩
   ·exact⟨.inl be,by dsimp only;rw[this.2];omega⟩
  ·exact nd.refl P
def qM(c:cI)(d:Int)(P:bP)(a:di)(j:P.waits.length<=256)(k:c.chunk<=32):nd P (bE c d P a).2.2:=by
 unfold bE
 cases P.log with
 |none=>exact nd.refl P
 |some l=>
  dsimp only;split
  ·exact nd.refl P
  rename_i h;split
  ·exact nd.refl P
  split
  ·rename_i i
   have m:a.events.length<=32:=by
    rcases Nat.lt_or_ge 32 a.events.length with g|g
    ·exfalso
     apply h;unfold dZ;rw[Zx i];intro b;split at b
     ·cases b
     ·unfold dY at b
      split at b
      ·cases b
      ·rw[Zx (.inr oM)]at b;cases b
    ·exact g
   unfold jG;have n:=Iv c P a.events;dsimp only;split
   ·exact⟨.inl be,by dsimp only;omega⟩
   ·have e:=BJ c {P with waits:=(gI c P a.events).2} (gI c P a.events).1
    dsimp only at e;split
    ·exact⟨.inl be,by dsimp only;rw[e.2];omega⟩
    ·exact⟨.inl be,by dsimp only;rw[e.2];omega⟩
  ·have f:(P.kZ.wT a.bF a.vec P.S.vec).asked.length<=P.kZ.asked.length+1:=by
    unfold AM.wT;dsimp only;split
    ·have:=FV a.bF P.kZ.asked;omega
    ·omega
   split
   ·exact⟨.inl be,f⟩
   split
   ·exact⟨.inl be,f⟩
   ·exact⟨.inl be,f⟩
def Ib(d:cI)(P:Int)(b:bP)(a c:Int):nd b (gG d P b a c).2:=by
 unfold gG;split
 ·exact nd.refl b
 ·exact⟨.inl be,FU _ _ _⟩
structure MB.Ok (x:MB):Prop where
 kind:aP x.kind
 n:aP x.n
 now:aP x.now
 cmd:x.cmd.Ok
def EN(P:MB)(a:ZH)(b c:Nat)(d:ZH)(e f:Nat):List Value:=[XH P.kind,XH P.n,XH P.now]++jq P.cmd++cM P.m a b c d e f
def Bm(P:rL)(a:ZH)(b c:Nat)(d:ZH)(e f:Nat)(g:ZH)(h i:Nat):OC (fp XP 46) (.agg (lH P a b c d e f g h i).toArray)=true:=kR
def Jf(P:cI)(a:ZH)(tn b:Nat)(c:ZH)(d e:Nat):OC (fp XP 29) (oK P a tn b c d e)=true:=kR
def RW:jf MB where
 k:=15
 rep:=λm D h cs=>∃P a d b c e,cs=EN h P a d b c e/\Row aJ 8 m D P a h.m.vec/\Row gO 96 m D b c h.m.events/\h.Ok
 af:=λ⟨P,a,d,b,c,e,f,i,j,k⟩ n g=>⟨P,a,d,b,c,e,f,i.af n g,j.af n g,k⟩
 mono:=λ⟨P,a,d,b,c,e,f,i,j,k⟩ g=>⟨P,a,d,b,c,e,f,i.mono g,j.mono g,k⟩
 len:=λ⟨P,a,d,b,c,e,f,_⟩=>by rw[f];rfl
 one:=λ⟨P,a,d,b,c,e,f,_⟩ o l=>by
  rw[f]at l;simp only[EN,jq,cM,List.cons_append,List.nil_append,Q2,List.not_mem_nil,or_false]at l;rcases l with rfl|rfl|rfl|rfl|rfl|rfl|rfl|rfl|rfl|rfl|rfl|rfl|rfl|rfl|rfl<;>rfl
section
variable {w w' w0 w1 w2:World} {p:Nat} {F E D Dv:XN} {c:cI} {self:Int} {X:bP} {va ea:ZH} {vn vc en ec:Nat}
def HK{P:di}(j:Row aJ 8 w D va vn P.vec)(f:Row gO 96 w E ea en P.events):
  ZG 27 #[mC P va vn vc ea en ec] w (Ok λg w'=>(∃d:Bool,g= .bool d/\(d=false->∀a∈P.events,a.aK.length<=100))/\ai w w'):=by
 refine Cn (PA.mk λw1 b k e=>⟨_,_,_,ae e rfl,an.dec (λ_=>Ok.mk ⟨⟨_,rfl,sM⟩,b⟩) (λ_=>⟨_,_,_,ae e rfl,PC.ok (HL (f.ah b)) ?_⟩)⟩);rintro _ _ ⟨rfl,rfl⟩;refine⟨_,rfl,Ok.mk ⟨⟨_,rfl,λc a h=>?_⟩,b⟩⟩;have c:=Xy c;exact Nat.le_of_not_lt λi=>c (.inl ⟨a,h,i⟩)
def HM{tn n k o:Nat}(h:aW w D B d tn r k):ZG 28 #[.agg #[.slice d tn n,.slice r k o]] w (Ok λp w'=>(∃e:Bool,p= .bool e)/\ai w w'):=by
 have A:=h.aT.len;have q:=h.aT.dE;unfold aN at q;refine Co (PA.mk λw1 P C a=>⟨_,_,_,ae a rfl,an.dec (λ_=>Ok.mk ⟨⟨_,rfl⟩,P⟩) (λ_=>⟨_,_,_,ae a rfl,an.dec (λ_=>Ok.mk ⟨⟨_,rfl⟩,P⟩) (λ_=>?_)⟩)⟩);refine⟨λf i w'=>∃b:Nat,i=b/\b<=tn/\f=tn-b/\w1=w',⟨_,0,rfl,Qj _,rfl,rfl⟩,?_⟩;rintro f _ _ _ ⟨b,rfl,E,rfl,rfl⟩;refine⟨_,_,_,ae a rfl,an.dec (λF=>?_) (λ_=>Ok.mk ⟨⟨_,rfl⟩,P⟩)⟩;obtain⟨e,j,H,I,rfl,J,-,K,s,L,l,M,rfl,m⟩:=(h.aT.ah P).vB (i:=b) oM;have g:=s 0 dC;have t:jk.k=1:=rfl;rw[t,Nat.mul_one]at g;have u:=m.dE;unfold aN at u;refine⟨_,_,_,ae a rfl,e,j,rfl,oM,oM,_,_,_,g,an.dec (λ_=>Ok.mk ⟨⟨_,rfl⟩,P⟩) (λ_=>?_)⟩;refine⟨λf i w'=>∃c:Nat,i=c/\c<=l/\f=l-c/\w1=w',⟨_,0,rfl,Qj _,rfl,rfl⟩,?_⟩;rintro f _ _ _ ⟨c,rfl,N,rfl,rfl⟩;refine⟨_,_,_,ae a rfl,e,j,rfl,oM,oM,_,_,_,g,an.dec (λO=>?_) (λ_=>⟨_,oM,b+1,aq oM,oM,rfl,rfl⟩)⟩;obtain⟨v,x,Q,y,rfl,-,-,R,z,S,T,U,rfl,-,-⟩:=m.vB (i:=c) oM;exact⟨_,_,_,ae a rfl,e,j,rfl,oM,oM,_,_,_,g,v,x,rfl,oM,oM,_,_,_,z 3 dC,an.dec (λ_=>Ok.mk ⟨⟨_,rfl⟩,P⟩) (λ_=>⟨_,oM,c+1,aq oM,oM,rfl,rfl⟩)⟩
def HN{tn x s y m z:Nat}{f:List MB}(A:aW w D c.decl d tn r s)(o:Row RW 152 w E c6 m f):
  ZG 9 #[oK c d tn x r s y,.slice c6 m z] w (Ok λB w'=>(∃g:Bool,B= .bool g/\(g=false->f.length<=100/\∀b∈f,∀i∈b.m.events,i.aK.length<=100))/\ai w w'):=by
 have U:=o.len;have C:=o.dE;unfold aN at C;refine Cm (PA.mk λw1 n V F=>?_);refine⟨λp w'=>ai w1 w'/\(f.length<=100->∀b∈f,∀i∈b.m.events,i.aK.length<=100),⟨λt p a w'=>∃P:Nat,a=P/\P<=m/\t=m-P/\ai w1 w'/\∀b∈f.take P,∀i∈b.m.events,i.aK.length<=100,⟨_,0,rfl,Qj _,rfl,ak.refl _,sM⟩,?_⟩,?_⟩
 ·rintro t p _ _ w2 ⟨P,rfl,W,rfl,j,k⟩
  refine an.dec (λX=>an.dec (λH=>?_) (λH=>⟨j,λI=>oM⟩)) (λY=>⟨j,λ_=>by rw[Qz oM]at k;exact k⟩);obtain⟨g,l,J,Z,rfl,K,-,L,u,va,vn,vc,ea,en,ec,rfl,M,N,-⟩:=(o.ah (n.then j)).vB (i:=P) oM;refine⟨g,l,rfl,oM,oM,bq (es:=cM J.m va vn vc ea en ec) (k:=5) (lI _ _ _ _ _ _ _) rfl (λa ht=>by
   rw[Qx];have:=u (10+a) (show 10+a<15 by omega);rw[show l+P*15+10+a=l+P*RW.k+(10+a) by show _=l+P*15+_;omega,this];rcases a with _|_|_|_|_|a<;>first|rfl|omega) (PC.ok (HK M N) ?_)⟩
  rintro _ O ⟨⟨Q,rfl,R⟩,e⟩;refine⟨_,rfl,an.mk (λ_=>Ok.mk ⟨⟨_,rfl,sM⟩,(n.then j).then e⟩) (λS=>?_)⟩;refine⟨g,l,rfl,oM,oM,_,_,_,(e.cell (a:=⟨g,_,none⟩) K id).trans (by rw[Qx];exact u 14 dC),_,oM,P+1,aq oM,oM,rfl,j.then e,?_⟩;rw[Qw,L];intro b h;rcases Q6.1 h with h|h
  ·exact k b h
  ·simp at h;subst h;exact R S
 ·rintro p _ O ⟨e,k⟩
  have v:=e.get F id;refine⟨_,_,_,_,_,_,ae v rfl,ae v rfl,PC.ok (HM (A.ah (n.then e))) ?_⟩;rintro _ w4 ⟨⟨Q,rfl⟩,T⟩;have q:=(n.then e).then T;refine⟨_,rfl,an.mk (λ_=>Ok.mk ⟨⟨_,rfl,sM⟩,q⟩) (λ_=>an.dec (λ_=>Ok.mk ⟨⟨_,rfl,sM⟩,q⟩) (λI=>Ok.mk ⟨⟨_,rfl,λ_=>⟨oM,k oM⟩⟩,q⟩))⟩
def bU.waits(d:bU w p F c self X):X.waits.length<=256:=by
 obtain⟨g,e,P,f⟩:=d;obtain⟨h,D,a,-,-⟩:=(show Kw w (λb=>F b/\P b=5) e.wp c.buffer.toNat X.waits from f.at' 5)
 exact Xx a.1.2.le a.1.1
def bU.ok(P:bU w p F c self X):jC c self:=P.1
end
end Go.Proofs.YtblabbpipmodgaaGreatDoor
namespace Go.aw
open Go Go.WideShapes
variable{L:Bool}{f7:List MemPlace}{a:Nat}{h:Program}{F j:Type}{g:TypeId}{u:Value}{b:World}
def Mv{P:TypeId×Value->j}{i:Reach}{e:DataW j}{f:jf F}{k:Array Field}(l:h.underlying g=some (.struct k))(m:Reads h f g)(n:Value.okWide h b i a g u)(o:DataW.Trod P h b 0 (λ_=>true) L g u e f7)(p:oE h g e):∃d cs,u= .agg cs/\f.rep b (In b) d cs.toList:=by
 obtain⟨cs,rfl,-⟩:=okWide_struct l n;obtain⟨c,q⟩:=o;obtain⟨d,r⟩:=m j P b L c cs.toList _ q p;exact⟨d,cs,rfl,r⟩
end Go.aw
namespace Go.Proofs.YtblabbpipmodgaaGreatDoor
section
open Go.aw
def RU:jf aH where
 k:=2
 rep:=λi D j cs=>∃P tn c a b d,cs=[.slice P tn c,.slice a b d]/\aW i D j P tn a b
 af:=λ⟨P,tn,c,a,b,d,e,f⟩ k g=>⟨P,tn,c,a,b,d,e,f.af k g⟩
 mono:=λ⟨P,tn,c,a,b,d,e,f⟩ g=>⟨P,tn,c,a,b,d,e,f.mono g⟩
 len:=λ⟨P,tn,c,a,b,d,e,_⟩=>by rw[e];rfl
 one:=λ⟨P,tn,c,a,b,d,e,_⟩ l h=>by rw[e]at h;simp at h;rcases h with rfl|rfl<;>rfl
def RV:jf ir:=flat 7 jq ir.Ok (λ_=>rfl) (λa b P=>by simp[jq]at P;rcases P with rfl|rfl|rfl|rfl|rfl|rfl|rfl<;>rfl)
def HC:Reads XP fm 125:=λy f z A a cs B g C=>by
 obtain⟨h,E,_,rfl,i,j,P⟩:=DataW.trod_struct (Tryz.underlying125) g;have k:Tryz.prog.cellsOf 125=4:=kR
 have l:cs.length=4:=i.trans k;have m:Tryz.prog.cellsOf 3=1:=kR
 match cs,l with
 |[F,H,I,J],_=>
 match h,j with
 |[K,L,M,N],_=>
  have b:=P 0 _ rfl;have c:=P 1 _ rfl;have d:=P 2 _ rfl;have e:=P 3 _ rfl;simp only[m,List.drop_zero,List.drop_succ_cons,Zw,List.take_zero,List.take_nil,ZJ,ZZ]at b c d e;obtain⟨n,o,-,p⟩:=DataW.trod_int Tryz.underlying3 b;obtain⟨z1,q,-,r⟩:=DataW.trod_int Tryz.underlying3 c;obtain⟨s,t,-,u⟩:=DataW.trod_int Tryz.underlying3 d;obtain⟨v,w,-,x⟩:=DataW.trod_int Tryz.underlying3 e
  cases o;cases q;cases t;cases w
  exact⟨⟨n,z1,s,v⟩,rfl,cd p,cd r,cd u,cd x⟩
def Kq:Reads XP nq 123:=λK f L M a cs N g h=>by
 obtain⟨i,O,_,rfl,j,k,P⟩:=DataW.trod_struct (Tryz.underlying123) g;have l:Tryz.prog.cellsOf 123=4:=kR
 have m:cs.length=4:=j.trans l;have n:Tryz.prog.cellsOf 3=1:=kR
 have o:Tryz.prog.cellsOf 4=1:=kR
 have p:Tryz.prog.cellsOf 121=1:=kR
 match cs,m with
 |[Q,R,S,T],_=>
 match i,k with
 |[U,V,W,q],_=>
  have b:=P 0 _ rfl;have c:=P 1 _ rfl;have d:=P 2 _ rfl;have e:=P 3 _ rfl;simp only[n,o,p,List.drop_zero,List.drop_succ_cons,Zw,List.take_zero,List.take_nil,ZJ,ZZ]at b c d e;obtain⟨r,s,-,t⟩:=DataW.trod_int Tryz.underlying3 b;obtain⟨z1,u,-,v⟩:=DataW.trod_int Tryz.underlying3 c;obtain⟨w,x,-⟩:=DataW.trod_bool Tryz.underlying4 d;have y:oE XP 121 q.1:=by
   intro z A;refine h z ?_;have B:Tryz.prog.underlying 123=_:=Tryz.underlying123;simp only[DataW.weights,B,QY,List.map_nil,DataW.weightsEach,Q6];right;right;right;left;exact A
  obtain⟨C,E,F,H,I,-,-,J⟩:=open_row (bytes:=32) Tryz.underlying121 kR dC kR (HC) e y
  cases s;cases u;cases x;cases I
  exact⟨⟨r,z1,w,H⟩,C,E,F,rfl,J,cd t,cd v⟩
def Kr:Reads XP jk 130:=λw b x y P cs z c d=>by
 obtain⟨e,A,_,rfl,f,g,h⟩:=DataW.trod_struct (Tryz.underlying130) c;have i:Tryz.prog.cellsOf 130=1:=kR
 have j:cs.length=1:=f.trans i;have k:Tryz.prog.cellsOf 126=1:=kR
 match cs,j with
 |[B],_=>
 match e,g with
 |[l],_=>
  have a:=h 0 _ rfl;simp only[k,List.drop_zero,List.drop_succ_cons,Zw,List.take_zero,List.take_nil,ZJ,ZZ]at a;have m:oE XP 126 l.1:=by
   intro n o;refine d n ?_;have p:Tryz.prog.underlying 130=_:=Tryz.underlying130;simp only[DataW.weights,p,QY,List.map_nil,DataW.weightsEach,Q6];left;exact o
  obtain⟨q,r,s,t,u,-,-,v⟩:=open_row (bytes:=48) Tryz.underlying126 kR dC kR (Kq) a m
  cases u
  exact⟨t,q,r,s,rfl,v⟩
def HD:Reads XP tg 128:=λC g E F a cs H h I=>by
 obtain⟨i,J,_,rfl,j,k,P⟩:=DataW.trod_struct (Tryz.underlying128) h;have l:Tryz.prog.cellsOf 128=5:=kR
 have m:cs.length=5:=j.trans l;have n:Tryz.prog.cellsOf 3=1:=kR
 match cs,m with
 |[K,L,M,N,O],_=>
 match i,k with
 |[Q,R,S,T,U],_=>
  have b:=P 0 _ rfl;have c:=P 1 _ rfl;have d:=P 2 _ rfl;have e:=P 3 _ rfl;have f:=P 4 _ rfl;simp only[n,List.drop_zero,List.drop_succ_cons,Zw,List.take_zero,List.take_nil,ZJ,ZZ]at b c d e f;obtain⟨o,p,-,q⟩:=DataW.trod_int Tryz.underlying3 b;obtain⟨z1,r,-,s⟩:=DataW.trod_int Tryz.underlying3 c;obtain⟨t,u,-,v⟩:=DataW.trod_int Tryz.underlying3 d;obtain⟨w,x,-,y⟩:=DataW.trod_int Tryz.underlying3 e;obtain⟨z,A,-,B⟩:=DataW.trod_int Tryz.underlying3 f
  cases p;cases r;cases u;cases x;cases A
  exact⟨⟨o,z1,t,w,z⟩,rfl,cd q,cd s,cd v,cd y,cd B⟩
def HE:Reads XP RU 25:=λH h I J c cs K i d=>by
 obtain⟨j,L,_,rfl,k,l,e⟩:=DataW.trod_struct (Tryz.underlying25) i;have m:Tryz.prog.cellsOf 25=2:=kR
 have n:cs.length=2:=k.trans m;have o:Tryz.prog.cellsOf 22=1:=kR
 have p:Tryz.prog.cellsOf 23=1:=kR
 match cs,n with
 |[M,N],_=>
 match j,l with
 |[q,r],_=>
  have f:=e 0 _ rfl;have g:=e 1 _ rfl;simp only[o,p,List.drop_zero,List.drop_succ_cons,Zw,List.take_zero,List.take_nil,ZJ,ZZ]at f g;have s:oE XP 22 q.1:=by
   intro P a;refine d P ?_;have b:Tryz.prog.underlying 25=_:=Tryz.underlying25;simp only[DataW.weights,b,QY,List.map_nil,DataW.weightsEach,Q6];left;exact a
  obtain⟨t,u,v,w,x,-,-,y⟩:=open_row (bytes:=24) Tryz.underlying22 kR dC kR (Kr) f s;have z:oE XP 23 r.1:=by
   intro P a;refine d P ?_;have b:Tryz.prog.underlying 25=_:=Tryz.underlying25;simp only[DataW.weights,b,QY,List.map_nil,DataW.weightsEach,Q6];right;left;exact a
  obtain⟨A,B,C,z1,E,-,-,F⟩:=open_row (bytes:=40) Tryz.underlying23 kR dC kR (HD) g z
  cases x;cases E
  exact⟨⟨w,z1⟩,t,u,v,A,B,C,rfl,⟨y,F⟩⟩
def Ks:Reads XP RV 49:=λL i M N a cs O j Q=>by
 obtain⟨k,R,_,rfl,l,m,P⟩:=DataW.trod_struct (Tryz.underlying49) j;have n:Tryz.prog.cellsOf 49=7:=kR
 have o:cs.length=7:=l.trans n;have p:Tryz.prog.cellsOf 3=1:=kR
 match cs,o with
 |[S,T,U,V,W,X,Y],_=>
 match k,m with
 |[Z,y1,y2,y3,y4,y5,y6],_=>
  have b:=P 0 _ rfl;have c:=P 1 _ rfl;have d:=P 2 _ rfl;have e:=P 3 _ rfl;have f:=P 4 _ rfl;have g:=P 5 _ rfl;have h:=P 6 _ rfl;simp only[p,List.drop_zero,List.drop_succ_cons,Zw,List.take_zero,List.take_nil,ZJ,ZZ]at b c d e f g h;obtain⟨q,r,-,s⟩:=DataW.trod_int Tryz.underlying3 b;obtain⟨z1,t,-,u⟩:=DataW.trod_int Tryz.underlying3 c;obtain⟨v,w,-,x⟩:=DataW.trod_int Tryz.underlying3 d;obtain⟨y,z,-,A⟩:=DataW.trod_int Tryz.underlying3 e;obtain⟨B,C,-,E⟩:=DataW.trod_int Tryz.underlying3 f;obtain⟨F,H,-,w5⟩:=DataW.trod_int Tryz.underlying3 g;obtain⟨I,J,-,K⟩:=DataW.trod_int Tryz.underlying3 h
  cases r;cases t;cases w;cases z;cases C;cases H;cases J
  exact⟨⟨q,z1,v,y,B,F,I⟩,rfl,cd s,cd u,cd x,cd A,cd E,cd K⟩
end
section
open Go.aw
variable{U n:Array Value}{f9 y:FuncId}{e:Int}{t:List Int}{a2 e6 h5:List PanicEntry->XU}{a:Nat}{d r:ZH}{I a3:Prop}{u:Value}{a7 b k:World}{B:aH}{l:aj}{A:ar}{d0:bP}{d8:cI}{e7:rL}
def ar.le_top:∀b∈A.l,b.ax<=A.top:=by
 have:∀(a:List aj) (P:Int),P<=a.foldl (λP c=>max P c.ax) P/\∀b∈a,b.ax<=a.foldl (λP c=>max P c.ax) P:=by
  intro a
  induction a with
  |nil=>intro P;simp
  |cons c a e=>
   intro P;obtain⟨g,f⟩:=e (max P c.ax);rw[List.foldl_cons];refine⟨oM,λb d=>?_⟩;rcases Q2.1 d with rfl|d
   ·omega
   ·exact f b d
 exact(this A.l 0).2
def Ku(b:∀c∈t,0<=c):gQ t []=t:=by
 unfold gQ lY;apply List.ext_getElem
 ·simp
 ·intro P e d
  have a:P<t.length:=d;have f:=b t[P] (XY a);simp only[List.getElem_map,List.getElem_range];rw[CL (xs:=t) (i:=(P:Int)) (x:=t[P]) oM (by simp[a]),EM (xs:=[]) sM];omega
def ar.Cl.OA(b:A.Cl)(d:l∈A.l)(e:a<A.n):l.aK.getD a 0<=(A.pU a:Int):=by
 rcases om.1 (b.jo l d a e)with i|⟨f,g,-⟩
 ·omega
 ·obtain⟨h,P⟩:=ar.get_some g
  have c:=b.le f h;unfold aI at P;simp only[Prod.mk.injEq]at P;rw[P.1,P.2,Qx]at c;exact c
def ar.Cl.next(d:A.Cl)(i:a<A.n)(s:A.l.length<=20000000)(e:l.origin=a)(f:l.seq=(A.pU a:Int)+1)(j:∀P∈A.l,P.ax<l.ax)(t:1<=l.ax)(h:l.aK=A.vec)(u:0<=l.agg)(v:0<=l.key)(w:1<=l.op/\l.op<=5)(x:0<=l.aT/\l.aT<8)(y:0<=l.field/\l.field<8):
  A.add l=(0,⟨A.n,A.l++[l]⟩):=by
 have z:=A.HG a;have m:cC l A.n=0:=by
  unfold cC;rw[Zq,Zq,Zq oM,Zq oM]
  ·rw[e,Qx,h,A.gi i,f]
   have:lq ((A.pU a:Int)+1-1)=A.pU a:=by
    show IntKind.wrap .i64 _=_;rw[wrap_i64 bb];omega
   rw[this];simp
  ·rw[e,f,h,A.bJ]
   simp only[not_or];refine⟨oM,oM,oM,oM,sM,?_⟩;simp[ar.vec]
 have n:A.get (aI l)=none:=by
  cases b:A.get (aI l)with
  |none=>rfl
  |some P=>
   obtain⟨o,g⟩:=ar.get_some b;have p:=d.le P o;unfold aI at g;simp only[Prod.mk.injEq]at g;rw[g.1,g.2,e,Qx,f]at p;omega
 have q:∀c,c<A.n->A.jo l c=true:=λc k=>by
  rw[om,h,A.gi k]
  by_cases B:A.pU c=0
  ·exact .inl oM
  ·obtain⟨P,b,r⟩:=d.has c (A.pU c) k oM (Int.le_refl _)
   refine .inr ⟨P,?_,j P b,λC E=>?_⟩
   ·rw[<-r];exact d.ok.get b
   ·obtain⟨-,-,-,-,-,-,F,-⟩:=gZ (d.ok.Pw P b)
    rw[A.gi oM];exact d.OA b oM
 rw[ar.IX m n (by rw[e,Qx,A.gi i,f]) q,lX];intro P b;have:=j P b;unfold dT;simp;omega
def HH(f:cy B=0){a b c arg:Int}(P:iB B a b c arg=0):1<=c/\c<=5/\0<=a/\a<8/\0<=b/\b<8:=by
 obtain⟨h,-,-⟩:=jj f;obtain⟨k,l,m,n⟩:=tZ h;have d:=P;unfold iB at P
 cases e:B.zO a b with
 |none=>rw[e]at P;simp at P
 |some o=>
  rw[e]at P;simp only at P;obtain⟨p,q,r,s,i,t,u,v⟩:=aH.oJ e;have j:=(CM f d (cells:=cW (B.at a)) (by simp[cW])).2.2.2;rw[i]at j;split at P
  ·simp at P
  ·rename_i g
   simp only[Bool.or_eq_true,not_or,Bool.not_eq_true,Bool.not_eq_eq_eq_not,Bool.not_true,Bool.not_false]at g;have:=bh.1 (by simpa using g.1:within c 1 5=true);omega
def Td[Decidable I][Decidable a3]{b c d a:aj×Bool×Int}(P:(if I then b else if a3 then c else d)=a)(e:b.2.2≠0)(f:c.2.2≠0)(g:a.2.2=0):d=a:=by
 by_cases h:I
 ·rw[Zx h]at P;rw[P]at e;exact Zz g e
 rw[Zq h]at P
 by_cases i:a3
 ·rw[Zx i]at P;rw[P]at f;exact Zz g f
 rw[Zq i]at P;exact P
structure QF (c:cI) (me:Int) (X:bP) (x:ir):Prop where
 no:(bR c me X x).1≠0->(bR c me X x).2.2.S=X.S
 SC:(bR c me X x).1=0->(bR c me X x).2.2.S.l.length=X.S.l.length->x.key≠0/\(bR c me X x).2.2.S=X.S
 new:(bR c me X x).1=0->(bR c me X x).2.2.S.l.length≠X.S.l.length->∃e:aj,(bR c me X x).2.2.S.l=X.S.l++[e]/\aI e=(bR c me X x).2.1/\aI e=(me,(X.S.pU me.toNat:Int)+1)/\
  (x.key≠0->bR c me (bR c me X x).2.2 x=(0,aI e,(bR c me X x).2.2))
def OB{x:ir}(r:jC d8 e)(u:d0.S.Cl)(B:d0.S.n=d8.bM.toNat)(C:d0.S.l.length<=20000000):QF d8 e d0 x:=by
 obtain⟨Z,a6⟩:=r.PL;obtain⟨a7,a8,a9⟩:=r.bM;obtain⟨l,s⟩:∃l:Nat,e=l:=⟨e.toNat,oM⟩
 have v:l<d0.S.n:=oM
 cases n:d0.log with
 |none=>
  have b:bR d8 e d0 x=(15,(0,0),d0):=by unfold bR;rw[n]
  refine⟨λ_=>by rw[b],λa=>?_,λa=>?_⟩<;>(rw[b]at a;simp at a)
 |some a0=>
 obtain⟨P,d⟩:∃P,lF d8.decl d0.S (ck d8.decl d0.S.l) e d8.start x=P:=⟨_,rfl⟩
 have b:bR d8 e d0 x=(if P.2.2≠0 then(P.2.2,(0,0),d0)else if P.2.1 then(if(cK d8 d0 [P.1]).1≠0 then((cK d8 d0 [P.1]).1,(0,0),(cK d8 d0 [P.1]).2)else(0,aI P.1,(cK d8 d0 [P.1]).2))else(0,aI P.1,d0)):=by
  unfold bR;rw[n,<-d]
 have b0:=d;rw[lG]at d
 by_cases f:P.2.2≠0
 ·rw[Zx f]at b
  refine⟨λ_=>by rw[b],λa=>?_,λa=>?_⟩<;>(rw[b]at a;exact Zz a f)
 rw[Zq f]at b;have f:P.2.2=0:=Classical.not_not.1 f
 by_cases g:eD d8.decl x≠0
 ·rw[Zx g]at d;rw[<-d]at f;exact Zz f g
 rw[Zq g]at d;have g:eD d8.decl x=0:=Classical.not_not.1 g
 cases j:d0.S.keyed x.key with
 |some E=>
  rw[j]at d;simp only at d;subst d;have b:bR d8 e d0 x=(0,aI E,d0):=by rw[b];rfl
  refine⟨λa=>Zz (by rw[b]) a,λ_ _=>⟨?_,by rw[b]⟩,λ_ a=>Zz (by rw[b]) a⟩;intro F;unfold ar.keyed at j;have:=List.find?_some j;rw[F]at this;simp at this
 |none=>
  rw[j]at d;simp only at d;have d:=Td d sM sM f;have H:P.2.1=true:=by rw[<-d]at f⊢;simpa using f
  rw[Zx H]at b
  by_cases c:(cK d8 d0 [P.1]).1≠0
  ·rw[Zx c]at b
   have m:(cK d8 d0 [P.1]).2.S=d0.S:=by
    unfold cK at c⊢;rw[n]at c⊢;dsimp only at c⊢;split
    ·rfl
    rename_i k;rw[Zq k]at c;split
    ·rfl
    rename_i o;rw[Zq o]at c;exact Zz rfl c
   refine⟨λ_=>by rw[b];exact m,λa=>?_,λa=>?_⟩<;>(rw[b]at a;exact Zz a c)
  rw[Zq c]at b;have I:∃w,(cK d8 d0 [P.1]).2.log=some w/\(cK d8 d0 [P.1]).2.S=dL d8 d0.S [P.1]:=by
   unfold cK at c⊢;rw[n]at c⊢;dsimp only at c⊢;split
   ·rename_i k;rw[Zx k]at c;exact Zz k c
   rename_i k;rw[Zq k]at c;split
   ·rename_i o;rw[Zx o]at c;exact Zz o c
   ·exact⟨_,rfl,rfl⟩
  obtain⟨w,J,K⟩:=I;have i:(aQ x e d0.S.vec (max d0.S.top d8.start)).1=0:=by rw[<-d]at f;exact f
  have h:P.1=(aQ x e d0.S.vec (max d0.S.top d8.start)).2:=by rw[<-d]
  have L:∀p∈d0.S.vec,0<=p:=λp q=>by
   unfold ar.vec at q;obtain⟨a1,-,rfl⟩:=Xk.1 q;omega
  have y:eI d0.S.vec e=d0.S.pU l:=by
   rw[CL (x:=(d0.S.pU l:Int)) oM (by rw[s,Qx];exact d0.S.ke v)];omega
  unfold aQ at i h;dsimp only at i h
  by_cases z:e<0\/(d0.S.vec.length:Int)<=e\/max d0.S.top d8.start<0
  ·rw[Zx z]at i;cases i
  rw[Zq z]at i h
  by_cases A:eI d0.S.vec e=9223372036854775807\/max d0.S.top d8.start=9223372036854775807
  ·rw[Zx A]at i;cases i
  rw[Zq A]at h;dsimp only at h;unfold eD at g;split at g
  ·cases g
  rename_i M;obtain⟨N,O,Q,R,S,T⟩:=HH r.decl g;have U:d0.S.add P.1=(0,⟨d0.S.n,d0.S.l++[P.1]⟩):=by
   have b1:=d0.S.yC;rw[h];exact u.next v C s (by dsimp only;rw[y]) (λp q=>by have:=ar.le_top p q;dsimp only;omega) be (Ku L) be be ⟨N,O⟩ ⟨Q,R⟩ ⟨S,T⟩
  have m:(cK d8 d0 [P.1]).2.S=⟨d0.S.n,d0.S.l++[P.1]⟩:=by
   rw[K,tr u B];show(d0.S.add P.1).2=_;rw[U]
  have V:aI P.1=(e,(d0.S.pU e.toNat:Int)+1):=by rw[h];unfold aI;dsimp only;rw[y,s,Qx]
  refine⟨λa=>Zz (by rw[b]) a,λ_ a=>?_,λ_ _=>⟨P.1,by rw[b];exact Zj ar.l m,by rw[b],V,λW=>?_⟩⟩
  ·rw[b]at a
   have a:(cK d8 d0 [P.1]).2.S.l.length=d0.S.l.length:=a;rw[m]at a;simp at a
  ·rw[b]
   dsimp only;generalize b2:(cK d8 d0 [P.1]).2=t at*;have X:t.S.keyed x.key=some P.1:=by
    rw[m];unfold ar.keyed at j⊢;rw[List.find?_append,j];simp only[Option.none_or];have:P.1.key=x.key:=by rw[h]
    simp[this,W]
   have Y:lF d8.decl t.S (ck d8.decl t.S.l) e d8.start x=(P.1,false,0):=by
    rw[lG,Zq (by unfold eD;rw[Zq M];simpa using g),X]
   unfold bR;rw[J];simp only;rw[Y];simp
def gU.ah(e:gU b e7 u k)(P:ai k a7):gU b e7 u a7:=by
 obtain⟨f,g,h,i,j,l,m,n,o,G,p,q,r,s,a⟩:=e;exact⟨f,g,h,i,j,l,m,n,o,G,p,q.ah P,r.ah P,s.ah P,λc d=>⟨(a c d).1,by have:=(a c d).2;have:=P.size;omega⟩⟩
def Jg{x:rL}(p:∀P,ai b P->ZG y n P (Ok λc a=>gU P x c a/\ai P a))(q:∀P,ai b P->ZG f9 U P (Ok λc a=>gU P x c a/\ai P a)){f:XU}{r:XU}(e:∀a,ai b a->f a):
  PC XP y n b (λc P=>zZ (fp XP 46) λx=>c=x/\PC XP f9 U P (λg h=>zZ (fp XP 46) λi=>g=i/\PC XP 52 #[x,i] h (λs d=>∃j:Bool,s= .bool j/\an (!j) (r d) (f d)) a2) e6) h5:=by
 refine PC.ok (p b (ak.refl _)) ?_;rintro c P ⟨k,l⟩;have t:=k;obtain⟨u,v,w,z,A,B,C,E,F,G,rfl,-⟩:=k;refine bN (Bm x u v w z A B C E F) ⟨rfl,PC.ok (q P l) ?_⟩;rintro g h ⟨m,o⟩;have H:=m;obtain⟨I,tn,J,K,L,M,N,O,Q,S,rfl,-⟩:=m;refine bN (Bm x I tn J K L M N O Q) ⟨rfl,PC.ok (yD (t.ah o) H) ?_⟩;rintro _ d ⟨rfl,R⟩;exact⟨_,rfl,an.ff rfl (e d ((l.then o).then R))⟩
section
variable {w w' w0:World} {p q:Nat} {F G D:XN} {c e:cI} {self other:Int} {X Y:bP}
def EO(l:bU w p F c self X)(m:bU w q G e other Y)(n:c.decl=e.decl)(o:X.S.l=Y.S.l){tn A s C:Nat}(v:aW w D B d tn r s):
  ZG 19 #[XL p,XL q,.agg #[.slice d tn A,.slice r s C]] w (Ok λE w'=>E= .bool true/\ai w w'):=by
 have H:=v.aT.dE;have I:=v.xm.dE;unfold aN at H I;refine yb (PA.mk λb x N y=>?_);have step:∀{P:Nat},P<1000000000000000->IntKind.wrap .i64 ((P:Int)-1+1)=((P+1:Nat):Int)-1:=λ{P} z=>by
  rw[wrap_i64 bb];omega
 refine⟨λg k w'=>∃P:Nat,k=(P:Int)-1/\P<=tn+2/\g=tn+2-P/\ai b w',⟨_,0,rfl,Qj _,rfl,ak.refl _⟩,?_⟩;rintro g _ _ O ⟨P,rfl,z,rfl,t⟩;refine⟨_,_,_,ae (t.get y id) rfl,an.dec (λJ=>?_) (λQ=>?_)⟩
 ·refine⟨λg k w'=>∃h:Nat,k=h/\h<=4/\g=4-h/\ai b w',⟨_,0,rfl,Qj _,rfl,t⟩,?_⟩
  rintro g _ _ K ⟨h,rfl,R,rfl,i⟩;have f:=x.then i;refine an.dec (λS=>?_) (λ_=>⟨_,oM,P+1,step oM,oM,rfl,i⟩);refine Jg (x:=AF c.decl X.S.l ((P:Int)-1) h) (λb a=>wZ ((l.ah f).ah a)) (λb a=>by rw[n,o];exact wZ ((m.ah f).ah a)) λL j=>?_;refine Jg (x:=w_ c.decl X.S.l ((P:Int)-1) h h) (λb a=>yE (((l.ah f).ah j).ah a) bb) (λb a=>by rw[n,o];exact yE (((m.ah f).ah j).ah a) bb) λM u=>?_;exact⟨_,oM,h+1,aq oM,oM,rfl,(i.then j).then u⟩
 ·refine⟨λg k w'=>∃P:Nat,k=(P:Int)-1/\P<=s+2/\g=s+2-P/\ai b w',⟨_,0,rfl,Qj _,rfl,t⟩,?_⟩
  rintro g _ _ K ⟨P,rfl,z,rfl,i⟩;have f:=x.then i;refine⟨_,_,_,ae (i.get y id) rfl,an.dec (λJ=>?_) (λ_=>Ok.mk ⟨rfl,f⟩)⟩;refine Jg (x:=uV c.decl X.S.l ((P:Int)-1) (-9223372036854775808)) (λb a=>pG ((l.ah f).ah a)) (λb a=>by rw[n,o];exact pG ((m.ah f).ah a)) λL j=>?_;refine Jg (x:=uV c.decl X.S.l ((P:Int)-1) 2) (λb a=>pG (((l.ah f).ah j).ah a)) (λb a=>by rw[n,o];exact pG (((m.ah f).ah j).ah a)) λM u=>?_;exact⟨_,oM,P+1,step oM,oM,rfl,(i.then j).then u⟩

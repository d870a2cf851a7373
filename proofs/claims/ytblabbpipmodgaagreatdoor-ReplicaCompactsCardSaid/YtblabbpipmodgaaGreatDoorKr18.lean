import Derived.Test.YtblabbpipmodgaaGreatDoorKr17
set_option maxHeartbeats 4000000
set_option linter.all false
set_option maxRecDepth 20000
namespace Go.Proofs.YtblabbpipmodgaaGreatDoor
open Go.aw
variable{a:Nat}{j:Type}
section
variable {w w':World} {D D' S:ZN} {d:aS} {ta pa:YQ} {tn tc pn pc:Nat}
def sK(P:bu):Bool:=if P.kind==4 then !within P.bz.length 1 16 else decide (0<P.bz.length)
def BX(P:List bu):Bool:=!within P.length 1 8||P.any sK
def Jj{P:j->Bool}{b:List j}{c:j}(d:b[a]? =some c)(e:(b.take a).any P=false)(f:P c=false):(b.take (a+1)).any P=false:=by
 rw[Qw,d,List.any_append,e];simp[f]
def LB{b:j->Bool}{c:List j}{P:j}(d:c[a]? =some P)(e:b P=true):c.any b=true:=List.any_eq_true.2 ⟨P,QZ d,e⟩
def fI{f:Type}{g:f->Int}:∀{a:List f} {b:Nat} {c:f},a[b]? =some c->cK g (a.take b)=0->cK g (a.take (b+1))=g c
 |[],b,c,P,_=>by simp at P
 |y::a,0,c,P,_=>by simp at P;subst P;simp[cK];intro P;exact P.symm
 |y::a,b+1,c,P,d=>by
  simp only[Zw,cK]at d⊢;split at d
  ·rename_i e;simp at e;exact Zz d e
  ·rename_i e;rw[Zq e];exact fI (by simpa using P) d
def oC{b:Type}{a:b->Int}:∀{l:List b} {j:Nat},cK a (l.take j)≠0->cK a l=cK a (l.take j)
 |[],j,P=>by simp at P⊢
 |y::l,0,P=>by simp[cK]at P
 |y::l,j+1,P=>by
  simp only[Zw,cK]at P⊢;split
  ·rfl
  ·rename_i c;rw[Zq c]at P;exact oC P
def Jk(c:bj w D d ta tn pa pn):YX 67 #[.agg #[.slice ta tn tc,.slice pa pn pc]] w (Ok λe w'=>e= .bool (qO d)/\ai w w'):=by
 have r:=c.aY.len;have s:=c.aY.dO;have hp:=c.zJ.len;unfold aO at s;refine CD (PA.mk λY t s1 u=>⟨_,_,_,ae u rfl,PC.ok cy ?_⟩);rintro _ _ ⟨rfl,rfl⟩;refine⟨_,rfl,al.not (al.mk (λh=>⟨_,_,_,ae u rfl,al.dec (λZ=>Ok.mk ⟨?_,t⟩) (λZ=>⟨_,_,_,ae u rfl,λj k w'=>∃a:Nat,k=a/\a<=tn/\j=tn-a/\(d.types.take a).any BX=false/\ai Y w',⟨_,0,rfl,Qj _,rfl,sM,aj.refl _⟩,?_⟩)⟩) (λh=>Ok.mk ⟨?_,t⟩))⟩
 ·unfold qO;rw[<-r,h,Zx bc]
 rotate_left
 ·unfold qO;rw[<-r,h];rfl
 have v:qO d=d.types.any BX:=by unfold qO BX sK;rw[<-r,h,Zq bc]
 rintro j k _ w2 ⟨a,rfl,hj,rfl,x,K⟩;have l:=t.then K;refine al.dec (λa8=>?_) (λa9=>?_)
 rotate_left
 ·rw[Qz oM]at x
  exact Ok.mk ⟨by rw[v,x],l⟩
 obtain⟨y,z,A,es,rfl,_,_,B,f,a2,g,c1,rfl,C⟩:=((c.af l).aY).vQ (i:=a) oM;have L:=C.len;have a0:=C.dO;unfold aO at a0;have M:=f 0 dC;simp only[ks,Nat.mul_one,Nat.add_zero]at M;refine⟨y,z,rfl,oM,oM,_,_,_,M,PA.mk λw3 k3 s3 g3=>PS.mk g3 sM λm k4 s4 N=>⟨_,_,_,ae N rfl,PC.ok cy ?_⟩⟩;rintro _ _ ⟨rfl,rfl⟩;have n:ai w2 m:=k3.new k4 λy s=>.inr oM;have E:BX A=true->Ok (λe w'=>e= .bool (qO d)/\ai w w') (.returned (.bool true)) m:=λP=>Ok.mk ⟨by rw[v,LB B P],l.then n⟩;refine⟨_,rfl,al.not (al.mk (λF=>⟨_,_,_,ae N rfl,λj k w'=>∃i:Nat,k=i/\i<=g/\j=g-i/\(A.take i).any sK=false/\ai m w',⟨_,0,rfl,Qj _,rfl,sM,aj.refl _⟩,?_⟩) (λF=>E (by unfold BX;rw[<-L,F];rfl)))⟩;rintro m' t' _ w5 ⟨i,rfl,hi,rfl,H,o⟩;have a3:=(l.then n).then o;refine al.dec (λa6=>?_) (λa7=>?_)
 rotate_left
 ·rw[Qz oM]at H
  exact⟨_,oM,a+1,an oM,oM,rfl,Jj B x (by unfold BX;rw[<-L,F,H];rfl),(K.then n).then o⟩
 obtain⟨b2,a1,p,b0,rfl,_,_,O,a4,Q,R,S,rfl,T,b1,b3⟩:=((C.af n).af o).vQ (i:=i) oM;have U:=T.len;have a5:=T.dO;unfold aO at a5;refine⟨b2,a1,rfl,oM,oM,bB (fl p Q R S) rfl a4 (PA.mk λw6 k6 s6 g6=>aC (fl p Q R S) g6 rfl λI k7 s7 J=>⟨_,ae J rfl,?_⟩)⟩;have V:ai w5 I:=k6.new k7 λy s=>.inr oM;have W:sK p=true->Ok (λe w'=>e= .bool (qO d)/\ai w w') (.returned (.bool true)) I:=λP=>Ok.mk ⟨by rw[v,LB B (by unfold BX;rw[LB O P];simp)],a3.then V⟩;have next:sK p=false->∃X,X<g-i/\∃q:Nat,IntKind.wrap .i64 ((i:Int)+1)=q/\q<=g/\X=g-q/\(A.take q).any sK=false/\ai m I:=λP=>
  ⟨_,oM,i+1,an oM,oM,rfl,Jj O H P,o.then V⟩
 refine al.eD (λb=>⟨_,_,_,ae J rfl,PC.ok cy ?_⟩) (λb=>al.not (al.eD (λf=>Zz f b) (λ_=>⟨_,_,_,ae J rfl,al.dec (λc=>W ?_) (λc=>next ?_)⟩)))
 ·rintro _ _ ⟨rfl,rfl⟩
  refine⟨_,rfl,al.not (al.mk (λP=>al.not (al.eD (λ_=>next ?_) (λf=>Zz b f))) (λP=>W ?_))⟩
  ·unfold sK;rw[b,<-U,P];rfl
  ·unfold sK;rw[b,<-U,P];rfl
 ·unfold sK;rw[Zq (by simpa using b)];simp only[Zk];omega
 ·unfold sK;rw[Zq (by simpa using b)];simp only[decide_eq_false_iff_not];omega
def GA(hT:eX w)(g:bj w D d ta tn pa pn)(hD:∀a,D a->a<w.heap.size):
  YX 32 #[.agg #[.slice ta tn tc,.slice pa pn pc]] w (Ok λB w'=>B= ZH (dy d)/\ai w w'):=by
 have hl:=g.aY.len;have f:=g.aY.dO;have b1:=g.zJ.len;have a6:=g.zJ.dO;unfold aO at f a6;refine Ap (PA.mk λw1 U s1 C=>⟨_,_,_,_,_,_,ae C rfl,ae C rfl,PC.ok (Jk (g.af U)) ?_⟩);rintro _ w2 ⟨rfl,V⟩;have W:=U.then V;have X:=V.get C id;refine⟨_,rfl,al.mk (λt=>Ok.mk ⟨by unfold dy;rw[t];rfl,W⟩) (λt=>⟨_,_,_,ae X rfl,λk b w'=>∃P:Nat,b=P/\P<=tn/\k=tn-P/\cK (λb=>cK (fv b) b) (d.types.take P)=0/\ai w2 w',⟨_,0,rfl,Qj _,rfl,rfl,aj.refl _⟩,?_⟩)⟩;rintro k b _ Y ⟨P,rfl,hj,rfl,u,E⟩;have v:=W.then E;have Z:=E.get X id;have F:∀{w':World},ai w w'->∀P c,d.types[P]? =some c->cK (λb=>cK (fv b) b) (d.types.take P)=0->∀x:Int,cK (fv c) c=x->x≠0->Ok (λB w'=>B= ZH (dy d)/\ai w w') (.returned (ZH x)) w':=by
  intro w' a2 P c y h0 x hr j;have l:=fI y h0;rw[hr]at l;have h2:=oC (l:=d.types) (j:=P+1) (by rw[l];exact j);refine Ok.mk ⟨?_,a2⟩;unfold dy;rw[t,h2,l];simp[j]
 refine al.dec (λb2=>?_) (λb3=>⟨_,_,_,ae Z rfl,λk b w'=>∃i:Nat,b=i/\i<=pn/\k=pn-i/\cK (lL d) (d.projs.take i)=0/\ai Y w',⟨_,0,rfl,Qj _,rfl,rfl,aj.refl _⟩,?_⟩)
 ·obtain⟨a,H,I,es,rfl,_,_,y,hc,b4,n1,c1,rfl,z⟩:=((g.af v).aY).vQ (i:=P) oM
  have b5:=z.len;have a7:=z.dO;unfold aO at a7;have a0:=hc 0 dC;simp only[ks,Nat.mul_one,Nat.add_zero]at a0;refine⟨a,H,rfl,oM,oM,_,_,_,a0,PA.mk λw4 o s4 g4=>PS.mk g4 sM λJ K s5 A=>⟨_,_,_,ae A rfl,λk b w'=>∃i:Nat,b=i/\i<=n1/\k=n1-i/\cK (fv I) (I.take i)=0/\ai J w',⟨_,0,rfl,Qj _,rfl,rfl,aj.refl _⟩,?_⟩⟩;have a8:ai Y J:=o.new K λa f=>.inr oM;rintro m' t' _ L ⟨i,rfl,hi,rfl,e,m⟩;have p:=a8.then m;refine al.dec (λa3=>?_) (λa9=>?_)
  ·obtain⟨M,N,c,b0,rfl,_,_,n,O,Q,R,S,rfl,hM,b6,b7⟩:=(z.af p).vQ (i:=i) oM
   refine⟨M,N,rfl,oM,oM,bB (fl c Q R S) rfl O (PA.mk λw7 h s7 g7=>aC (fl c Q R S) g7 rfl λw8 q s8 g8=>⟨_,_,_,ae (q.get (h.get (m.get A id) id) (by have:=m.size;omega)) rfl,ar (fl c Q R S) g8 (PC.ok (GI (hT.af ?_) (z.af ?_) (hM.af ?_)) ?_)⟩)⟩
   ·exact(v.then p).then (h.new q λa f=>.inr oM)
   ·exact p.then (h.new q λa f=>.inr oM)
   ·exact h.new q λa f=>.inr oM
   ·rintro _ w9 ⟨rfl,k9⟩
    have a4:ai L w9:=aj.then (h.new q λa f=>.inr oM) k9;refine⟨_,rfl,al.dV (λj=>?_) (λT=>⟨_,oM,i+1,an oM,oM,rfl,by rw[fI n e];exact T,m.then a4⟩)⟩;have l:=fI n e;exact F ((v.then p).then a4) P I y u _ (by rw[oC (j:=i+1) (by rw[l];exact j),l]) j
  ·rw[Qz oM]at e
   refine⟨_,oM,P+1,an oM,oM,rfl,by rw[fI y u];exact e,E.then p⟩
 ·rw[Qz oM]at u
  rintro m' t' _ w4 ⟨i,rfl,hi,rfl,e,o⟩;have r:=v.then o;have a1:dy d=cK (lL d) d.projs:=by unfold dy;rw[t,u];simp
  refine al.dec (λa3=>?_) (λa9=>?_)
  ·obtain⟨M,N,c,b0,rfl,_,_,n,O,rfl,_⟩:=((g.af r).zJ).vQ (i:=i) oM
   refine⟨M,N,rfl,oM,oM,bB (pH c) rfl O (PA.mk λJ K s5 A=>aC (pH c) A rfl λL m s6 g6=>?_)⟩;have s:ai w4 L:=K.new m λa f=>.inr oM;have a5:=s.get (o.get Z id) id;refine⟨_,_,_,_,_,_,ae a5 rfl,ae a5 rfl,ar (pH c) g6 (PC.ok (GJ (g.af (r.then s)) λa f=>by have:=hD a f;have:=(r.then s).size;omega) ?_)⟩;rintro _ w7 ⟨rfl,h⟩;refine⟨_,rfl,al.dV (λj=>Ok.mk ⟨?_,(r.then s).then h⟩) (λT=>⟨_,oM,i+1,an oM,oM,rfl,by rw[fI n e];exact T,(o.then s).then h⟩)⟩;rw[a1,oC (j:=i+1) (by rw[fI n e];exact j),fI n e]
  ·rw[Qz oM]at e
   exact Ok.mk ⟨by rw[a1,e],r⟩
end
def cj(P:cN)(a:Int):Int×bM:=
 if dy P.decl≠0 then(dy P.decl,(Bq P).2)else if jR P a=false then(1,(Bq P).2)else Bq P
def Ln(b:World)(a:cN)(P:Int)(c:Value)(d:World):Prop:=ai b d/\
 (((cj a P).1≠0/\c= .tuple #[.pointer none,ZH (cj a P).1])\/
  ((cj a P).1=0/\∃e f,c= .tuple #[ZL e,ZH 0]/\bN d e f a P (cj a P).2/\(∀g,f g->b.heap.size<=g)/\(cj a P).2.S.l.length<=16777216))
variable{d r:YQ}
section
variable {w w' w0 w1 w2:World} {p:Nat} {F E D:ZN} {c:cN} {self:Int}
def Gz(hT:eX w0)(hL:Laid w0)(A:ai w0 w){tn Q B R:Nat}(hd:bj w D c.decl d tn r B)(hD:∀P,D P->P<w.heap.size)(hs:aN c.bl)(d3:aN c.every)(d4:aN c.start):
  YX 11 #[od c d tn Q r B R,ZH self] w (Ok (Ln w c self)):=by
 refine Cz (PA.mk λf3 C f4 E=>⟨_,_,_,_,_,_,ae E rfl,ae E rfl,PC.ok (GA (hT.af (A.then C)) (hd.af C) λP a=>by have:=hD P a;omega) ?_⟩);rintro _ d5 ⟨rfl,b8⟩;have a3:=C.then b8;have b9:d5.heap[w.heap.size]? =some (.cells (iw c d tn Q r B R).toArray 29 (0,0)):=b8.get E id;refine⟨_,rfl,al.dV (λl=>Ok.mk ⟨a3,.inl ?_⟩) (λS=>ar (su c d tn Q r B R) b9 (PC.ok Oj ?_))⟩
 ·have:cj c self=(dy c.decl,(Bq c).2):=by unfold cj;rw[Zx l]
  rw[this];exact⟨l,rfl⟩
 rintro _ T ⟨rfl,c0⟩;have F:=a3.then c0;have U:=c0.get b9 id;refine⟨_,rfl,al.not (al.mk (λm=>?_) (λm=>Ok.mk ⟨F,.inl ?_⟩))⟩
 rotate_left
 ·have:cj c self=(1,(Bq c).2):=by unfold cj;rw[Zq (by simpa using S),Zx m]
  rw[this];exact⟨show(1:Int)≠0 by decide,rfl⟩
 have a4:cj c self=Bq c:=by unfold cj;rw[Zq (by simpa using S),Zq (by rw[m];simp)]
 have c1:nh c self:=⟨m,S,hs,d3,d4⟩
 have c2:=m;unfold jR within at c2;simp only[QK,Zk]at c2;refine⟨_,ae U rfl,PC.ok (sQ (A.then F) oM oM) ?_⟩;rintro _ c3 ⟨dp,rfl,d6,V⟩;obtain⟨Fd,c4,-,d7,-⟩:=d6;have H:∀P,Fd P->T.heap.size<=P/\P<c3.heap.size:=λP a=>⟨Nat.le_of_not_lt (d7 P a).2,c4.aE P a⟩
 have W:=F.then V;have X:=V.get U id;refine⟨_,_,rfl,al.dV (λl=>Zz rfl l) (λ_=>⟨_,_,_,_,_,_,ae X rfl,ae X rfl,PC.ok (Lm (hd.af W) λP a=>by have:=hD P a;have:=W.size;omega) ?_⟩)⟩;rintro _ c5 ⟨n,zl,o,p,q,s,I,rfl,d8,J,K⟩;have c6:=W.then K;have d9:=K.get X id;have f5:=C.size;have f6:=F.size;have g1:=V.size;have g2:=K.size;have g3:=aA E;have e8:w.heap.size<T.heap.size:=aA U;refine⟨_,_,_,_,_,_,rfl,PS.mk d9 (by simp[iw]) λg4 e0 g5 e1=>PS.mk e1 (by simp[iw]) λY e2 g6 e3=>λt c7=>?_⟩;have Z:aj (λP=>P=w.heap.size) c5 Y:=e0.then e2;have L:ai Y t:=c7.keep;have g7:t.heap.size=Y.heap.size:=by rw[c7.heap]
 have e:t.heap[w.heap.size]? =some (.cells (iw c n zl o p q s).toArray 29 (0,0)):=L.get e3 id;have c8:ai w t:=(c6.new Z λP a=>.inr (by have a:P=w.heap.size:=a;omega)).then L;have h:∀{P:Nat},T.heap.size<=P->P≠w.heap.size:=λ{P} a=>by omega
 refine⟨λ_=>False,id,_,_,_,_,_,_,_,_,_,_,_,_,_,_,ae e rfl,ae e rfl,ae e rfl,ae e rfl,ae e rfl,ae e rfl,ae e rfl,ae e rfl,ae e rfl,ae e rfl,_,ae e rfl,id,_,ae e rfl,PC.ok (JF oM) ?_⟩;rintro _ e4 ⟨i,rfl,c9,e9,f2,b4⟩;refine⟨_,rfl,b4,PC.ok IU ?_⟩;rintro _ g ⟨tp,M,rfl,a5,N,d0⟩;have g8:=b4.size;have g9:=N.size;have d1:=a5.aE;refine⟨_,rfl,N,PA.mk λb5 O h2 e5=>⟨O,?_⟩⟩
 let f:jE:=⟨n,zl,o,p,q,s,dp,none,0,0,i,tp⟩
 let a2:bM:=⟨⟨c.bW.toNat,[]⟩,gq c.tO.toNat,none,[],⟨c.df,[],[]⟩⟩
 have d2:b5.heap[g.heap.size]? =some (.cells (xh f c self none none none) 99 (0,0)):=e5;have a0:ai t b5:=(b4.then N).then O;have a1:=c8.then a0;have b6:∃u,bK b5 (λP=>∃k,(match k with|0=>P=g.heap.size|1=>I P|2=>Fd P|5=>P=i|6=>M P|_=>False:Prop)) u (recC g.heap.size (xh f c self none none none) f c a2 false):=by
  refine bK.join (G:=λk P=>match k with|0=>P=g.heap.size|1=>I P|2=>Fd P|5=>P=i|6=>M P|_=>False) (λk=>?_) (λj a9 P b hj=>?_) λk P a=>?_
  ·match k with
   |0=>exact⟨rfl,d2⟩
   |1=>exact(((d8.keep Z λP a v=>h (by have:=J P a;omega) v).af L).af a0)
   |2=>exact⟨Fd,((((c4.keep K λ_ _ f=>f).keep Z λP a v=>h (H P a).1 v).keep L λ_ _ f=>f).keep a0 λ_ _ f=>f),λP a=>a,rfl⟩
   |3=>intro v;cases v
   |4=>trivial
   |5=>exact⟨_,_,c9.af (N.then O),λ_ f=>f,λP a=>a.elim⟩
   |6=>exact a5.af O
   |k+7=>trivial
  ·have x:∀j:Nat,(match j with|0=>P=g.heap.size|1=>I P|2=>Fd P|5=>P=i|6=>M P|_=>False:Prop)->j=(if P<c3.heap.size then 2 else if P<c5.heap.size then 1 else if P<e4.heap.size then 5 else if P<g.heap.size then 6 else 0):=λj b=>by
    rcases j with _|_|_|_|_|_|_|j
    ·have b:P=g.heap.size:=b
     rw[Zq oM,Zq oM,Zq oM,Zq oM]
    ·have:=J P b;rw[Zq oM,Zx oM]
    ·have:=H P b;rw[Zx oM]
    ·exact b.elim
    ·exact b.elim
    ·have b:P=i:=b
     rw[Zq oM,Zq oM,Zx oM]
    ·have h5:=d0 P b;have h6:=d1 P b;rw[Zq oM,Zq oM,Zq oM,Zx oM]
    ·exact b.elim
   rw[x j b,<-x a9 hj]
  ·rcases k with _|_|_|_|_|_|_|k
   ·have a:P=g.heap.size:=a
    omega
   ·have:=J P a;omega
   ·have:=H P a;omega
   ·exact a.elim
   ·exact a.elim
   ·have a:P=i:=a
    omega
   ·have:=d1 P a;omega
   ·exact a.elim
 obtain⟨u,hp⟩:=b6;have b7:∀P,(∃k,(match k with|0=>P=g.heap.size|1=>I P|2=>Fd P|5=>P=i|6=>M P|_=>False:Prop))->w.heap.size<=P:=λP ⟨k,a⟩=>by
  rcases k with _|_|_|_|_|_|_|k
  ·have a:P=g.heap.size:=a
   omega
  ·have:=J P a;omega
  ·have:=H P a;omega
  ·exact a.elim
  ·exact a.elim
  ·have a:P=i:=a
   omega
  ·have:=d0 P a;omega
  ·exact a.elim
 refine PC.ok (xW (h:=f) (z1:=none) (z2:=none) (z3:=none) hp c1 ⟨hT,hL,A.then a1,λP a=>by have:=b7 P a;have:=A.size;omega⟩) ?_;rintro _ e6 ⟨rfl,a6,h',F',y,z,a7⟩;have e7:fq c a2=Bq c:=rfl;rw[e7]at z a6⊢;have a8:ai w e6:=a1.new a7.keep λP a=>.inr (b7 P a);refine⟨_,rfl,al.dV (λl=>Ok.mk ⟨a8,.inl ?_⟩) (λhz=>Ok.mk ⟨a8,.inr ?_⟩)⟩
 ·rw[a4];exact⟨l,rfl⟩
 ·rw[a4]
  exact⟨hz,_,F',rfl,⟨c1,h',y,z⟩,λP a=>(a7.new P a).elim (b7 P) λh5=>by have:=a1.size;omega,a6⟩
end
variable{X p:Array Value}{g1 y:FuncId}{O b5 e q:Int}{a3 e5 h3:List PanicEntry->ZU}{b1:List cY}{g2:List dR}{c:Nat}{f:ZN}{C g4:Nat×Nat}{S Y:Operand}{c7:YQ}{h:Program}{g n:TypeId}{c0 u:Value}{T:Value->Prop}{a9 b k:World}{L:aS}{b6:bu}{d8:dd}{e6:tP}
def Lp(P:World):(callMethod (.iface 97 (ZL a)) "State" #[ZH e,ZH q]).run ZP P= .ok (.enter 391 #[ZL a,ZH e,ZH q]) P:=kR
def GB(P:World):(callMethod (.iface 97 (ZL a)) "Entries" #[]).run ZP P= .ok (.enter 389 #[ZL a]) P:=kR
def Ol(P:World):(callMethod (.iface 97 (ZL a)) "Rows" #[ZH e]).run ZP P= .ok (.enter 390 #[ZL a,ZH e]) P:=kR
def Da(P:aS)(a:List ah)(b c:Int):tP:=match(cD P a).state b c with
 |none=>oN 14
 |some d=>⟨0,(0,0),d,[],[],false⟩
def wU(b:aS)(c:List ah)(a P:Int):tP:=if a<0\/a>=(b.projs.length:Int)then oN 1 else⟨0,(0,0),⟨0,[]⟩,[],(nu (iN b c a) P 32).1,(nu (iN b c a) P 32).2⟩
section
variable {w w' w0 w1 w2:World} {p:Nat} {F E D:ZN} {cls:Nat->Nat} {h:jE} {c:cN} {self:Int} {X:bM}
def BS(P:cP w F cls p h c self X):YX 66 #[ZL p] w (Ok λa w'=>a= .iface 97 (ZL h.bp)/\w=w'):=
 nQ ⟨p,0,rfl,_,ae P.bw rfl,Ok.mk ⟨rfl,rfl⟩⟩
def zt(x:bN w p F c self X):YX 30 #[ZL p,ZH e,ZH q] w (Ok λy w'=>iS w (Da c.decl X.S.l e q) y w'/\ai w w'):=by
 obtain⟨z,h,cls,n⟩:=x;refine o_ (PA.mk λA d S B=>PC.ok (BS (cP.af n d)) ?_);rintro _ _ ⟨rfl,rfl⟩;have C:=cP.af n d;have P:dj A h.bp (λa=>F a/\cls a=4) c.decl c.every.toNat X.S.l:=C.at' 4;refine⟨_,rfl,_,_,Lp,PC.ok (JE P) ?_⟩;rintro _ o ⟨i,j,k,G,rfl,l,r,f⟩;have E:=l.aE;have T:=f.size;refine⟨_,_,_,_,_,rfl,PA.mk λU H V I=>PS.mk I sM λW J Y K=>PS.mk K sM λL M Z m=>?_⟩;have b:ai o L:=H.new (J.then M) λa P=>.inr (by have P:a=o.heap.size:=P;omega);have s:=b.get (f.get B id) id;have b0:=b.size;have t:(((cD c.decl X.S.l).state e q).getD GS).cells.length<=8:=DA (Hi z.decl X.S.l).1 ⟨0,0,0,[],e,q,0,0,0,0⟩;unfold Da
 cases N:(cD c.decl X.S.l).state e q with
 |none=>
  refine al.tt rfl (aC (kY (oN 14) none 0 0 none 0 0 none 0 0) s rfl λb1 O b2 Q=>ar (kY (oN 14) none 0 0 none 0 0 none 0 0) Q (Ok.mk ⟨iS.plain rfl rfl rfl,?_⟩));exact((d.then f).then b).new O λa P=>.inr (by have P:a=w.heap.size:=P;omega)
 |some g=>
  rw[N]at l t m;refine al.ff rfl ⟨_,_,_,_,ae m rfl,ae m rfl,aC (kY ⟨0,(0,0),g,[],[],false⟩ i j k none 0 0 none 0 0) s rfl λb3 u b4 R=>ar (kY ⟨0,(0,0),g,[],[],false⟩ i j k none 0 0 none 0 0) R (Ok.mk ⟨?_,?_⟩)⟩
  ·refine⟨i,j,k,none,0,0,none,0,0,G,rfl,((l.af b).keep u λa P v=>by have v:a=w.heap.size:=v;have:=r a P;omega).row dC (by have:g.cells.length<=8:=t;show g.cells.length*32<=aO;unfold aO;omega),ef _ _,ef _ _,λa P=>⟨by have:=r a P;omega,by have:=E a P;omega⟩⟩
  ·exact((d.then f).then b).new u λa P=>.inr (by have P:a=w.heap.size:=P;omega)
def Om(b:aS)(P:List ah)(c:Int):(iN b P c).length<=P.length:=by
 unfold iN;split
 ·simp
 split
 ·simp
 ·rename_i a d
  have f:=LS b P a (QZ d);have e:=(xg (a.rows.map (·.2))).length_eq;rw[Q8]at e;show(a.rows.map (·.2)|>.foldr mq []).length<=_;omega
def rb(A:bN w p F c self X):YX 54 #[ZL p,ZH e,ZH q] w (Ok λf w'=>iS w (wU c.decl X.S.l e q) f w'/\ai w w'):=by
 obtain⟨R,h,cls,B⟩:=A;refine mP (PA.mk λg i S r=>?_);have b:=cP.af B i;have no:(e<0\/e>=(c.decl.projs.length:Int))->yo ZP 46 (ZL w.heap.size) (.agg (ng (oN 1) none 0 0 none 0 0 none 0 0).toArray) g λs=>oW ZP 46 (ZL w.heap.size) s λC=>Ok (λf w'=>iS w (wU c.decl X.S.l e q) f w'/\ai w w') (.returned C) s:=λE=>by
  refine aC (kY (oN 1) none 0 0 none 0 0 none 0 0) r rfl λT H U I=>ar (kY (oN 1) none 0 0 none 0 0 none 0 0) I (Ok.mk ⟨?_,i.new H λP a=>.inr (by have a:P=w.heap.size:=a;omega)⟩);unfold wU;rw[Zx E];exact iS.plain rfl rfl rfl
 have V:=(show bj g (λP=>F P/\cls P=1) c.decl h.ta h.tn h.pa h.pn from b.at' 1).zJ.len;refine al.dec (λj=>no (.inl j)) (λj=>⟨p,0,rfl,_,_,_,ae b.bw rfl,al.dec (λt=>no (.inr oM)) (λt=>PC.ok (BS b) ?_)⟩);rintro _ _ ⟨rfl,rfl⟩;have a:dj g h.bp (λP=>F P/\cls P=4) c.decl c.every.toNat X.S.l:=b.at' 4;have W:X.S.l.length<=20000000:=a.1.2.2.2;have Y:=Om c.decl X.S.l e;refine⟨_,rfl,_,_,Ol,PC.ok (MT a) ?_⟩;rintro _ Z ⟨⟨a0,a1,cc,G,rfl,d,k,hG⟩,J⟩;have hn:=d.len dC;have K:=d.lM;refine⟨_,_,_,rfl,PC.ok (Lg (d.row dC ba) d.aE K J oM) ?_⟩;rintro _ L ⟨a2,rfl,l,m,n,M,rfl,u,o,v⟩;have N:=u.aE;have a9:=k.size;have b0:=o.size;have b1:(nu (iN c.decl X.S.l e) q 32).1.length<=32:=by unfold nu;rw[Qy];omega
 have O:ai w L:=(i.then k).then o;refine⟨_,_,_,_,rfl,aC (kY ⟨0,(0,0),⟨0,[]⟩,[],(nu (iN c.decl X.S.l e) q 32).1,(nu (iN c.decl X.S.l e) q 32).2⟩ none 0 0 none 0 0 l m n) (o.get (k.get r id) id) rfl λb2 x b3 Q=>ar (kY ⟨0,(0,0),⟨0,[]⟩,[],(nu (iN c.decl X.S.l e) q 32).1,(nu (iN c.decl X.S.l e) q 32).2⟩ none 0 0 none 0 0 l m n) Q (Ok.mk ⟨?_,O.new x λP a=>.inr (by have a:P=w.heap.size:=a;omega)⟩)⟩;unfold wU;rw[Zq (by rintro(y|y);exact j y;exact t oM)];refine⟨none,0,0,none,0,0,l,m,n,M,rfl,ef _ _,ef _ _,(u.keep x λP a z=>by have z:P=w.heap.size:=z;have:=v P a;omega).row dC (by show(nu (iN c.decl X.S.l e) q 32).1.length*24<=aO;unfold aO;omega),λP a=>⟨by have:=v P a;omega,by have:=N P a;omega⟩⟩
end
def Cj{b:Type}{c:b->Bool}:∀{L:List b} {j:Nat} {P:b},L[j]? =some P->c P=true->(L.filter c)[((L.take j).filter c).length]? =some P
 |[],j,P,a,_=>by simp at a
 |x::L,0,P,a,d=>by simp at a;subst a;simp[d]
 |x::L,j+1,P,a,d=>by
  have e:=Cj (L:=L) (j:=j) (by simpa using a) d;rw[Zw,List.filter_cons,List.filter_cons];split
  ·simpa using e
  ·exact e
section
variable {w w' wz A B w1:World} {D:ZN} {a:YQ} {n c:Nat} {l:List cR} {O R1 R2 f most:Nat} {own L:List (Bx cR)} {pre:List (List Value)}
def TP(b P:Int)(a:cR):Bool:=a.ev.aY==b&&a.ev.agg==P
def Dx{e:cR}{a:YQ}{n c:Nat}(i:Row aM 8 w D a n e.ev.aJ)(t:∀P,D P->P<w.heap.size):
  YX 164 #[EO e a n c] w (Ok λu w'=>∃a n c G,u=EO e a n c/\Row aM 8 w' G a n e.ev.aJ/\(∀P,G P->w.heap.size<=P/\P<w'.heap.size)/\ai w w'):=by
 have v:=i.dO;have x:=i.len;refine yM (PA.mk λw1 m A f=>PA.mk λB g C j=>⟨_,_,_,ae (g.get f id) rfl,PC.ok (ck (i.af (m.then g)) λP b=>by have:=t P b;omega) ?_⟩);rintro _ E ⟨o,p,q,G,rfl,r,h,k⟩;have f:=h.get (g.get f id) id;have j:=h.get j id;have F:=h.size;refine⟨_,_,_,rfl,PS.mk f sM λH l I y=>?_⟩;refine ar (cs:=ic e o p q) (lv _ _ _ _) y (aC (lv _ _ _ _) (l.get j (λd=>by have d:w1.heap.size=w.heap.size:=d;omega)) rfl λJ s K z=>ar (lv _ _ _ _) z (Ok.mk ⟨o,p,q,G,rfl,?_,?_,?_⟩))
 ·refine(((r.keep l λP b d=>?_).keep s λP b d=>?_).row (bytes:=8) dC (by rw[<-x];exact v))
  ·have d:P=w.heap.size:=d;have:=k P b;omega
  ·have d:P=w1.heap.size:=d;have:=k P b;omega
 ·intro P b
  have:=k P b;have:=r.aE P b;omega
 ·exact((((m.then g).then h).new l λP b=>.inr (by have b:P=w.heap.size:=b;omega)).new s λP b=>.inr (by have b:P=w1.heap.size:=b;omega))
def OD{d:cR}{f g:Nat}{i j:TypeId}(k:w.heap[f]? =some (.cells #[ZH e] i C))(l:w.heap[g]? =some (.cells #[ZH q] j g4)):
  YX 163 #[EO d a n c,ZL f,ZL g] w (Ok λm w'=>m= .bool (TP e q d)/\ai w w'):=by
 refine yL (PA.mk λw1 P o h=>⟨_,ae h rfl,_,ae (P.get k id) rfl,al.mk (λb=>⟨_,ae h rfl,_,ae (P.get l id) rfl,Ok.mk ⟨?_,P⟩⟩) (λb=>Ok.mk ⟨?_,P⟩)⟩)
 ·unfold TP;rw[b];rfl
 ·unfold TP;rw[b];rfl
structure OO (wz:World) (O:Nat) (own:List (Bx cR)) (f most:Nat) (pre:List (List Value)) (A:World):Prop where
 keep:aj (·=O) wz A
 dO:wz.heap.size+2<=A.heap.size
 oG:∃a n c G,A.heap[O]? =some (.cells #[.slice a n c] 43 (0,0))/\aU yl 160 G A a n c (((own.take pre.length).drop f).map (·.x))/\(∀b,G b->wz.heap.size+2<=b)/\n<=most
structure UY (wz:World) (O R1 R2:Nat) (own:List (Bx cR)) (f most:Nat) (A:World):Prop where
 keep:aj (λb=>b=O\/b=R1\/b=R2) wz A
 r2:A.heap[R2]? =some (.cells #[.bool true] 4 (0,0))
 more:most<(own.drop f).length
 oG:∃a n c G,A.heap[R1]? =some (.cells #[.slice a n c] 43 (0,0))/\aU yl 160 G A a n c (((own.drop f).take most).map (·.x))/\(∀b,G b->wz.heap.size+2<=b)
def OO.af(b:OO wz O own f most pre A)(P:ai A B):OO wz O own f most pre B:=by
 obtain⟨d,e,a,n,c,G,g,h,i⟩:=b;exact⟨d.af P,Xx e P.size,a,n,c,G,P.get g id,h.af P,i⟩
def OO.eV(o:O<wz.heap.size)(h:OO wz O own f most pre A)(i:pW (wz.heap.size+1) A B):OO wz O own f most pre B:=by
 obtain⟨j,p,a,n,c,G,k,l,g,m⟩:=h;obtain⟨e,q⟩:=i;exact⟨j.new e λb d=>.inr (by have d:b=wz.heap.size+1:=d;omega),oM,a,n,c,G,e.get k (λP=>by have P:O=wz.heap.size+1:=P;omega),l.keep e λb d P=>by have P:b=wz.heap.size+1:=P;have:=g b d;omega,g,m⟩
def UY.eV(q:O<wz.heap.size/\R1<wz.heap.size/\R2<wz.heap.size)(h:UY wz O R1 R2 own f most A){k:Nat}(r:wz.heap.size<=k/\k<=wz.heap.size+1)(i:pW k A B):UY wz O R1 R2 own f most B:=by
 obtain⟨j,l,m,a,n,c,G,o,p,g⟩:=h;obtain⟨b,s⟩:=i;exact⟨j.new b λd e=>.inr (by have e:d=k:=e;omega),b.get l (λP=>by have P:R2=k:=P;omega),m,a,n,c,G,b.get o (λP=>by have P:R1=k:=P;omega),p.keep b λd e P=>by have P:d=k:=P;have:=g d e;omega,g⟩
def Tf{o p r s:Nat}{W X:TypeId}{R:ZU}{Rx:ZU}(hO:O<wz.heap.size)(Y:wz.heap[o]? =some (.cells #[ZH e] W C))(Z:wz.heap[p]? =some (.cells #[ZH q] X g4))(h1:o≠O)(h2:p≠O)(t:∃i f,wz.heap[r]? =some (.cells #[.slice a n c] i f))(h3:r≠O)(u:∃i f,wz.heap[s]? =some (.cells #[.func (.func 163) #[] #[ZL o,ZL p]] i f))(h4:s≠O)(F:Row LM.ke 120 wz D a n L)(hD:∀P,D P->P<wz.heap.size/\P≠O)(H:own=L.filter λP=>TP e q P.x)(b6:L.length<=20000000)(hR:∀A B,R A->aj (nE wz) A B->R B)(hy:∀pre k A,OO wz O own f most pre A->R A->sY [ZH 0,EO ⟨rC,false,(0,0)⟩ none 0 0] k->(∃P,own[pre.length]? =some P/\k=[ZH (pre.length:Int),EO P.x P.a P.n P.c])->jJ ZP (wz.heap.size+1) k A λP d=>(P=true/\OO wz O own f most (pre++[k]) d/\R d)\/(P=false/\UY wz O R1 R2 own f most d/\Rx d))(I:OO wz O own f most [] w1)(a4:R w1):
  YX 237 #[.func (.yield (wz.heap.size+1)) #[] #[],ZL r,ZL s] w1 (λi d=>(∃a0,i= .returned a0)/\((R d/\∃j:List (List Value),OO wz O own f most j d/\j.length=own.length)\/(UY wz O R1 R2 own f most d/\Rx d))):=by
 obtain⟨e3,f3,t⟩:=t;obtain⟨e4,f4,u⟩:=u;have hn:=F.len;refine uP ⟨_,_,_,ae (I.keep.get t h3) rfl,λJ a1 v w'=>∃(b:Nat) (pre:List (List Value)),v=b/\b<=n/\J=n-b/\a1=(pre.length:Int)/\pre.length=((L.take b).filter λP=>TP e q P.x).length/\OO wz O own f most pre w'/\R w',⟨_,0,[],rfl,Qj _,rfl,rfl,rfl,I,a4⟩,?_⟩;rintro J _ _ _ K ⟨b,pre,rfl,hj,rfl,rfl,h,l,M⟩;refine al.dec (λb7=>?_) (λb8=>?_)
 ·obtain⟨P,g⟩:∃P,L[b]? =some P:=⟨_,Qq oM⟩
  obtain⟨a2,a3,es,ha,a5,a6,w,rfl,-⟩:=(F.keep l.keep λP g=>(hD P g).2).el b P g;have b3:pre.length<=20000000:=by
   rw[h];have h5:=List.length_filter_le (λP:Bx cR=>TP e q P.x) (L.take b);have h6:=List.length_take_le b L;omega
  refine⟨a2,a3,ha,oM,oM,bB (es:=ic P.x P.a P.n P.c) (k:=13) (lv _ _ _ _) rfl (λv ht=>by rw[Qx];exact w v ht) (PA.mk λb9 a7 c0 a8=>aC (lv P.x P.a P.n P.c) a8 rfl λa9 b0 c1 N=>?_)⟩;have Q:ai K a9:=a7.new b0 λP g=>.inr (by have g:P=K.heap.size:=g;omega);have x:=l.af Q;refine⟨_,ae (x.keep.get u h4) rfl,ar (lv P.x P.a P.n P.c) N ⟨_,_,_,rfl,kR,PC.ok (OD (x.keep.get Y h1) (x.keep.get Z h2)) ?_⟩⟩;rintro _ b1 ⟨rfl,S⟩;have T:=Q.then S;have U:=l.af T;have V:=hR _ _ M (ai.keep T);refine⟨_,rfl,al.not (al.mk (λm=>?_) (λm=>⟨_,oM,b+1,pre,an oM,oM,rfl,rfl,?_,U,V⟩))⟩
  rotate_left
  ·rw[Qw,g,List.filter_append,h];simp[m]
  refine ar (lv P.x P.a P.n P.c) (S.get N id) ⟨_,rfl,(hy pre _ b1 U V ?_ ⟨P,?_,rfl⟩).mono ?_⟩
  ·exact λφ y=>y pre.length P.x.ev.origin P.x.ev.seq P.x.ev.aB P.a P.n P.c P.x.ev.aY P.x.ev.agg P.x.ev.field P.x.ev.op P.x.ev.arg P.x.ev.key P.x.void P.x.EN.1 P.x.EN.2
  ·rw[H,h];exact Cj g m
  ·rintro b' d (⟨rfl,z,b5⟩|⟨rfl,E,b2⟩)
   ·refine al.ff rfl ⟨_,oM,b+1,pre++[_],an oM,oM,rfl,?_,?_,z,b5⟩
    ·rw[an oM];simp
    ·rw[Qw,g,List.filter_append,QX,QX,<-h];simp[m]
   ·exact al.tt rfl ⟨⟨_,rfl⟩,.inr ⟨E,b2⟩⟩
 ·rw[Qz oM]at h
  exact⟨⟨_,rfl⟩,.inl ⟨M,pre,l,by rw[H];exact h⟩⟩
end
section
variable {w w' wz A B w1:World} {D:ZN} {a:YQ} {n c:Nat} {l:List cR}
def IV{most:Nat}(I:Row yl 120 w D a n l)(hD:∀P,D P->P<w.heap.size)(hm:most<=1000)(hl:l.length<=20000000)(k1:aN O):
  YX 109 #[.slice a n c,ZH e,ZH q,ZH O,ZH (most:Int)] w (Ok λa6 w'=>∃N,a6= .tuple #[N,.bool (kp l e q O most).2]/\pC yl 160 w (kp l e q O most).1 N w'):=by
 obtain⟨V,c1,hL,e8⟩:=eZ.boxes (N:=LM) I;have k5:V.length=l.length:=by rw[<-c1,Q8]
 obtain⟨own,p⟩:∃own,own=V.filter λP=>TP e q P.x:=⟨_,rfl⟩
 obtain⟨i,hf⟩:∃i:Nat,i=(max O 0).toNat:=⟨_,rfl⟩
 have c7:own.map (·.x)=l.filter λb=>b.ev.aY==e&&b.ev.agg==q:=by rw[p,<-c1,List.filter_map];rfl
 have e9:kp l e q O most=(((own.drop i).take most).map (·.x),decide (most<(own.drop i).length)):=by
  unfold kp;rw[<-c7,<-hf];simp only[List.map_take,List.map_drop,XZ,Q8]
 rw[e9];have h4:own.length<=20000000:=by rw[p];have:=List.length_filter_le (λP:Bx cR=>TP e q P.x) V;omega
 refine CR (PA.mk λw6 k6 s6 g6=>PA.mk λv k7 s7 g7=>PA.mk λw8 k8 s8 g8=>PA.mk λj k9 s9 g9=>PA.mk λk a0 l0 f3=>PA.mk λm W l3 f4=>PA.mk λf5 Q l4 f6=>?_);have a7:=(((k8.then k9).then a0).then W).then Q;have c8:=a7.get (show v.heap[w6.heap.size]? =_ from g7) id;have k2:(if 0>(if False then(0:Int)else O)then 0 else O)=(i:Int):=by simp;split<;>omega
 refine⟨_,ae ((((k9.then a0).then W).then Q).get g8 id) rfl,?_⟩;have g0:(if 0>O then(0:Int)else O)=(i:Int):=by rw[hf];split<;>omega
 rw[g0];refine PS.mk ((((k9.then a0).then W).then Q).get g8 id) sM λE J l5 g1=>?_;have c9:E.heap[v.heap.size]? =some (.cells #[ZH (i:Int)] 3 (0,0)):=g1;have d0:ai w f5:=((k6.then k7).then a7)
 have d1:ai w E:=d0.new J λP d=>.inr (by have d:P=v.heap.size:=d;omega);have d2:=J.get ((k7.then a7).get g6 id) (λb=>by have b:w.heap.size=v.heap.size:=b;omega);have d5:=J.get c8 (λb=>by have b:w6.heap.size=v.heap.size:=b;omega);have d6:=J.get (((a0.then W).then Q).get g9 id) (λb=>by have b:w8.heap.size=v.heap.size:=b;omega);have d8:=J.get ((W.then Q).get f3 id) (λb=>by have b:j.heap.size=v.heap.size:=b;omega);have e1:=J.get (Q.get f4 id) (λb=>by have b:k.heap.size=v.heap.size:=b;omega);have e2:=J.get f6 (λb=>by have b:m.heap.size=v.heap.size:=b;omega);refine PC.ok (φ:=λa6 w'=>a6= .func (.func 237) #[] #[ZL E.heap.size,.pointer (some ⟨E.heap.size+1,0,none⟩)]/\w'.heap[E.heap.size]? =some (.cells #[.slice a n c] 43 (0,0))/\(∃b ff,w'.heap[E.heap.size+1]? =some (.cells #[.func (.func 163) #[] #[ZL w.heap.size,ZL w6.heap.size]] b ff))/\ai E w'/\w'.heap.size=E.heap.size+2)
  (Ay (PA.mk λw3 k3 s3 g3=>PA.mk λw4 k4 s4 g4=>Ok.mk ⟨by rw[s3],k4.get g3 id,⟨_,_,by rw[<-s3];exact g4⟩,k3.then k4,oM⟩)) ?_
 rintro _ wz ⟨rfl,g2,g5,y,sz⟩;have h:=d1.then y;have a8:=y.get d2 id;have a9:=y.get d5 id;have b0:=y.get d6 id;have b1:=y.get c9 id;have K:=y.get d8 id;have L:=y.get e1 id;have X:=y.get e2 id;have Y:m.heap.size<wz.heap.size:=aA X;have d3:j.heap.size<wz.heap.size:=aA K;have d4:k.heap.size<wz.heap.size:=aA L;have b2:∀P,D P->P<wz.heap.size/\P≠m.heap.size:=λP d=>⟨by have:=hD P d;have:=h.size;omega,λb=>by have:=hD P d;omega⟩
 have e3:∀P∈V,LM.In wz D P:=λP d=>(e8 P d).keep h λ_ _ I=>I;have e5:∀{c0:Nat} {P:Bx cR},own[c0]? =some P->P∈V:=λ{c0 P} d=>by
  have:=QZ d;rw[p]at this;exact(List.mem_filter.1 this).1
 refine⟨_,rfl,237,_,rfl,kR,Unit,(),λ_=>OO wz m.heap.size own i most,λN _ A=>N= .ret/\UY wz m.heap.size j.heap.size k.heap.size own i most A,
  λf R=>∃P,own[f.length]? =some P/\R=[ZH (f.length:Int),EO P.x P.a P.n P.c],λz=>z.length=own.length,?_,λ_ f A B M t=>M.eV Y t,λN f A B hx t=>⟨hx.1,hx.2.eV ⟨Y,d3,d4⟩ ⟨oM,oM⟩ t⟩,?_,?_,?_,?_,trivial⟩
 ·intro w1 hk hs
  refine⟨ai.keep hk,oM,none,0,0,λ_=>False,hk.get X id,?_,λP d=>d.elim,Qj _⟩;simpa using aU.nil w1
 ·rintro _ f A M l6 l7 l8 l9 m0 ta tn tc m1 m2 m3 m4 m5 m6 m7 m8 m9 ⟨P,d,he⟩
  simp only[ic,aD,List.cons_append,List.nil_append,List.cons.injEq,Value.agg.injEq,Array.mk.injEq,Value.int.injEq,XX,Value.bool.injEq,and_true,true_and]at he;obtain⟨rfl,rfl,rfl,rfl,⟨rfl,rfl,rfl⟩,rfl,rfl,rfl,rfl,rfl,rfl,rfl,rfl,rfl⟩:=he;have n0:f.length<own.length:=(Qv.1 d).1;refine PA.mk λn1 h0 n3 h8=>aC (lv P.x P.a P.n P.c) h8 rfl λh9 i0 n4 i1=>?_;have c2:ai A h9:=h0.new i0 λP d=>.inr (by have d:P=A.heap.size:=d;omega);refine⟨ai.keep c2,λb3 t=>?_⟩;have c3:=(M.af c2).eV Y t;have i2:=t.1.get i1 (λb=>by have b:A.heap.size=wz.heap.size+1:=b;omega);have n8:=t.2;have Z:=c3.keep;have c4:∀R:List Value,(((own.take (f++[R]).length).drop i)=if f.length<i then []else((own.take f.length).drop i)++[P]):=λR=>by
   rw[QX,List.length_singleton,Qw,d];have i3:(own.take f.length).length=f.length:=by rw[Qy];omega
   split
   ·rename_i r
    exact List.drop_eq_nil_of_le (by rw[QX,i3];simp;omega)
   ·rename_i r
    rw[List.drop_append_of_le_length oM];rfl
  obtain⟨o,x,C,F,S,G,u,s,r,h6⟩:=c3;have a1:=s.len dC;rw[Q8,XZ,Qy,X2 oM]at a1;refine⟨_,ae (Z.get b1 (λb=>by have b:v.heap.size=m.heap.size:=b;omega)) rfl,al.dec (λn9=>⟨aj.refl _,?_⟩) (λo0=>⟨_,_,_,ae u rfl,_,ae (Z.get b0 (λb=>by have b:w8.heap.size=m.heap.size:=b;omega)) rfl,al.dec (λi4=>?_) (λi5=>λd7 i6=>?_)⟩)⟩
  ·refine⟨o,x,C,F,S,G,u,?_,r,h6⟩
   rw[c4,Zx oM];rw[List.drop_eq_nil_of_le (by rw[Qy];omega)]at s;exact s
  ·have e6:F=most:=oM
   have b4:=Z.get K (λb=>by have b:j.heap.size=m.heap.size:=b;omega);have b5:=Z.get L (λb=>by have b:k.heap.size=m.heap.size:=b;omega);refine⟨_,_,_,ae u rfl,PS.mk b4 sM λo1 d9 o2 i7=>PS.mk (d9.get b5 (λb=>by have b:k.heap.size=j.heap.size:=b;omega)) sM λi8 e0 o3 i9=>?_⟩;have T:aj (λP=>P=j.heap.size\/P=k.heap.size) b3 i8:=(d9.mono λP _ b=>.inl b).then (e0.mono λP _ b=>.inr b);have j0:(own.drop i).take most=(own.take f.length).drop i:=by
    rw[<-e6,a1,List.drop_take]
   refine⟨T.mono λP _ d=>⟨by rcases d with rfl|rfl<;>omega,by rcases d with rfl|rfl<;>omega⟩,.inl rfl,rfl,(o.mono λP _ b=>.inl b).then (T.mono λP _ b=>.inr b),i9,by rw[XZ];omega,C,F,S,G,e0.get i7 (λb=>by have b:j.heap.size=k.heap.size:=b;omega),?_,r⟩;rw[j0];exact s.keep T λP d b=>by have:=r P d;rcases b with rfl|rfl<;>omega
  ·have U:ai b3 d7:=i6.keep
   have c5:=(e3 P (e5 d)).keep Z λP d b=>(b2 P d).2 b;have e7:Row aM 8 d7 D P.a P.n P.x.ev.aJ:=c5.1.af U;have f0:P.x.ev.Ok:=c5.2;refine⟨λ_=>False,id,_,_,_,ae (U.get u id) rfl,ar (lv P.x P.a P.n P.c) (U.get i2 id) (PC.ok (Dx e7 λP d=>by have:=(b2 P d).1;have:=U.size;omega) ?_)⟩;rintro _ o4 ⟨f1,n2,f2,G2,rfl,j1,b6,b7⟩;have o5:=U.size;have o6:=b7.size;refine⟨_,_,_,_,_,_,_,_,_,_,_,_,_,_,_,rfl,b7,PA.mk λo7 b8 o8 j2=>⟨b8,?_⟩⟩;have a2:=(U.then b7).then b8;refine eJ (c:=yl) (x:=P.x) (s.af a2) Rp j2 (D:=G2) ⟨f1,n2,f2,rfl,j1.af b8,f0⟩ (λP d=>⟨by have:=b6 P d;omega,λb=>by have:=s.aE P (s.self P b);have:=b6 P d;omega⟩) (by rw[Q8,XZ,Qy];unfold aO;omega) (by rw[Q8,XZ,Qy];unfold maxLen;omega) λa' c' o9 F' f7 b9 j3=>⟨_,_,_,rfl,?_⟩
   have g:∀P,aH C=some P->wz.heap.size+2<=P:=λP d=>r P (s.self P d);have j4:¬aH C=some m.heap.size:=λb=>by have:=g _ b;omega
   have p0:=b9.size;have p1:=a2.size;have H:∀P,F' P->wz.heap.size+2<=P:=λP d=>by
    rcases j3 P d with h7|h7|h7
    ·exact r P h7
    ·have:=b6 P h7;omega
    ·omega
   refine PS.mk (b9.get (a2.get u id) j4) sM λj5 e4 p2 j6=>?_;have T:aj (λP=>aH C=some P\/P=m.heap.size) b3 j5:=((ai.keep a2).then (b9.mono λP _ b=>.inl b)).then (e4.mono λP _ b=>.inr b);refine⟨T.mono λP _ d=>⟨?_,?_⟩,⟨(o.new (T.mono λP _ b=>b) λP d=>d.elim (λb=>.inr (by have:=g P b;omega)) .inl),oM,a',F+1,c',F',j6,?_,H,oM⟩⟩
   ·rcases d with d|rfl
    ·have:=g P d;omega
    ·omega
   ·rcases d with d|rfl
    ·have:=g P d;omega
    ·omega
   ·rw[c4,Zq oM,Q3]
    exact f7.keep e4 λP d b=>by have b:P=m.heap.size:=b;have:=H P d;omega
 ·intro f8 Rx hR _ p3 hy w1 j7 f9
  refine Calls.mono (Tf (own:=own) (f:=i) (most:=most) (R:=f8) (Rx:=Rx .ret) (R1:=j.heap.size) (R2:=k.heap.size) Y a8 a9 oM oM ⟨_,_,y.size|>λ_=>g2⟩ oM g5 oM (hL.af h) b2 p oM hR (λf R A M j8 t hN=>(hy () f R A M j8 t hN).mono ?_) j7 f9) ?_
  ·rintro P A' (I|⟨o,N,⟨rfl,x⟩,u⟩)
   ·exact .inl I
   ·exact .inr ⟨o,x,u⟩
  ·rintro b A' ⟨hv,I⟩
   refine⟨hv,?_⟩;rcases I with⟨o,z,x,u⟩|⟨o,x⟩
   ·exact .inl ⟨o,(),z,x,u⟩
   ·exact .inr ⟨.ret,[],⟨rfl,o⟩,x⟩
 ·rintro _ z A M c6 hm
  obtain⟨o,x,C,F,S,G,u,s,r,h6⟩:=M;have a1:=s.len dC;rw[c6,List.take_length]at s;rw[c6,List.take_length,Q8,XZ]at a1;have b4:=o.get K (λb=>by have b:j.heap.size=m.heap.size:=b;omega);have b5:=o.get L (λb=>by have b:k.heap.size=m.heap.size:=b;omega);refine⟨_,_,_,ae u rfl,PS.mk b4 sM λp4 a3 p5 j9=>PS.mk (a3.get b5 (λb=>by have b:k.heap.size=j.heap.size:=b;omega)) sM λp6 a4 p7 k0=>?_⟩;refine⟨a4.get (a3.get hm (λb=>by have b:wz.heap.size=j.heap.size:=b;omega)) (λb=>by have b:wz.heap.size=k.heap.size:=b;omega),λp8 t=>?_⟩;have a5:=t.1;have h1:=a5.get (a4.get j9 (λb=>by have b:j.heap.size=k.heap.size:=b;omega)) (λb=>by have b:j.heap.size=wz.heap.size:=b;omega);have h2:=a5.get k0 (λb=>by have b:k.heap.size=wz.heap.size:=b;omega);refine⟨_,_,_,ae h1 rfl,_,ae h2 rfl,Ok.mk ⟨_,?_,C,F,S,G,rfl,?_,?_,λP d=>by have:=r P d;have:=h.size;omega⟩⟩
  ·rw[Xv (by rw[XZ];omega)]
  ·rw[Qz (by rw[XZ];omega)]
   exact((s.keep a3 λP d b=>by have b:P=j.heap.size:=b;have:=r P d;omega).keep a4 λP d b=>by have b:P=k.heap.size:=b;have:=r P d;omega).keep a5 λP d b=>by have b:P=wz.heap.size:=b;have:=r P d;omega
  ·refine(((h.new o λP d=>.inr (by have d:P=m.heap.size:=d;omega)).new a3 λP d=>.inr (by have d:P=j.heap.size:=d;omega)).new a4 λP d=>.inr (by have d:P=k.heap.size:=d;omega)).new a5 λP d=>.inr (by have d:P=wz.heap.size:=d;have:=h.size;omega)
 ·rintro f A ⟨-,hx⟩ hm
  refine⟨hm,λp9 t=>?_⟩;obtain⟨o,x,h3,C,F,S,G,u,s,r⟩:=hx.eV ⟨Y,d3,d4⟩ ⟨oM,oM⟩ t;refine⟨_,_,_,ae u rfl,_,ae x rfl,Ok.mk ⟨_,by rw[Zy h3],C,F,S,G,rfl,s,?_,λP d=>by have:=r P d;have:=h.size;omega⟩⟩;exact h.new o λP d=>.inr (by rcases d with d|d|d<;>omega)
end
def zu(a:aS)(b:List ah)(c d P:Int):tP:=⟨0,(0,0),⟨0,[]⟩,(kp (cD a b).entries c d P 32).1,[],(kp (cD a b).entries c d P 32).2⟩
section
variable {w w' w0 w1 w2:World} {p:Nat} {F E D:ZN} {cls:Nat->Nat} {h:jE} {c:cN} {self:Int} {X:bM}
def Bn(s:bN w p F c self X)(t:aN O):YX 53 #[ZL p,ZH e,ZH q,ZH O] w (Ok λu w'=>iS w (zu c.decl X.S.l e q O) u w'/\ai w w'):=by
 obtain⟨I,h,cls,k⟩:=s;refine lQ (PA.mk λv b J x=>PC.ok (BS (cP.af k b)) ?_);rintro _ _ ⟨rfl,rfl⟩;have y:=cP.af k b;have P:dj v h.bp (λa=>F a/\cls a=4) c.decl c.every.toNat X.S.l:=y.at' 4;have z:=(vS c.decl X.S.l P.1.2.2.2).1;refine⟨_,rfl,_,_,GB,PC.ok (ES P) ?_⟩;rintro _ K ⟨L,M,N,G,rfl,l,d,Q⟩;refine⟨_,_,_,rfl,PC.ok (IV (most:=32) (l.row dC ba) l.aE oM z t) ?_⟩;rintro _ A ⟨R,rfl,f,g,i,B,rfl,m,j,n⟩;have C:=m.aE;have S:=d.size;have T:=j.size;have U:(kp (cD c.decl X.S.l).entries e q O 32).1.length<=32:=by unfold kp;rw[Qy];omega
 have E:ai w A:=(b.then d).then j;refine⟨_,_,_,_,rfl,aC (kY (zu c.decl X.S.l e q O) none 0 0 f g i none 0 0) (j.get (d.get x id) id) rfl λV o W H=>ar (kY (zu c.decl X.S.l e q O) none 0 0 f g i none 0 0) H (Ok.mk ⟨?_,E.new o λa P=>.inr (by have P:a=w.heap.size:=P;omega)⟩)⟩;refine⟨none,0,0,f,g,i,none,0,0,B,rfl,ef _ _,(m.keep o λa P r=>by have r:a=w.heap.size:=r;have:=n a P;omega).row dC (by show(kp (cD c.decl X.S.l).entries e q O 32).1.length*120<=aO;unfold aO;omega),ef _ _,λa P=>⟨by have:=n a P;omega,by have:=C a P;omega⟩⟩
end
def PY:(do eqGuard .neq 39 S Y (.agg #[ZH e,ZH q]) (.agg #[ZH O,ZH b5]);binOp .neq 39 (.agg #[ZH e,ZH q]) (.agg #[ZH O,ZH b5]):Sem Value).run ZP b= .ok (.bool (!(e==O&&q==b5))) b:=by
 have P:=EM (x:=S) (y:=Y) (a:=e) (b:=q) (c:=O) (d:=b5) (w:=b);rw[Sem.run_bind,run_eqGuard_agg b .eql _ S Y _ _ kR,Result.andThen_ok,run_eql_struct]at P;rw[Sem.run_bind,run_eqGuard_agg b .neq _ S Y _ _ kR,Result.andThen_ok,run_neq_struct];generalize(Op.equalIn 10000 39 (.agg #[ZH e,ZH q]) (.agg #[ZH O,ZH b5])).run ZP b=a at P⊢
 cases a with
 |ok c d=>simp only[Result.andThen_ok,Result.ok.injEq,Value.bool.injEq]at P⊢;obtain⟨rfl,rfl⟩:=P;exact⟨rfl,rfl⟩
 |_=>simp[Result.andThen]at P
def Up(a:dR)(b:World):(do eqGuard .neq 269 S Y (.agg (bq a).toArray) (.agg (bq a).toArray);binOp .neq 269 (.agg (bq a).toArray) (.agg (bq a).toArray):Sem Value).run ZP b= .ok (.bool false) b:=by
 have e:Tryz.prog.underlying 269=some (.struct (Tryz.prog.fieldsOf 269)):=kR
 have c:Tryz.prog.underlying 3=some (.int .i64):=kR
 have P:(Tryz.prog.fieldsOf 269).toList.map (λd=>(d.name,d.type,d.offset))=[("Group",3,0),("Value",3,1),("Count",3,2)]:=kR
 rw[Sem.run_bind,run_eqGuard_agg b .neq _ S Y _ _ kR,Result.andThen_ok,run_neq_struct,run_equalIn_struct b 9999 _ _ _ e kR];generalize(Tryz.prog.fieldsOf 269).toList=f at P
 match f,P with
 |[d,t,u],P=>
  simp only[QY,List.map_nil,List.cons.injEq,Prod.mk.injEq,and_true]at P;obtain⟨⟨g,h,i⟩,⟨j,k,l⟩,m,n,o⟩:=P;have p:(isAgg 3).run ZP b= .ok false b:=de _ _ _ kR ⟨_,c⟩ b;have q:=run_equalIn_int (P:=ZP) b 9998 3 .i64 .i64 a.group a.group c;have r:=run_equalIn_int (P:=ZP) b 9998 3 .i64 .i64 a.value a.value c;have s:=run_equalIn_int (P:=ZP) b 9998 3 .i64 .i64 a.count a.count c;unfold Op.eqFields Op.eqFields Op.eqFields Op.eqFields;rw[g,h,i,j,k,l,m,n,o];simp[part,p,q,r,s,bq]
 |[],P=>simp at P
 |[_],P=>simp at P
 |[_,_],P=>simp at P
 |_::_::_::_::_,P=>simp at P
section
variable {w w':World} {D E:ZN} {a b:YQ} {n m c d:Nat}
def CX(f:Row fw 32 w D a n b1)(h:Row fw 32 w E b m b1):YX 161 #[.slice a n c,.slice b m d] w (Ok λu w'=>u= .bool true/\ai w w'):=by
 have F:=f.len;have H:=h.len;have v:=f.dO;unfold aO at v;refine yK (al.dV (λe=>Zz oM e) (λ_=>?_));refine⟨λj i w'=>∃P:Nat,i=P/\P<=n/\j=n-P/\ai w w',⟨_,0,rfl,Qj _,rfl,aj.refl w⟩,?_⟩;rintro j i _ I ⟨P,rfl,J,rfl,k⟩;refine al.dec (λK x y=>?_) (λ_=>Ok.mk ⟨rfl,k⟩);have g:ai w x:=k.then y.keep;obtain⟨l,o,L,M,rfl,_,_,z,p,N,O,Q,rfl,A,_⟩:=(f.af g).vQ (i:=P) oM;obtain⟨q,r,R,S,rfl,_,_,s,t,T,U,V,rfl,B,_⟩:=(h.af g).vQ (i:=P) oM;rw[z]at s;cases s
 refine⟨l,o,rfl,oM,oM,_,p 0 dC,q,r,rfl,oM,oM,_,t 0 dC,al.dV (λe=>Zz rfl e) (λ_=>?_)⟩;refine⟨l,o,rfl,oM,oM,_,_,_,p 1 dC,q,r,rfl,oM,oM,_,_,_,t 1 dC,PC.ok (lY A B) ?_⟩;rintro _ W ⟨rfl,C⟩;exact⟨_,rfl,al.not (al.dec (λ_=>⟨_,oM,P+1,an oM,oM,rfl,g.then C.keep⟩) (λe=>Zz rfl e))⟩
def CY{s:lZ}(h:Row fw 32 w D a n s.cells)(i:Row fw 32 w E b m s.cells):YX 106 #[.agg #[ZH s.version,.slice a n c],.agg #[ZH s.version,.slice b m d]] w (Ok λj w'=>j= .bool true/\ai w w'):=by
 refine yC (PA.mk λp e q k=>PA.mk λr P t f=>?_);have g:=P.get k id;refine⟨_,ae g rfl,_,ae f rfl,al.eD (λ_=>?_) (λl=>Zz rfl l)⟩;refine⟨_,_,_,ae g rfl,_,_,_,ae f rfl,PC.ok (CX (h.af (e.then P)) (i.af (e.then P))) ?_⟩;rintro _ u ⟨rfl,o⟩;exact⟨_,rfl,Ok.mk ⟨rfl,(e.then P).then o⟩⟩
def yX{C:List cR}(p:Row yl 120 w D a n C)(F:Row yl 120 w E b m C):YX 107 #[.slice a n c,.slice b m d] w (Ok λN w'=>N= .bool true/\ai w w'):=by
 have Y:=p.len;have Z:=F.len;have O:=p.dO;unfold aO at O;refine uo (al.dV (λg=>Zz oM g) (λ_=>?_));refine⟨λH i w'=>∃e:Nat,i=e/\e<=n/\H=n-e/\ai w w',⟨_,0,rfl,Qj _,rfl,aj.refl w⟩,?_⟩;rintro H i _ w1 ⟨e,rfl,hj,rfl,I⟩;refine al.dec (λh1 q Q=>?_) (λ_=>Ok.mk ⟨rfl,I⟩);have r:ai w q:=I.then Q.keep;obtain⟨h,j,k,es,rfl,R,_,S,J,s,t,u,rfl,T,_⟩:=(p.af r).vQ (i:=e) oM;obtain⟨l,o,a0,fs,rfl,U,_,K,L,v,x,y,rfl,V,_⟩:=(F.af r).vQ (i:=e) oM;rw[S]at K;cases K
 have W:∀P,P<10->q.cell? ⟨h,j+e*13+P,none⟩=(aD k.ev s t u)[P]? :=λP f=>(J P (show P<13 by omega)).trans (XW (show P<10 from f));have X:∀P,P<10->q.cell? ⟨l,o+e*13+P,none⟩=(aD k.ev v x y)[P]? :=λP f=>(L P (show P<13 by omega)).trans (XW (show P<10 from f));refine⟨h,j,rfl,oM,oM,bB (es:=aD k.ev s t u) (k:=10) (bf _ _ _ _) rfl (λP f=>by rw[Qx];exact W P f) ⟨l,o,rfl,oM,oM,bB (es:=aD k.ev v x y) (k:=10) (bf _ _ _ _) rfl (λP f=>by rw[Qx];exact X P f) (PC.ok (lK T V) ?_)⟩⟩;rintro _ M ⟨rfl,z⟩;have A:∀P,P<13->M.cell? ⟨h,j+e*13+P,none⟩=(ic k s t u)[P]? :=λP f=>(z.cell (a:=⟨h,j+e*13+P,none⟩) R id).trans (J P f);have B:∀P,P<13->M.cell? ⟨l,o+e*13+P,none⟩=(ic k v x y)[P]? :=λP f=>(z.cell (a:=⟨l,o+e*13+P,none⟩) U id).trans (L P f);refine⟨_,rfl,al.not (al.dec (λ_=>?_) (λg=>Zz rfl g))⟩;refine⟨h,j,rfl,oM,oM,_,A 10 dC,l,o,rfl,oM,oM,_,B 10 dC,al.not (al.mk (λ_=>?_) (λg=>by simp at g))⟩;refine⟨h,j,rfl,oM,oM,_,_,A 11 dC,A 12 dC,l,o,rfl,oM,oM,_,_,B 11 dC,B 12 dC,_,λw'=>PY,al.mk (λg=>by simp at g) (λ_=>?_)⟩;exact⟨_,oM,e+1,an oM,oM,rfl,r.then z⟩
def Gb(g:Row Hh 24 w D a n g2)(l:Row Hh 24 w E b m g2):YX 108 #[.slice a n c,.slice b m d] w (Ok λq w'=>q= .bool true/\ai w w'):=by
 have B:=g.len;have C:=l.len;have r:=g.dO;unfold aO at r;refine Aw (al.dV (λh=>Zz oM h) (λ_=>?_));refine⟨λo i w'=>∃P:Nat,i=P/\P<=n/\o=n-P/\ai w w',⟨_,0,rfl,Qj _,rfl,aj.refl w⟩,?_⟩;rintro o i _ F ⟨P,rfl,H,rfl,f⟩;refine al.dec (λI=>?_) (λ_=>Ok.mk ⟨rfl,f⟩);obtain⟨s,t,e,J,rfl,K,_,u,v,rfl,_⟩:=(g.af f).vQ (i:=P) oM;obtain⟨x,y,L,M,rfl,N,_,p,z,rfl,_⟩:=(l.af f).vQ (i:=P) oM;rw[u]at p;cases p
 refine⟨s,t,rfl,oM,oM,bB (es:=bq e) (k:=3) (NH e) rfl (λj k=>by rw[Qx];exact v j k) ⟨x,y,rfl,oM,oM,bB (es:=bq e) (k:=3) (NH e) rfl (λj k=>by rw[Qx];exact z j k) ⟨false,λm=>Up e _,λO A=>al.mk (λh=>by cases h) λ_=>?_⟩⟩⟩;exact⟨_,oM,P+1,an oM,oM,rfl,f.then A.keep⟩
def Bg{l m:World}(n:iS l e6 u w)(o:iS m e6 c0 w):YX 52 #[u,c0] w (Ok λc0 w'=>c0= .bool true/\ai w w'):=by
 obtain⟨A,B,C,E,F,H,I,J,K,G,rfl,p,q,r,L⟩:=n;obtain⟨M,tn,N,O,Q,R,S,T,U,V,rfl,s,t,v,W⟩:=o;refine wm (PA.mk λX x Y y=>PA.mk λz g Z b=>?_);have c:=g.get y id;have P:ai w z:=x.then g;refine⟨_,ae c rfl,_,ae b rfl,al.eD (λ_=>?_) (λe=>Zz rfl e)⟩;refine⟨_,_,ae c rfl,ae c rfl,_,_,ae b rfl,ae b rfl,aG.mk EM ⟨_,rfl,al.mk (λ_=>?_) (λe=>by simp at e)⟩⟩;refine⟨_,_,_,_,ae c rfl,ae c rfl,_,_,_,_,ae b rfl,ae b rfl,PC.ok (CY (s:=e6.st) (p.af P) (s.af P)) ?_⟩;rintro _ w5 ⟨rfl,a⟩;have h:=a.get c id;have i:=a.get b id;refine⟨_,rfl,al.tt rfl ⟨_,_,_,ae h rfl,_,_,_,ae i rfl,PC.ok (yX (q.af (P.then a)) (t.af (P.then a))) ?_⟩⟩;rintro _ w6 ⟨rfl,d⟩;have j:=d.get h id;have k:=d.get i id;refine⟨_,rfl,al.tt rfl ⟨_,_,_,ae j rfl,_,_,_,ae k rfl,PC.ok (Gb (r.af ((P.then a).then d)) (v.af ((P.then a).then d))) ?_⟩⟩;rintro _ w7 ⟨rfl,f⟩;exact⟨_,rfl,al.tt rfl ⟨_,ae (f.get j id) rfl,_,ae (f.get k id) rfl,Ok.mk ⟨sM,((P.then a).then d).then f⟩⟩⟩
end
section
variable {w w':World} {D E:ZN} {a b:YQ} {n m c:Nat}
def CZ(h:Row fU 32 w D a n b6.bz):YX 77 #[.agg (dL b6 a n c).toArray] w (Ok λH w'=>∃p v q e,H= .agg (dL b6 p v q).toArray/\aU fU 125 e w' p v q b6.bz/\ai w w'/\∀b,e b->w.heap.size<=b):=by
 have Y:=h.len;have P:=h.dO;unfold aO at P;refine yA (PA.mk λy I Z J=>PA.mk λr z s7 K=>?_);have L:=z.get J id;have A:=I.then z;refine⟨λB k d l i w'=>i=(d:Int)/\d<=n/\B=n-d/\∃e,aU fU 125 e w' k d l (b6.bz.take d)/\ai r w'/\∀b,e b->r.heap.size<=b,
  ⟨_,rfl,Qj _,rfl,λ_=>False,by simpa using aU.nil r,aj.refl _,λ_ h=>h.elim⟩,?_⟩
 rintro B k d l i _ w1 ⟨rfl,hj,rfl,e,m,f,g⟩;have s:=f.get L id;have C:=A.then f;have E:(b6.bz.take d).length=d:=by simp;omega
 refine⟨_,_,_,ae s rfl,al.dec (λM=>?_) (λM=>?_)⟩
 ·obtain⟨b,t,x,es,rfl,_,_,N,o,rfl,O⟩:=(h.af C).vQ (i:=d) oM
  refine⟨_,_,_,ae s rfl,b,t,rfl,oM,oM,_,_,_,_,o 0 dC,o 1 dC,o 2 dC,o 3 dC,Hf m KI (x:=x) (D:=λ_=>False) ⟨rfl,O⟩ (λ_ h=>h.elim) (by rw[E];unfold aO;omega) (by rw[E];unfold maxLen;omega) λp q Q R S T U _=>?_⟩;refine⟨_,_,_,rfl,n-(d+1),oM,an oM,oM,rfl,R,?_,f.new T λb P=>.inr (g b (m.self b P)),?_⟩
  ·rw[Qw,N];exact S
  ·intro b P
   have:=f.size;rcases U b P with h|h|h
   ·exact g b h
   ·exact h.elim
   ·omega
 ·obtain rfl:d=n:=oM
  rw[Qz oM]at m;have V:=f.get K id;refine PS.mk s sM λw2 u s2 W=>ar (cs:=dL b6 k d l) (fl _ _ _ _) W (aC (fl _ _ _ _) (u.get V oM) rfl λQ F s3 X=>ar (fl _ _ _ _) X (Ok.mk ⟨k,d,l,e,rfl,?_,?_,λb P=>by have:=g b P;have:=A.size;omega⟩))
  ·exact(m.keep u λb P j=>by have j:b=w.heap.size:=j;have:=g b P;omega).keep F λb P j=>by have j:b=y.heap.size:=j;have:=g b P;omega
  ·exact(C.new u λb P=>.inr (by have P:b=w.heap.size:=P;omega)).new F λb P=>.inr (by have P:b=y.heap.size:=P;omega)
def Gc{tn tc W pc:Nat}(o:bj w D L d tn r W):
  YX 39 #[.agg #[.slice d tn tc,.slice r W pc]] w (Ok λe0 w'=>∃H zl a3 I J a7 G,e0= .agg #[.slice H zl a3,.slice I J a7]/\bj w' G L H zl I J/\(∀b,G b->w.heap.size<=b/\b<w'.heap.size)/\ai w w'):=by
 have g8:=o.aY.len;have b3:=o.aY.dO;have g9:=o.zJ.len;have b4:=o.zJ.dO;refine Aq (PA.mk λK k4 s4 g4=>PA.mk λh k5 s5 g5=>PA.mk λw6 k6 s6 g6=>?_);have b5:=k4.then k5;have d7:=b5.then k6;have gp:=k6.get (k5.get g4 id) id;have gr:=k6.get g5 id;have z6:=d7.size;refine⟨λm M w'=>∃f:Nat,M=f/\f<=tn/\m=tn-f/\aj (·=h.heap.size) w6 w'/\∃N O X Z,w'.heap[h.heap.size]? =some (.cells #[.slice N O X,.slice none 0 0] 25 (0,0))/\aU ks 130 Z w' N O X (L.types.take f)/\∀b,Z b->w6.heap.size<=b,
  ⟨_,0,rfl,Qj _,rfl,aj.refl _,none,0,0,λ_=>False,g6,aU.nil _,λ_ o=>o.elim⟩,?_⟩
 rintro m _ _ g ⟨f,rfl,hj,rfl,Q,N,O,X,Z,go,v,E⟩;have a4:ai w g:=d7.new Q λb P=>.inr (by have P:b=h.heap.size:=P;have:=b5.size;omega);have zk:=Q.size;have a0:=Q.get gp λc=>by have c:w.heap.size=h.heap.size:=c;omega
 refine⟨_,_,_,ae a0 rfl,al.dec (λj7=>?_) (λj8=>?_)⟩
 ·have h0:f<L.types.length:=oM
  have b6:L.types[f]? =some L.types[f]:=Qq h0;generalize L.types[f]=p at b6;obtain⟨b,A,es,ha,P,j9,e1,fa,fn,fc,rfl,b8⟩:=(o.aY.af a4).el f p b6;have c0:=e1 0 dC;have h2:ks.k=1:=rfl;rw[h2,Nat.mul_one]at c0;have h3:=b8.len;have b9:=b8.dO;refine PA.mk λk0 h4 k1 h6=>PS.mk h6 sM λa5 h7 k2 h8=>?_;have B:ai g a5:=h4.new h7 λb P=>.inr (by have P:b=g.heap.size:=P;omega);have e2:=B.get a0 id;have d9:=B.size;have e3:=a4.then B;refine⟨λm M w'=>∃k:Nat,M=k/\k<=fn/\m=fn-k/\aj (·=g.heap.size) a5 w'/\∃s t x u,w'.heap[g.heap.size]? =some (.cells #[.slice s t x] 130 (0,0))/\aU oU 123 u w' s t x (p.take k)/\∀b,u b->a5.heap.size<=b,
   ⟨_,0,rfl,Qj _,rfl,aj.refl _,none,0,0,λ_=>False,h8,aU.nil _,λ_ o=>o.elim⟩,?_⟩
  rintro m _ _ a6 ⟨k,rfl,hk,rfl,i,s,t,x,u,y,j,q⟩;have zx:=i.size;have e4:ai w a6:=e3.new i λb P=>.inr (by have P:b=g.heap.size:=P;have:=a4.size;omega);have b2:=i.get e2 λc=>by have c:w.heap.size=g.heap.size:=c;have:=aA a0;omega
  have b7:a6.cell? ⟨b,A+Int.toNat (f:Int),none⟩=some (.slice fa fn fc):=by
   rw[Qx];refine(i.cell (a:=⟨b,A+f,none⟩) (Qk P d9) λc=>by have c:b=g.heap.size:=c;omega).trans ((B.cell (a:=⟨b,A+f,none⟩) P id).trans ?_);exact c0
  refine⟨_,_,_,ae b2 rfl,b,A,ha,oM,oM,_,_,_,b7,al.dec (λe5=>?_) (λe6=>?_)⟩
  ·intro c1 h9
   have l:ai a6 c1:=h9.keep;have j6:=e4.then l;have e7:=l.get y id;have e8:=l.get b2 id;have f0:c1.cell? ⟨b,A+Int.toNat (f:Int),none⟩=some (.slice fa fn fc):=(l.cell (a:=⟨b,A+Int.toNat (f:Int),none⟩) (Qk (Qk P d9) zx) id).trans b7;have i0:k<p.length:=oM
   have c2:p[k]? =some p[k]:=Qq i0;generalize p[k]=F at c2;have f1:ai g c1:=(B.new i λb P=>.inr (by have P:b=g.heap.size:=P;omega)).then l;obtain⟨fb,fo,a8,rfl,-,-,c4,ya,yn,yc,rfl,c5,a9⟩:=(b8.af f1).el k F c2;have f3:=c5.len;have f5:=c5.dO;refine⟨λ_=>False,id,_,_,_,ae e7 rfl,_,_,_,ae e8 rfl,b,A,ha,oM,oM,_,_,_,f0,fb,fo,rfl,oM,oM,bB (es:=dL F ya yn yc) (k:=4) (fl _ _ _ _) rfl (λp ht=>by rw[Qx];exact c4 p ht) (PC.ok (CZ c5) ?_)⟩;rintro _ k3 ⟨a,n,cc,Fm,rfl,c6,e9,f2⟩;have f6:=c6.aE;refine⟨_,_,_,_,_,_,rfl,e9,PA.mk λf4 c7 k7 i1=>⟨c7,?_⟩⟩;have a1:ai a6 f4:=(l.then e9).then c7;have k8:=c6.len dC;have f7:Row fU 32 f4 Fm a n F.bz:=(c6.af c7).row dC (by rw[<-f3];exact f5);refine eJ (c:=oU) (x:=F) (j.af a1) PD i1 (D:=Fm) ⟨a,n,cc,rfl,f7,a9⟩ (λb P=>⟨by have:=f6 b P;omega,λc=>by have:=j.aE b (j.self b c);have:=f2 b P;have:=l.size;omega⟩) (by rw[Qy];unfold aO at*;omega) (by rw[Qy];unfold aO at b9;unfold maxLen;omega) λR S i2 z b0 C T=>⟨_,_,_,rfl,?_⟩
   have c9:¬aH s=some g.heap.size:=λc=>by have:=q _ (j.self _ c);omega
   have k9:=a1.size;have i3:=C.size;have zd:=l.size;have e:∀b,z b->a5.heap.size<=b:=λb P=>by
    rcases T b P with Y|Y|Y
    ·exact q b Y
    ·have:=f2 b Y;omega
    ·omega
   refine PS.mk (C.get (a1.get y id) c9) sM λi4 U i5 d0=>⟨_,oM,k+1,an (by unfold aO at b9;omega),oM,rfl,((i.af a1).new C λb P=>.inr (q b (j.self b P))).then U,R,t+1,S,z,d0,?_,e⟩
   rw[Qw,c2];exact b0.keep U λb P c=>by have c:b=g.heap.size:=c;have:=e b P;omega
  ·rw[Qz oM]at j
   have c3:=i.get (B.get go id) λc=>by have c:h.heap.size=g.heap.size:=c;have:=aA go;omega
   refine⟨_,_,_,ae c3 rfl,_,_,_,ae y rfl,PA.mk λi6 d1 l0 i7=>?_⟩;have b1:ai g i6:=(B.new i λb P=>.inr (by have P:b=g.heap.size:=P;omega)).then d1;refine eJ (c:=ks) (x:=p) (v.af b1) LR i7 (D:=u) ⟨s,t,x,rfl,(j.af d1).row dC (by rw[<-h3];exact b9)⟩ (λb P=>⟨by have:=j.aE b P;omega,λc=>by have:=v.aE b (v.self b c);have:=q b P;omega⟩) (by rw[Qy];unfold aO at*;omega) (by rw[Qy];unfold aO at b3;unfold maxLen;omega) λR S l3 z f8 d2 T=>⟨_,_,_,rfl,?_⟩
   have i8:¬aH N=some h.heap.size:=λc=>by have:=E _ (v.self _ c);omega
   have l4:=b1.size;have l5:=d2.size;have e:∀b,z b->w6.heap.size<=b:=λb P=>by
    rcases T b P with Y|Y|Y
    ·exact E b Y
    ·have:=q b Y;omega
    ·omega
   refine PS.mk (d2.get (d1.get c3 id) i8) sM λl6 c8 l7 i9=>⟨_,oM,f+1,an (by unfold aO at b3;omega),oM,rfl,((Q.af b1).new d2 λb P=>.inr (E b (v.self b P))).then c8,R,O+1,S,z,i9,?_,e⟩
   rw[Qw,b6];exact f8.keep c8 λb P c=>by have c:b=h.heap.size:=c;have:=e b P;omega
 ·rw[Qz oM]at v
  have f9:=v.aE;refine⟨λm M w'=>∃f:Nat,M=f/\f<=W/\m=W-f/\aj (·=h.heap.size) g w'/\∃s t x u,w'.heap[h.heap.size]? =some (.cells #[.slice N O X,.slice s t x] 25 (0,0))/\aU uY 128 u w' s t x (L.projs.take f)/\∀b,u b->g.heap.size<=b,
   ⟨_,0,rfl,Qj _,rfl,aj.refl _,none,0,0,λ_=>False,go,aU.nil _,λ_ o=>o.elim⟩,?_⟩
  rintro m _ _ d3 ⟨k,rfl,hk,rfl,i,s,t,x,u,y,j,q⟩;have zx:=i.size;have d4:ai w d3:=a4.new i λb P=>.inr (by have P:b=h.heap.size:=P;have:=b5.size;omega);have d8:=i.get a0 λc=>by have c:w.heap.size=h.heap.size:=c;omega
  refine⟨_,_,_,ae d8 rfl,al.dec (λe5=>?_) (λe6=>?_)⟩
  ·intro j0 j1
   have l:ai d3 j0:=j1.keep;have g0:=l.get y id;obtain⟨fb,fo,F,a8,rfl,-,-,j2,c4,rfl,a9⟩:=(o.zJ.af (d4.then l)).vQ (i:=k) oM;have V:=λp (ht:p<5)=>c4 p ht;refine⟨λ_=>False,id,_,_,_,ae g0 rfl,_,_,_,ae (l.get d8 id) rfl,fb,fo,rfl,oM,oM,_,_,_,_,_,V 0 dC,V 1 dC,V 2 dC,V 3 dC,V 4 dC,PA.mk λj3 g1 l8 j4=>⟨g1,?_⟩⟩;have a2:ai d3 j3:=l.then g1;refine eJ (c:=uY) (x:=F) (j.af a2) Kx j4 (D:=λ_=>False) ⟨rfl,a9⟩ (λb P=>P.elim) (by rw[Qy];unfold aO at*;omega) (by rw[Qy];unfold aO at b4;unfold maxLen;omega) λR S i2 z b0 C T=>⟨_,_,_,rfl,?_⟩
   have c9:¬aH s=some h.heap.size:=λc=>by have:=q _ (j.self _ c);omega
   have l9:=a2.size;have i3:=C.size;have zd:=l.size;have e:∀b,z b->g.heap.size<=b:=λb P=>by
    rcases T b P with Y|Y|Y
    ·exact q b Y
    ·exact Y.elim
    ·omega
   refine PS.mk (C.get (a2.get y id) c9) sM λi4 U i5 d0=>⟨_,oM,k+1,an (by unfold aO at b4;omega),oM,rfl,((i.af a2).new C λb P=>.inr (q b (j.self b P))).then U,R,t+1,S,z,d0,?_,e⟩
   rw[Qw,j2];exact b0.keep U λb P c=>by have c:b=h.heap.size:=c;have:=e b P;omega
  ·rw[Qz oM]at j
   have g2:=j.aE;have g3:=i.get (Q.get gr λc=>by have c:K.heap.size=h.heap.size:=c;omega) λc=>by have c:K.heap.size=h.heap.size:=c;omega
   have h1:=v.keep i λb P c=>by have c:b=h.heap.size:=c;have:=E b P;omega
   refine⟨_,_,_,_,_,_,ae y rfl,ae y rfl,PS.mk g3 sM λm0 d5 m1 j5=>PS.mk j5 sM λm2 d6 m3 g7=>⟨_,_,_,_,_,_,ae g7 rfl,ae g7 rfl,Ok.mk ⟨_,_,_,_,_,_,λb=>Z b\/u b,rfl,⟨?_,?_⟩,?_,?_⟩⟩⟩
   ·exact(((h1.row (bytes:=24) dC (by rw[<-g8];exact b3)).keep (d5.then d6) λb P c=>by have c:b=K.heap.size:=c;have:=E b P;omega)).mono λb P=>.inl P
   ·exact(((j.row (bytes:=40) dC (by rw[<-g9];exact b4)).keep (d5.then d6) λb P c=>by have c:b=K.heap.size:=c;have:=q b P;omega)).mono λb P=>.inr P
   ·have z4:=k4.size
    rintro b (P|P)
    ·have:=E b P;have:=f9 b P;omega
    ·have:=q b P;have:=g2 b P;omega
   ·exact d4.new (d5.then d6) λb P=>.inr (by have P:b=K.heap.size:=P;have:=k4.size;omega)
def Gf{c:cN}{tn t p u:Nat}(v:bj w D c.decl d tn r p):
  YX 12 #[od c d tn t r p u] w (Ok λx w'=>∃P zl f a e g G,x=od c P zl f a e g/\bj w' G c.decl P zl a e/\(∀b,G b->w.heap.size<=b/\b<w'.heap.size)/\ai w w'):=by
 refine Am (PA.mk λk q I y=>PA.mk λJ l K z=>?_);have m:=l.get y id;refine⟨_,_,_,_,_,_,ae m rfl,ae m rfl,PC.ok (Gc (v.af (q.then l))) ?_⟩;rintro _ L ⟨P,zl,f,a,e,g,G,rfl,A,n,j⟩;have M:=j.size;refine⟨_,_,_,_,_,_,rfl,PS.mk (j.get m id) sM λN B O C=>PS.mk C sM λQ E R F=>?_⟩;have o:=B.then E;refine ar (su c P zl f a e g) F (aC (su c P zl f a e g) (o.get (j.get z id) λi=>by have i:k.heap.size=w.heap.size:=i;omega) rfl λS s T H=>ar (su c P zl f a e g) H (Ok.mk ⟨_,_,_,_,_,_,G,rfl,?_,λb h=>?_,?_⟩))
 ·exact(A.keep o λb h i=>by have i:b=w.heap.size:=i;have:=n b h;omega).keep s λb h i=>by have i:b=k.heap.size:=i;have:=n b h;omega
 ·have:=n b h;omega
 ·exact(((q.then l).then j).new o λb h=>.inr (by have h:b=w.heap.size:=h;omega)).new s λb h=>.inr (by have h:b=k.heap.size:=h;omega)
end
structure Bh where
 kind:Int
 n:Int
 now:Int
 cmd:lf
 m:dd
section
variable (c:cN) (self:Int)
def D_(a:bM)(P:Bh):Int×bM:=
 if P.kind=0 then((eh c self a P.cmd).1,(eh c self a P.cmd).2.2)else
 if P.kind=1 then(0,(gl c self a P.n (pick P.now 4611686018427387904)).2)else
 if P.kind=2 then(cg c self a P.m).2 else
 if P.kind=3 then(0,(Ja self a (pick P.now 4611686018427387904)).2)else
 if P.kind=4 then ix c a P.n else
 if P.kind=5 then(0,{a with D:=a.D.Kq P.n})else
 if P.kind=6 then d_ c a else(0,a)
end
structure jz (X Y:bM):Prop where
 evs:Y.S.l.length<=X.S.l.length+300\/Y.S.l.length<=16777216
 asked:Y.fV.asked.length<=X.fV.asked.length+1
def jz.refl(P:bM):jz P P:=⟨.inl oM,oM⟩
def Jc{P a:Type}[BEq P][LawfulBEq P](b:P)(c:a):∀(d:List (P×a)),(aI d b c).length<=d.length+1
 |[]=>by simp[aI]
 |(f,g)::e=>by
  unfold aI;split
  ·simp
  ·have:=Jc b c e
   simp;omega
def Ez{a d:Type}[BEq a][LawfulBEq a](P:a)(e:d):∀(c:List (a×d)),P∈c.map (·.1)->(aI c P e).map (·.1)=c.map (·.1)
 |[],h=>by simp at h
 |(g,j)::f,h=>by
  unfold aI
  by_cases b:(P==g)=true
  ·rw[Zx b]
   have:=eq_of_beq b;subst this;rfl
  ·rw[Zq b]
   have i:P∈f.map (·.1):=by
    rcases Q2.1 h with h|h
    ·exact Zz (by rw[h];simp) b
    ·exact h
   simp[Ez P e f i]
def Jd{P c:Type}[BEq P][LawfulBEq P](a:P):∀(b:List (P×c)),(bL b a).length<=b.length
 |[]=>by simp[bL]
 |(e,f)::d=>by
  unfold bL;split
  ·simp
  ·have:=Jd a d
   simp;omega
def GF(c P:Int)(a:List Int×List (Int×Int))(b:Int)(d:b∈a.2.map (·.1)):(fS c P a b).2.map (·.1)=a.2.map (·.1):=by
 unfold fS;split
 ·exact Ez _ _ _ d
 ·rfl
def vJ(c P:Int):∀(b:List Int) (a:List Int×List (Int×Int)),(∀x∈b,x∈a.2.map (·.1))->(b.foldl (fS c P) a).2.map (·.1)=a.2.map (·.1)
 |[],a,_=>rfl
 |x::b,a,d=>by
  have e:=GF c P a x (d x (QV ..));rw[List.foldl_cons,vJ c P b _ λf g=>by rw[e];exact d f (QJ _ g),e]
def jG.QT(P:jG)(a:Int):(P.QS a).asked.length=P.asked.length:=by
 have c:=vJ P.df a (P.open.take P.open.length) ([],P.asked) λd b=>by
  have b:=List.mem_of_mem_take b;unfold jG.open at b;exact(List.mergeSort_perm _ _).mem_iff.1 b
 have:=Zj List.length c;rw[Q8,Q8]at this;exact this
def rq(P:Nat):∀(c:List ah) (d:au) (a b:List ah),(gj P c d a b).2.1.length+(gj P c d a b).2.2.length<=a.length+b.length+c.length
 |[],d,a,b=>by simp[gj]
 |e::c,d,a,b=>by
  unfold gj;split
  ·have:=rq P c (d.add e).2 (a++[e]) b
   simp at this⊢;omega
  split
  ·have:=rq P c d a b
   simp;omega
  ·have:=rq P c d a (eN P b e).2
   have:=BW P b e;simp;omega
def qQ:∀(a:List ah) (b:au) (P:List ah),(eA a b P).2.length<=P.length+a.length
 |[],b,P=>by simp[eA]
 |e::a,b,P=>by
  unfold eA;split
  ·have:=qQ a (b.add e).2 (P++[e])
   simp at this⊢;omega
  ·have:=qQ a (b.add e).2 P
   simp;omega
def EA:∀(k:Nat) (a:au) (P b:List ah),(oJ k a P b).1.length<=P.length+b.length
 |0,a,P,b=>by simp[oJ]
 |k+1,a,P,b=>by
  unfold oJ;have c:=vI a b;dsimp only;split
  ·simp
  ·have d:=qQ (bH a b).1 a P
   have e:=EA k (eA (bH a b).1 a P).1 (eA (bH a b).1 a P).2 (bH a b).2;omega
def Bs(a:cN)(P:bM)(b:List ah):(iy a P b).1.length<=P.waits.length+b.length:=by
 have c:=rq a.buffer.toNat b (eQ a P.S []) [] P.waits;have d:=EA ((gj a.buffer.toNat b (eQ a P.S []) [] P.waits).2.2.length+1) (gj a.buffer.toNat b (eQ a P.S []) [] P.waits).1 (gj a.buffer.toNat b (eQ a P.S []) [] P.waits).2.1 (gj a.buffer.toNat b (eQ a P.S []) [] P.waits).2.2;simp at c;unfold iy;dsimp only;omega
def Oo(b:cN)(P:au)(a:List ah):(eQ b P a).l.length<=P.l.length+a.length:=by
 have:=au.mC (P.l++a) ⟨b.bW.toNat,[]⟩;unfold eQ;simp at this⊢;omega
def EB(b:cN)(P:bM)(a:List ah):(dt b P a).2.S.l.length<=P.S.l.length+a.length/\(dt b P a).2.fV=P.fV:=by
 unfold dt
 cases P.log with
 |none=>exact⟨by dsimp only;omega,rfl⟩
 |some c=>
  dsimp only;split
  ·exact⟨by dsimp only;omega,rfl⟩
  split
  ·exact⟨by dsimp only;omega,rfl⟩
  ·exact⟨Oo b P.S a,rfl⟩
def Bl(b:cN)(a:Int)(P:bM)(c:lf):jz P (eh b a P c).2.2:=by
 unfold eh
 cases P.log with
 |none=>exact jz.refl P
 |some d=>
  dsimp only;split
  ·exact jz.refl P
  split
  ·have:=EB b P [(lD b.decl P.S (cD b.decl P.S.l) a b.start c).1]
   simp at this;split
   ·exact⟨.inl be,by dsimp only;rw[this.2];omega⟩
   ·exact⟨.inl be,by dsimp only;rw[this.2];omega⟩
  ·exact jz.refl P
def l_(c:cN)(d:Int)(P:bM)(a:dd)(j:P.waits.length<=256)(k:c.chunk<=32):jz P (cg c d P a).2.2:=by
 unfold cg
 cases P.log with
 |none=>exact jz.refl P
 |some l=>
  dsimp only;split
  ·exact jz.refl P
  rename_i h;split
  ·exact jz.refl P
  split
  ·rename_i i
   have m:a.events.length<=32:=by
    rcases Nat.lt_or_ge 32 a.events.length with g|g
    ·exfalso
     apply h;unfold eR;rw[Zx i];intro b;split at b
     ·cases b
     ·unfold eS at b
      split at b
      ·cases b
      ·rw[Zx (.inr oM)]at b;cases b
    ·exact g
   unfold mf;have n:=Bs c P a.events;dsimp only;split
   ·exact⟨.inl be,by dsimp only;omega⟩
   ·have e:=EB c {P with waits:=(iy c P a.events).2} (iy c P a.events).1
    dsimp only at e;split
    ·exact⟨.inl be,by dsimp only;rw[e.2];omega⟩
    ·exact⟨.inl be,by dsimp only;rw[e.2];omega⟩
  ·have f:(P.fV.za a.bU a.vec P.S.vec).asked.length<=P.fV.asked.length+1:=by
    unfold jG.za;dsimp only;split
    ·have:=Jd a.bU P.fV.asked;omega
    ·omega
   split
   ·exact⟨.inl be,f⟩
   split
   ·exact⟨.inl be,f⟩
   ·exact⟨.inl be,f⟩
def Bm(d:cN)(P:Int)(b:bM)(a c:Int):jz b (gl d P b a c).2:=by
 unfold gl;split
 ·exact jz.refl b
 ·exact⟨.inl be,Jc _ _ _⟩
def KN(P:Int)(b:bM)(a:Int):jz b (Ja P b a).2:=by
 unfold Ja;exact⟨.inl be,by dsimp only;rw[jG.QT];omega⟩
def xD(a:cN)(P:bM):(fq a P).2.fV=P.fV:=by
 unfold fq;dsimp only;split<;>rfl
def C_(a:cN)(P:bM):jz P (d_ a P).2:=by
 unfold d_
 cases P.log with
 |none=>exact jz.refl P
 |some b=>
  dsimp only;split
  ·exact⟨.inl be,by dsimp only;omega⟩
  ·exact⟨.inl be,by dsimp only;omega⟩
structure Bh.Ok (x:Bh):Prop where
 kind:aN x.kind
 n:aN x.n
 now:aN x.now
 cmd:x.cmd.Ok
def nd(P:Bh)(a:YQ)(b c:Nat)(d:YQ)(e f:Nat):List Value:=[ZH P.kind,ZH P.n,ZH P.now]++ij P.cmd++bZ P.m a b c d e f
abbrev Uq(P:Bh)(a:YQ)(b c:Nat)(d:YQ)(e f:Nat):Value:=.agg (nd P a b c d e f).toArray
def TA(P:Bh)(a:YQ)(b c:Nat)(d:YQ)(e f:Nat):iI ZP 67 (nd P a b c d e f)=true:=kR
def H_(P:tP)(a:YQ)(b c:Nat)(d:YQ)(e f:Nat)(g:YQ)(h i:Nat):RG (fD ZP 46) (.agg (ng P a b c d e f g h i).toArray)=true:=kR
def PZ(P:cN)(a:YQ)(tn b:Nat)(c:YQ)(d e:Nat):RG (fD ZP 29) (od P a tn b c d e)=true:=kR
def Sp:jU Bh where
 k:=15
 rep:=λm D h cs=>∃P a d b c e,cs=nd h P a d b c e/\Row aM 8 m D P a h.m.vec/\Row ia 96 m D b c h.m.events/\h.Ok
 keep:=λ⟨P,a,d,b,c,e,f,i,j,k⟩ n g=>⟨P,a,d,b,c,e,f,i.keep n g,j.keep n g,k⟩
 mono:=λ⟨P,a,d,b,c,e,f,i,j,k⟩ g=>⟨P,a,d,b,c,e,f,i.mono g,j.mono g,k⟩
 len:=λ⟨P,a,d,b,c,e,f,_⟩=>by rw[f];rfl
 one:=λ⟨P,a,d,b,c,e,f,_⟩ o l=>by
  rw[f]at l;simp only[nd,ij,bZ,List.cons_append,List.nil_append,Q2,List.not_mem_nil,or_false]at l;rcases l with rfl|rfl|rfl|rfl|rfl|rfl|rfl|rfl|rfl|rfl|rfl|rfl|rfl|rfl|rfl<;>rfl
def Mi{es:List Value}(f:iI h g es=true)(i:b.heap[a]? =some (.cells p n C))(j:∀P,P<es.length->p[c+P]? =es[P]?)(k:T (.agg es.toArray)):oW h g (.pointer (some ⟨a,c,none⟩)) b T:=
 bB f rfl (λP d=>by
  have e:=j P d;rw[Qq d]at e⊢;exact ae i e) k
variable{g5:List Bh}
section
variable {w w' w0 w1 w2:World} {p:Nat} {F E D Dv:ZN} {c:cN} {self:Int} {X:bM} {va ea:YQ} {vn vc en ec:Nat}
def Ia:YX 56 #[ZH e] w (Ok λP w'=>P= ZH (pick e 4611686018427387904)/\w=w'):=by
 refine JX (PC.ok (P_ bb) ?_);rintro _ _ ⟨rfl,rfl⟩;exact⟨_,rfl,Ok.mk ⟨rfl,rfl⟩⟩
def KJ(i:Row aM 8 w D va vn d8.vec)(e:Row ia 96 w E ea en d8.events):
  YX 27 #[jO d8 va vn vc ea en ec] w (Ok λf w'=>(∃c:Bool,f= .bool c/\(c=false->∀P∈d8.events,P.aJ.length<=100))/\ai w w'):=by
 refine Fz (PA.mk λw1 a j d=>⟨_,_,_,ae d rfl,al.dec (λ_=>Ok.mk ⟨⟨_,rfl,sM⟩,a⟩) (λ_=>⟨_,_,_,ae d rfl,PC.ok (KK (e.af a)) ?_⟩)⟩);rintro _ _ ⟨rfl,rfl⟩;refine⟨_,rfl,Ok.mk ⟨⟨_,rfl,λb P g=>?_⟩,a⟩⟩;have b:=Xy b;exact Nat.le_of_not_lt λh=>b (.inl ⟨P,g,h⟩)
def KL{tn n k o:Nat}(h:bj w D L d tn r k):YX 28 #[.agg #[.slice d tn n,.slice r k o]] w (Ok λp w'=>(∃e:Bool,p= .bool e)/\ai w w'):=by
 have A:=h.aY.len;have q:=h.aY.dO;unfold aO at q;refine FA (PA.mk λw1 P B a=>⟨_,_,_,ae a rfl,al.dec (λ_=>Ok.mk ⟨⟨_,rfl⟩,P⟩) (λ_=>⟨_,_,_,ae a rfl,al.dec (λ_=>Ok.mk ⟨⟨_,rfl⟩,P⟩) (λ_=>?_)⟩)⟩);refine⟨λf i w'=>∃b:Nat,i=b/\b<=tn/\f=tn-b/\w1=w',⟨_,0,rfl,Qj _,rfl,rfl⟩,?_⟩;rintro f _ _ _ ⟨b,rfl,C,rfl,rfl⟩;refine⟨_,_,_,ae a rfl,al.dec (λE=>?_) (λ_=>Ok.mk ⟨⟨_,rfl⟩,P⟩)⟩;obtain⟨e,j,F,H,rfl,I,-,J,s,K,l,M,rfl,m⟩:=(h.aY.af P).vQ (i:=b) oM;have g:=s 0 dC;have t:ks.k=1:=rfl;rw[t,Nat.mul_one]at g;have u:=m.dO;unfold aO at u;refine⟨_,_,_,ae a rfl,e,j,rfl,oM,oM,_,_,_,g,al.dec (λ_=>Ok.mk ⟨⟨_,rfl⟩,P⟩) (λ_=>?_)⟩;refine⟨λf i w'=>∃c:Nat,i=c/\c<=l/\f=l-c/\w1=w',⟨_,0,rfl,Qj _,rfl,rfl⟩,?_⟩;rintro f _ _ _ ⟨c,rfl,N,rfl,rfl⟩;refine⟨_,_,_,ae a rfl,e,j,rfl,oM,oM,_,_,_,g,al.dec (λO=>?_) (λ_=>⟨_,oM,b+1,an oM,oM,rfl,rfl⟩)⟩;obtain⟨v,x,Q,y,rfl,-,-,R,z,S,T,U,rfl,-,-⟩:=m.vQ (i:=c) oM;exact⟨_,_,_,ae a rfl,e,j,rfl,oM,oM,_,_,_,g,v,x,rfl,oM,oM,_,_,_,z 3 dC,al.dec (λ_=>Ok.mk ⟨⟨_,rfl⟩,P⟩) (λ_=>⟨_,oM,c+1,an oM,oM,rfl,rfl⟩)⟩
def KM{tn v q x l y:Nat}(z:bj w D c.decl d tn r q)(n:Row Sp 152 w E c7 l g5):
  YX 9 #[od c d tn v r q x,.slice c7 l y] w (Ok λA w'=>(∃f:Bool,A= .bool f/\(f=false->g5.length<=100/\∀b∈g5,∀h∈b.m.events,h.aJ.length<=100))/\ai w w'):=by
 have T:=n.len;have B:=n.dO;unfold aO at B;refine Fw (PA.mk λw1 m U C=>?_);refine⟨λo w'=>ai w1 w'/\(g5.length<=100->∀b∈g5,∀h∈b.m.events,h.aJ.length<=100),⟨λs o a w'=>∃P:Nat,a=P/\P<=l/\s=l-P/\ai w1 w'/\∀b∈g5.take P,∀h∈b.m.events,h.aJ.length<=100,⟨_,0,rfl,Qj _,rfl,aj.refl _,sM⟩,?_⟩,?_⟩
 ·rintro s o _ _ w2 ⟨P,rfl,V,rfl,i,j⟩
  refine al.dec (λW=>al.dec (λF=>?_) (λF=>⟨i,λH=>oM⟩)) (λX=>⟨i,λ_=>by rw[Qz oM]at j;exact j⟩);obtain⟨f,k,I,Y,rfl,J,-,K,t,va,vn,vc,ea,en,ec,rfl,L,M,-⟩:=(n.af (m.then i)).vQ (i:=P) oM;refine⟨f,k,rfl,oM,oM,bB (es:=bZ I.m va vn vc ea en ec) (k:=5) (jy _ _ _ _ _ _ _) rfl (λa Z=>by
   rw[Qx];have:=t (10+a) (show 10+a<15 by omega);rw[show k+P*15+10+a=k+P*Sp.k+(10+a) by show _=k+P*15+_;omega,this];rcases a with _|_|_|_|_|a<;>first|rfl|omega) (PC.ok (KJ L M) ?_)⟩
  rintro _ N ⟨⟨O,rfl,Q⟩,e⟩;refine⟨_,rfl,al.mk (λ_=>Ok.mk ⟨⟨_,rfl,sM⟩,(m.then i).then e⟩) (λR=>?_)⟩;refine⟨f,k,rfl,oM,oM,_,_,_,(e.cell (a:=⟨f,_,none⟩) J id).trans (by rw[Qx];exact t 14 dC),_,oM,P+1,an oM,oM,rfl,i.then e,?_⟩;rw[Qw,K];intro b g;rcases Q6.1 g with g|g
  ·exact j b g
  ·simp at g;subst g;exact Q R
 ·rintro o _ N ⟨e,j⟩
  have u:=e.get C id;refine⟨_,_,_,_,_,_,ae u rfl,ae u rfl,PC.ok (KL (z.af (m.then e))) ?_⟩;rintro _ w4 ⟨⟨O,rfl⟩,S⟩;have p:=(m.then e).then S;refine⟨_,rfl,al.mk (λ_=>Ok.mk ⟨⟨_,rfl,sM⟩,p⟩) (λ_=>al.dec (λ_=>Ok.mk ⟨⟨_,rfl,sM⟩,p⟩) (λH=>Ok.mk ⟨⟨_,rfl,λ_=>⟨oM,j oM⟩⟩,p⟩))⟩
def Ib(q:Row aM 8 w D va vn d8.vec)(r:Row ia 96 w E ea en d8.events)(I:∀b∈d8.events,b.aJ.length<=100):
  YX 57 #[jO d8 va vn vc ea en ec] w (Ok λJ w'=>∃c d s e f t G,J=jO d8 c d s e f t/\Row aM 8 w' G c d d8.vec/\Row ia 96 w' G e f d8.events/\(∀P,G P->w.heap.size<=P/\P<w'.heap.size)/\ai w w'):=by
 have K:=q.len;have L:=q.dO;have M:=r.len;have N:=r.dO;refine CC (PA.mk λw1 O Z Q=>PA.mk λw2 y s2 R=>?_);have z:=O.then y;have A:=y.get Q id;refine⟨_,_,_,ae A rfl,PC.ok (sv (q.af z)) ?_⟩;rintro _ w3 ⟨h,i,j,S,rfl,B,k,l⟩;have z3:=k.size;have T:=B.aE;refine⟨_,_,_,rfl,PS.mk (k.get A id) (by simp[bZ]) λU u s4 C=>⟨_,_,_,ae C rfl,?_⟩⟩;have F:ai w U:=(z.then k).new u λP a=>.inr (by have a:P=w.heap.size:=a;omega);refine PC.ok (Bi (r.af F) I) ?_;rintro _ w5 ⟨m,n,o,V,rfl,H,g,v⟩;have z5:=g.size;have W:=H.aE;refine⟨_,_,_,rfl,PS.mk (g.get C id) (by simp[bZ]) λw6 p s6 X=>ar (jy d8 h i j m n o) X (aC (jy d8 h i j m n o) (p.get (g.get (u.get (k.get R id) oM) id) oM) rfl λw7 x s7 Y=>ar (jy d8 h i j m n o) Y (Ok.mk ⟨h,i,j,m,n,o,λP=>S P\/V P,rfl,?_,?_,?_,?_⟩))⟩
 ·refine Row.mono ?_ λP a=>Or.inl a
  exact((((B.keep u λP a b=>by have b:P=w.heap.size:=b;have:=l P a;omega).af g).keep p λP a b=>by have b:P=w.heap.size:=b;have:=l P a;omega).keep x λP a b=>by have b:P=w1.heap.size:=b;have:=l P a;omega).row dC (by rw[<-K];exact L)
 ·refine Row.mono ?_ λP a=>Or.inr a
  exact qq.row (((H.keep p λP a b=>by have b:P=w.heap.size:=b;have:=v P a;omega).keep x λP a b=>by have b:P=w1.heap.size:=b;have:=v P a;omega).row dC (by rw[<-M];exact N))
 ·rintro P (a|a)
  ·have:=l P a;have:=T P a;omega
  ·have:=v P a;have:=W P a;omega
 ·exact(((F.then g).new p λP a=>.inr (by have a:P=w.heap.size:=a;omega)).new x λP a=>.inr (by have a:P=w1.heap.size:=a;omega))
def bN.waits(d:bN w p F c self X):X.waits.length<=256:=by
 obtain⟨g,e,P,f⟩:=d;obtain⟨h,D,a,-,-⟩:=(show NI w (λb=>F b/\P b=5) e.wp c.buffer.toNat X.waits from f.at' 5)
 exact Xx a.1.2.le a.1.1
def bN.ok(P:bN w p F c self X):nh c self:=P.1
def cQ.after(P:ai w w1)(a:cQ F w1 f w2):cQ F w f w2:=⟨(ai.keep P).then a.keep,λb c=>(a.new b c).imp id λd=>by have:=P.size;omega⟩
def Bj(m:bN w p F c self X)(Q:Env w0 w F){a:Bh}(n:a.Ok)(R:Row aM 8 w Dv va vn a.m.vec)(S:Row ia 96 w E ea en a.m.events)(T:∀U∈a.m.events,U.aJ.length<=100)(B:X.S.l.length<=18000000)(V:X.fV.asked.length<=1000):
  YX 20 #[ZL p,Uq a va vn vc ea en ec] w (Ok λW w'=>∃P,W= ZH (D_ c self X a).1/\bN w' p P c self (D_ c self X a).2/\cQ F w P w'/\jz X (D_ c self X a).2):=by
 have C:=m.aE;have Y:=m.waits;have Z:=m.ok.Bk;refine Fy (PA.mk λw1 b s1 h=>⟨_,ae h rfl,?_⟩);have f:=m.af b;have o:=Q.af b;unfold D_;refine al.eD (λr=>?_) (λr=>?_)
 ·rw[Zx r]
  refine Mi (es:=ij a.cmd) (DF a.cmd) h (λj s=>by rcases j with _|_|_|_|_|_|_|j<;>first|rfl|exact Zz s (by simp[ij])) (PC.ok (xC f o n.cmd oM) ?_);rintro _ w2 ⟨P,⟨sa,sn,sc,xa,xn,xc,ra,rn,rc,G,rfl,-,-,-,-⟩,a2,a0⟩;refine⟨_,_,_,_,_,_,_,_,_,_,_,_,_,_,rfl,Ok.mk ⟨P,?_,a2,cQ.after b a0,Bl c self X a.cmd⟩⟩
  by_cases k:(eh c self X a.cmd).1≠0
  ·rw[Zx k]
  ·rw[Zq k];have k:(eh c self X a.cmd).1=0:=Classical.not_not.1 k;rw[k]
 rw[Zq r];refine al.eD (λt=>?_) (λt=>?_)
 ·rw[Zx t]
  intro w2 d2;have i:ai w1 w2:=d2.keep;have H:=i.get h id;refine⟨F,λu=>by have:=C _ u;omega,_,ae H rfl,_,ae H rfl,PC.ok Ia ?_⟩;rintro _ _ ⟨rfl,rfl⟩;refine⟨_,rfl,aj.refl _,PC.ok (vf (f.af i) n.n) ?_⟩;rintro _ l ⟨P,⟨I,J,K,L,M,rfl,-⟩,e,d⟩;exact⟨_,_,_,rfl,d.keep,Ok.mk ⟨P,rfl,e,cQ.after (b.then i) d,Bm c self X _ _⟩⟩
 rw[Zq t];refine al.eD (λv=>?_) (λv=>?_)
 ·rw[Zx v]
  refine Mi (es:=bZ a.m va vn vc ea en ec) (jy _ _ _ _ _ _ _) h (λj s=>by rcases j with _|_|_|_|_|j<;>first|rfl|exact Zz s (by simp[bZ])) (PC.ok (Ib (R.af b) (S.af b) T) ?_);rintro _ w2 ⟨a1,a3,a4,a5,a6,a7,G,rfl,a8,a9,N,i⟩;have z1:=b.size;have O:∀g,G g->g<w2.heap.size/\¬F g:=λg q=>⟨(N g q).2,λu=>by have:=C g u;have:=N g q;omega⟩
  refine cm (Vt _ _ _ _ _ _ _) ⟨rfl,PC.ok (qz (f.af i) (o.af i) a8 O a9 O B) ?_⟩;rintro _ l ⟨v1,P,rfl,⟨I,J,K,L,M,rfl,-⟩,e,d⟩;exact⟨_,_,_,_,rfl,Ok.mk ⟨P,rfl,e,cQ.after (b.then i) d,l_ c self X a.m Y Z.2⟩⟩
 rw[Zq v];refine al.eD (λx=>?_) (λx=>?_)
 ·rw[Zx x]
  refine⟨_,ae h rfl,PC.ok Ia ?_⟩;rintro _ _ ⟨rfl,rfl⟩;refine⟨_,rfl,PC.ok (Qa f V) ?_⟩;rintro _ l ⟨P,⟨I,J,K,L,M,rfl,-⟩,e,d⟩;exact⟨_,_,_,rfl,Ok.mk ⟨P,rfl,e,cQ.after b d,KN self X _⟩⟩
 rw[Zq x];refine al.eD (λy=>?_) (λy=>?_)
 ·rw[Zx y]
  refine⟨_,ae h rfl,PC.ok (Eb f o n.n) ?_⟩;rintro _ l ⟨P,rfl,e,d,b0⟩;refine⟨_,rfl,Ok.mk ⟨P,rfl,e,cQ.after b d,.inr b0,?_⟩⟩;unfold ix;rw[xD];exact Qj _
 rw[Zq y];refine al.eD (λz=>?_) (λz=>?_)
 ·rw[Zx z]
  refine⟨_,ae h rfl,PC.ok (Qb f n.n) ?_⟩;rintro _ l ⟨P,rfl,e,d⟩;exact⟨rfl,Ok.mk ⟨P,rfl,e,cQ.after b d,⟨.inl be,by dsimp only;omega⟩⟩⟩
 rw[Zq z];refine al.eD (λA=>?_) (λA=>?_)
 ·rw[Zx A]
  refine PC.ok (xE f o B) ?_;rintro _ l ⟨P,rfl,e,d⟩;exact⟨_,rfl,Ok.mk ⟨P,rfl,e,cQ.after b d,C_ c X⟩⟩
 ·rw[Zq A]
  exact Ok.mk ⟨F,rfl,f,⟨ai.keep b,λg q=>.inl q⟩,jz.refl X⟩
end
def iS.af(e:iS b e6 u k)(P:ai k a9):iS b e6 u a9:=by
 obtain⟨f,g,h,i,j,l,m,n,o,G,p,q,r,s,a⟩:=e;exact⟨f,g,h,i,j,l,m,n,o,G,p,q.af P,r.af P,s.af P,λc d=>⟨(a c d).1,by have:=(a c d).2;have:=P.size;omega⟩⟩
def Mj{x:tP}(o:∀P,ai b P->YX y p P (Ok λc a=>iS P x c a/\ai P a))(q:∀P,ai b P->YX g1 X P (Ok λc a=>iS P x c a/\ai P a)){f:ZU}{r:ZU}(e:∀a,ai b a->f a):
  PC ZP y p b (λc P=>Cx (fD ZP 46) λx=>c=x/\PC ZP g1 X P (λg h=>Cx (fD ZP 46) λi=>g=i/\PC ZP 52 #[x,i] h (λs d=>∃j:Bool,s= .bool j/\al (!j) (r d) (f d)) a3) e5) h3:=by
 refine PC.ok (o b (aj.refl _)) ?_;rintro c P ⟨k,l⟩;have t:=k;obtain⟨u,v,w,z,A,B,C,E,F,G,rfl,-⟩:=k;refine cm (H_ x u v w z A B C E F) ⟨rfl,PC.ok (q P l) ?_⟩;rintro g h ⟨m,n⟩;have H:=m;obtain⟨I,tn,J,K,L,M,N,O,Q,S,rfl,-⟩:=m;refine cm (H_ x I tn J K L M N O Q) ⟨rfl,PC.ok (Bg (t.af n) H) ?_⟩;rintro _ d ⟨rfl,R⟩;exact⟨_,rfl,al.ff rfl (e d ((l.then n).then R))⟩
section
variable {w w' w0:World} {p q:Nat} {F G D:ZN} {c e:cN} {self other:Int} {X Y:bM}
def Ic(l:bN w p F c self X)(m:bN w q G e other Y)(n:c.decl=e.decl)(o:X.S.l=Y.S.l){tn A s B:Nat}(v:bj w D L d tn r s):
  YX 19 #[ZL p,ZL q,.agg #[.slice d tn A,.slice r s B]] w (Ok λC w'=>C= .bool true/\ai w w'):=by
 have E:=v.aY.dO;have H:=v.zJ.dO;unfold aO at E H;refine AH (PA.mk λb x N y=>?_);have step:∀{P:Nat},P<1000000000000000->IntKind.wrap .i64 ((P:Int)-1+1)=((P+1:Nat):Int)-1:=λ{P} z=>by
  rw[wrap_i64 bb];omega
 refine⟨λg k w'=>∃P:Nat,k=(P:Int)-1/\P<=tn+2/\g=tn+2-P/\ai b w',⟨_,0,rfl,Qj _,rfl,aj.refl _⟩,?_⟩;rintro g _ _ O ⟨P,rfl,z,rfl,t⟩;refine⟨_,_,_,ae (t.get y id) rfl,al.dec (λI=>?_) (λQ=>?_)⟩
 ·refine⟨λg k w'=>∃h:Nat,k=h/\h<=4/\g=4-h/\ai b w',⟨_,0,rfl,Qj _,rfl,t⟩,?_⟩
  rintro g _ _ J ⟨h,rfl,R,rfl,i⟩;have f:=x.then i;refine al.dec (λS=>?_) (λ_=>⟨_,oM,P+1,step oM,oM,rfl,i⟩);refine Mj (x:=Da c.decl X.S.l ((P:Int)-1) h) (λb a=>zt ((l.af f).af a)) (λb a=>by rw[n,o];exact zt ((m.af f).af a)) λK j=>?_;refine Mj (x:=zu c.decl X.S.l ((P:Int)-1) h h) (λb a=>Bn (((l.af f).af j).af a) bb) (λb a=>by rw[n,o];exact Bn (((m.af f).af j).af a) bb) λM u=>?_;exact⟨_,oM,h+1,an oM,oM,rfl,(i.then j).then u⟩
 ·refine⟨λg k w'=>∃P:Nat,k=(P:Int)-1/\P<=s+2/\g=s+2-P/\ai b w',⟨_,0,rfl,Qj _,rfl,t⟩,?_⟩
  rintro g _ _ J ⟨P,rfl,z,rfl,i⟩;have f:=x.then i;refine⟨_,_,_,ae (i.get y id) rfl,al.dec (λI=>?_) (λ_=>Ok.mk ⟨rfl,f⟩)⟩;refine Mj (x:=wU c.decl X.S.l ((P:Int)-1) (-9223372036854775808)) (λb a=>rb ((l.af f).af a)) (λb a=>by rw[n,o];exact rb ((m.af f).af a)) λK j=>?_;refine Mj (x:=wU c.decl X.S.l ((P:Int)-1) 2) (λb a=>rb (((l.af f).af j).af a)) (λb a=>by rw[n,o];exact rb (((m.af f).af j).af a)) λM u=>?_;exact⟨_,oM,P+1,step oM,oM,rfl,(i.then j).then u⟩

import Derived.Test.YtblabbpipmodgaaGreatDoorKp17
set_option maxHeartbeats 4000000
set_option linter.all false
set_option maxRecDepth 20000
open Go.IntKind renaming wrap→XG
namespace Go.Proofs.YtblabbpipmodgaaGreatDoor
open Go.aw
section
variable {D E:al} {A:yp} {no:Int} {l x:List aj} {k j n s:Nat} {V:cY}
def Tl(A:yp)(k:Nat):Nat:=((A.map (·.2)).flatten).length+k
def Uy(P:Int)(A:yp):Prop:=∀a∈A,P<=((aG a.2).length:Nat)
def Hz(i:dT D A no l k)(j:Lt V A no l)(I:∀d∈x,d.Ok)(T:x.length<=20000000)(J:D.Ok)(n:Uy V.size A):
  ∃a b c e,dT (aE V D x).2.2 a b c e/\Lt (aE V D x).2.1 a b c/\Tl A k<=Tl a e/\lg a c=(if(aE V D x).1=0 then lg A l++x else lg A l)/\(aE V D x).2.1.size=V.size/\Uy V.size a/\
   ((a=A/\b=no/\(aE V D x).2.1.next=V.next)\/(a=A++[(no,l)]/\b=V.next/\(aE V D x).2.1.next=V.next+1)):=by
 unfold aE
 by_cases u:x.any eK=true
 ·rw[Zx u]
  exact⟨A,no,l,k,i,j,Q4 _,rfl,rfl,n,.inl ⟨rfl,rfl,rfl⟩⟩
 rw[Zq u]
 by_cases v:x=[]
 ·rw[Zx v]
  exact⟨A,no,l,k,i,j,Q4 _,by rw[Zx rfl,v,List.append_nil],rfl,n,.inl ⟨rfl,rfl,rfl⟩⟩
 rw[Zq v];have B:∀d∈x,d.Ok/\d.aQ.length<=64:=λd o=>⟨I d o,by
  have:¬eK d=true:=λg=>u (List.any_eq_true.2 ⟨d,o,g⟩);unfold eK at this;simp at this;omega⟩
 have U:=GN B;have K:(aG l).length<=262144:=by
  obtain⟨s,w,_⟩:=i.last;exact J.len (bW w)
 have h:∀(P:Int×cY×al) (a:yp) (b:Int) (c:List aj) (e:Nat),P.1=0->dT P.2.2 a b c e->Lt P.2.1 a b c->(aG c).length<=262144->Tl A k<=Tl a e->lg a c=lg A l->P.2.1.size=V.size->Uy V.size a->
   ((a=A/\b=no/\P.2.1.next=V.next)\/(a=A++[(no,l)]/\b=V.next/\P.2.1.next=V.next+1))->
   ∃a b c e,dT (if P.1≠0 then P else if(P.2.2.append P.2.1.last (aG x)).1≠0 then((P.2.2.append P.2.1.last (aG x)).1,P.2.1,(P.2.2.append P.2.1.last (aG x)).2)else(0,⟨P.2.1.size,P.2.1.a_,XG .i64 (P.2.1.bytes+((aG x).length:Nat)),P.2.1.next⟩,(P.2.2.append P.2.1.last (aG x)).2)).2.2 a b c e/\
    Lt (if P.1≠0 then P else if(P.2.2.append P.2.1.last (aG x)).1≠0 then((P.2.2.append P.2.1.last (aG x)).1,P.2.1,(P.2.2.append P.2.1.last (aG x)).2)else(0,⟨P.2.1.size,P.2.1.a_,XG .i64 (P.2.1.bytes+((aG x).length:Nat)),P.2.1.next⟩,(P.2.2.append P.2.1.last (aG x)).2)).2.1 a b c/\Tl A k<=Tl a e/\
    lg a c=(if(if P.1≠0 then P else if(P.2.2.append P.2.1.last (aG x)).1≠0 then((P.2.2.append P.2.1.last (aG x)).1,P.2.1,(P.2.2.append P.2.1.last (aG x)).2)else(0,⟨P.2.1.size,P.2.1.a_,XG .i64 (P.2.1.bytes+((aG x).length:Nat)),P.2.1.next⟩,(P.2.2.append P.2.1.last (aG x)).2)).1=0 then lg A l++x else lg A l)/\
    (if P.1≠0 then P else if(P.2.2.append P.2.1.last (aG x)).1≠0 then((P.2.2.append P.2.1.last (aG x)).1,P.2.1,(P.2.2.append P.2.1.last (aG x)).2)else(0,⟨P.2.1.size,P.2.1.a_,XG .i64 (P.2.1.bytes+((aG x).length:Nat)),P.2.1.next⟩,(P.2.2.append P.2.1.last (aG x)).2)).2.1.size=V.size/\Uy V.size a/\
    ((a=A/\b=no/\(if P.1≠0 then P else if(P.2.2.append P.2.1.last (aG x)).1≠0 then((P.2.2.append P.2.1.last (aG x)).1,P.2.1,(P.2.2.append P.2.1.last (aG x)).2)else(0,⟨P.2.1.size,P.2.1.a_,XG .i64 (P.2.1.bytes+((aG x).length:Nat)),P.2.1.next⟩,(P.2.2.append P.2.1.last (aG x)).2)).2.1.next=V.next)\/
     (a=A++[(no,l)]/\b=V.next/\(if P.1≠0 then P else if(P.2.2.append P.2.1.last (aG x)).1≠0 then((P.2.2.append P.2.1.last (aG x)).1,P.2.1,(P.2.2.append P.2.1.last (aG x)).2)else(0,⟨P.2.1.size,P.2.1.a_,XG .i64 (P.2.1.bytes+((aG x).length:Nat)),P.2.1.next⟩,(P.2.2.append P.2.1.last (aG x)).2)).2.1.next=V.next+1)):=by
  intro P a b c e L m f W C o E F g;rw[Zq (by simpa using L)];rw[dT.AP f];rcases nq P.2.2 (aC b) (aG x)with⟨r,y⟩|⟨r,X,p,y⟩
  ·rw[Zx r]
   exact⟨a,b,c,e,m.files y,f,C,by rw[Zq r];exact o,E,F,g⟩
  ·rw[Zq (by simpa using r)]
   obtain⟨s,w,M,Y⟩:=m.last;rw[w]at p;cases p
   refine⟨a,b,c++x,e,m.put (s:=s) (by rw[y,jF]) (by have:=m.kl;simp;omega) ?_ (by rw[jF];simp;omega) ?_,⟨f.a_,?_,f.next⟩,C,?_,E,F,g⟩
   ·rw[List.take_append_of_le_length m.kl];exact M
   ·intro d N
    rcases Q6.1 N with H|H
    ·exact m.Wh d H
    ·exact B d H
   ·show XG .i64 _=_
    rw[f.bytes,wrap_i64 bb,jF];simp
   ·rw[Zx rfl,<-o];simp[lg]
 dsimp only
 by_cases g:V.size<=V.bytes
 ·rw[Zx g]
  rcases i.begin j with⟨t,q,z⟩|⟨t,q,z,O,Q⟩
  ·rw[Zx t]
   exact⟨A,no,l,k,z,by rw[q];exact j,Q4 _,by rw[Zq t],by rw[q],n,.inl ⟨rfl,rfl,by rw[q]⟩⟩
  ·refine h _ (A++[(no,l)]) V.next [] 0 t z O (by simp[aG]) ?_ (by rw[AO,List.append_nil]) q ?_ (.inr ⟨rfl,rfl,Q⟩)
   ·have:=i.kl;unfold Tl;simp;omega
   ·intro R S
    rcases Q6.1 S with H|H
    ·exact n R H
    ·rw[List.mem_singleton]at H;subst H
     rw[j.bytes]at g;exact g
 ·rw[Zq g]
  exact h (0,V,D) A no l k rfl i j K (Q4 _) rfl rfl n (.inl ⟨rfl,rfl,rfl⟩)
def uR(s:cF D)(t:Tidy D.files)(b:0<=V.next/\V.next<1000000000000)(c:az D.files (aC V.next)=none):
  cF (bu V D).2.2/\((bu V D).1=0\/(bu V D).1=3\/(bu V D).1=12)/\((bu V D).1≠0->az (bu V D).2.2.files (aC V.next)=none):=by
 obtain⟨x,nt⟩:=ki (n:=V.next) (.inr b);unfold bu;dsimp only;rw[show cE (ax V.next)=aC V.next from rfl];obtain⟨d,e⟩:=s.create (aC V.next);have e:=e ((AN b.1).2 b.2) c;rcases np D (aC V.next)with⟨f,l⟩|⟨f,l,y,m⟩
 ·rw[Zx f]
  exact⟨d,e.imp id .inr,λ_=>by show az (D.create _).2.files _=none;rw[l];exact c⟩
 rw[Zq (show¬(D.create (aC V.next)).1≠0 by simpa using f)];have g:vU (aC V.next) D (D.create (aC V.next)).2:=(vU.refl t).put m;have n:az (D.create (aC V.next)).2.files (aC V.next)=some ⟨[],0,false⟩:=by rw[m,bL];simp
 generalize(D.create (aC V.next)).2=a at g n d;unfold lO;dsimp only;rw[show cE (ax V.next)=aC V.next from rfl];obtain⟨o,h⟩:=d.sync (aC V.next);have h:=h _ n;rw[Zq (show¬(a.sync (aC V.next)).1≠0 by simpa using h)];have i:Tidy (a.sync (aC V.next)).2.files:=by
  rcases iO a (aC V.next)with⟨j,P⟩|⟨j,z,c,P⟩
  ·rw[P];exact g.1
  ·rw[P];exact g.1.aK _ _
 generalize(a.sync (aC V.next)).2=k at i o;obtain⟨p,u⟩:=o.bt i (V.a_++[V.next]);have mt:Tidy (bt k (V.a_++[V.next])).2.files:=by
  rcases Ot i (V.a_++[V.next])with⟨-,q,-⟩|⟨-,-,q,-⟩<;>exact q
 by_cases r:(bt k (V.a_++[V.next])).1=0
 ·rw[Zq (by simpa using r)]
  exact⟨p,.inl rfl,λv=>Zz rfl v⟩
 ·rw[Zx r]
  obtain⟨j,P⟩:=p.delete (aC V.next);refine⟨j,u,λ_=>?_⟩;show az ((bt k (V.a_++[V.next])).2.delete (aC V.next)).2.files _=none;rcases P with P|⟨P,w⟩
  ·rw[P,jL mt];simp
  ·rw[w];exact P
def uS(V:cY)(D:al):Prop:=∀P,V.next<=P->P<1000000000000->az D.files (aC P)=none
def dT.HA(e:dT D A no l k)(g:Lt V A no l)(w:cF D)(o:uS V D)(p:V.next<1000000000000):
  cF (aJ V D).2.2/\((aJ V D).1=0\/(aJ V D).1=3\/(aJ V D).1=12)/\uS (aJ V D).2.1 (aJ V D).2.2:=by
 have x:¬V.a_=[]:=by rw[g.a_];simp
 have K:=e.wo;have L:=g.next;have c:aJ V D=if(D.sync (aC no)).1≠0 then((D.sync (aC no)).1,V,(D.sync (aC no)).2)else Go.Proofs.YtblabbpipmodgaaGreatDoor.bu V (D.sync (aC no)).2:=by
  unfold aJ;rw[Zq x,dT.AP g]
 obtain⟨s,y,_⟩:=e.last;obtain⟨q,h⟩:=w.sync (aC no);have h:=h _ y;rw[c,Zq (by simpa using h)];have z:∀P,V.next<=P->P<1000000000000->aC P≠aC no:=λP b a c=>by
  have:=gi (a:=no) oM c;omega
 have f:∀P,V.next<=P->P<1000000000000->az (D.sync (aC no)).2.files (aC P)=none:=λP b a=>by
  rcases iO D (aC no)with⟨i,d⟩|⟨i,B,j,d⟩
  ·rw[d];exact o P b a
  ·rw[d,bL,Zq (by simpa using z P b a)];exact o P b a
 have m:Tidy (D.sync (aC no)).2.files:=by
  rcases iO D (aC no)with⟨i,d⟩|⟨i,B,j,d⟩
  ·rw[d];exact e.tidy
  ·rw[d];exact e.tidy.aK _ _
 generalize(D.sync (aC no)).2=M at q f m;obtain⟨C,E,F⟩:=uR q m ⟨oM,p⟩ (f _ (Int.le_refl _) p);refine⟨C,E,?_⟩;have n:∀P,V.next<=P->P<1000000000000->aC P≠cJ/\aC P≠aS:=λP b a=>ki (.inr oM);rcases tf (V:=V) m oM with⟨r,t,H,u⟩|⟨r,t,H,u,I,N,O,Q,J⟩
 ·rw[t]
  intro P b a
  by_cases v:P=V.next
  ·subst v;exact F r
  ·rw[u _ (λc=>v (gi (a:=V.next) oM c)) (n P b a).2];exact f P b a
 ·rw[I]
  intro P b a;simp only at b;rw[J _ (λc=>by have:=gi (a:=V.next) oM c;omega) (n P oM a).2 (n P oM a).1];exact f P oM a
def Ff(j:dT D A no l k)(m:Lt V A no l)(f:cF D)(g:uS V D)(F:V.next<1000000000000)(x:List aj):
  cF (aE V D x).2.2/\((aE V D x).1=0\/(aE V D x).1=3\/(aE V D x).1=12)/\uS (aE V D x).2.1 (aE V D x).2.2:=by
 unfold aE;split
 ·exact⟨f,.inr (.inl rfl),g⟩
 split
 ·exact⟨f,.inl rfl,g⟩
 dsimp only;have a:∀(P:Int×cY×al) (n:yp) (b:Int) (o:List aj) (t:Nat),P.1=0->dT P.2.2 n b o t->Lt P.2.1 n b o->cF P.2.2->uS P.2.1 P.2.2->
   cF (if(P.2.2.append P.2.1.last (aG x)).1≠0 then((P.2.2.append P.2.1.last (aG x)).1,P.2.1,(P.2.2.append P.2.1.last (aG x)).2)else(0,⟨P.2.1.size,P.2.1.a_,XG .i64 (P.2.1.bytes+((aG x).length:Nat)),P.2.1.next⟩,(P.2.2.append P.2.1.last (aG x)).2):Int×cY×al).2.2/\
   ((if(P.2.2.append P.2.1.last (aG x)).1≠0 then((P.2.2.append P.2.1.last (aG x)).1,P.2.1,(P.2.2.append P.2.1.last (aG x)).2)else(0,⟨P.2.1.size,P.2.1.a_,XG .i64 (P.2.1.bytes+((aG x).length:Nat)),P.2.1.next⟩,(P.2.2.append P.2.1.last (aG x)).2):Int×cY×al).1=0\/
    (if(P.2.2.append P.2.1.last (aG x)).1≠0 then((P.2.2.append P.2.1.last (aG x)).1,P.2.1,(P.2.2.append P.2.1.last (aG x)).2)else(0,⟨P.2.1.size,P.2.1.a_,XG .i64 (P.2.1.bytes+((aG x).length:Nat)),P.2.1.next⟩,(P.2.2.append P.2.1.last (aG x)).2):Int×cY×al).1=3\/
    (if(P.2.2.append P.2.1.last (aG x)).1≠0 then((P.2.2.append P.2.1.last (aG x)).1,P.2.1,(P.2.2.append P.2.1.last (aG x)).2)else(0,⟨P.2.1.size,P.2.1.a_,XG .i64 (P.2.1.bytes+((aG x).length:Nat)),P.2.1.next⟩,(P.2.2.append P.2.1.last (aG x)).2):Int×cY×al).1=12)/\
   uS (if(P.2.2.append P.2.1.last (aG x)).1≠0 then((P.2.2.append P.2.1.last (aG x)).1,P.2.1,(P.2.2.append P.2.1.last (aG x)).2)else(0,⟨P.2.1.size,P.2.1.a_,XG .i64 (P.2.1.bytes+((aG x).length:Nat)),P.2.1.next⟩,(P.2.2.append P.2.1.last (aG x)).2):Int×cY×al).2.1 (if(P.2.2.append P.2.1.last (aG x)).1≠0 then((P.2.2.append P.2.1.last (aG x)).1,P.2.1,(P.2.2.append P.2.1.last (aG x)).2)else(0,⟨P.2.1.size,P.2.1.a_,XG .i64 (P.2.1.bytes+((aG x).length:Nat)),P.2.1.next⟩,(P.2.2.append P.2.1.last (aG x)).2):Int×cY×al).2.2:=by
  intro P n b o t N u d p e;rw[dT.AP d];obtain⟨s,H,_⟩:=u.last;obtain⟨v,q⟩:=p.append (aC b) (aG x);have q:=q _ H;have w:∀c,P.2.1.next<=c->c<1000000000000->az (P.2.2.append (aC b) (aG x)).2.files (aC c)=none:=λc y z=>by
   rcases nq P.2.2 (aC b) (aG x)with⟨I,r⟩|⟨I,O,Q,r⟩
   ·rw[r];exact e c y z
   ·have:=u.wo;have:=d.next
    rw[r,bL,Zq (by simpa using λJ=>by have:=gi (a:=b) oM J;omega)];exact e c y z
  split
  ·exact⟨v,q.imp id .inr,w⟩
  ·exact⟨v,.inl rfl,w⟩
 by_cases h:V.size<=V.bytes
 ·rw[Zx h]
  obtain⟨B,K,C⟩:=j.HA m f g F
  by_cases i:(aJ V D).1=0
  ·rw[Zq (by simpa using i)]
   rcases j.begin m with⟨E,-⟩|⟨E,R,L,M,S⟩
   ·exact Zz i E
   ·exact a _ _ _ _ _ i L M B C
  ·rw[Zx i];exact⟨B,K,C⟩
 ·rw[Zq h,Zq (λh:((0,V,D):Int×cY×al).1≠0=>h rfl)]
  exact a (0,V,D) _ _ _ _ rfl j m f g
end
section
variable {D E:al} {A:yp} {no:Int} {l x:List aj} {k j n s:Nat} {V:cY}
def HB(a:Nat)(P:Int):bF (eY a) P=⟨(bu ⟨P,[],0,1⟩ (eY a)).1,[],(bu ⟨P,[],0,1⟩ (eY a)).2.1,(bu ⟨P,[],0,1⟩ (eY a)).2.2⟩:=by
 have b:uE (eY a)=1:=by simp[uE,uQ,al.list,eY,rE]
 have c:told (eY a)=[]:=by
  have:(eY a).read cJ=([],14):=by simp[al.read,eY,az]
  unfold told eJ;rw[this];rfl
 have d:(mJ (eY a) P)=⟨P,[],0,1⟩:=by unfold mJ;rw[b]
 unfold bF;rw[c,d];unfold iD lf;rw[Zq sM,Zx rfl];unfold aJ;rw[Zx rfl]
def HC(a:Nat)(P:Int):((bF (eY a) P).no=3\/(bF (eY a) P).no=12)\/
  ((bF (eY a) P).no=0/\(bF (eY a) P).out=[]/\dT (bF (eY a) P).D [] 1 [] 0/\Lt (bF (eY a) P).V [] 1 []/\(bF (eY a) P).V.size=P/\(bF (eY a) P).V.next=2/\cF (bF (eY a) P).D/\uS (bF (eY a) P).V (bF (eY a) P).D):=by
 have f:cF (eY a):=⟨rfl,rfl⟩
 have d:Tidy (eY a).files:=by simp[Tidy,eY]
 rw[HB];obtain⟨g,h,s⟩:=uR (V:=⟨P,[],0,1⟩) f d ⟨sM,sM⟩ (by simp[eY,az]);rcases tf (D:=eY a) (V:=⟨P,[],0,1⟩) d sM with⟨c,i,j,k⟩|⟨c,i,j,k,b,l,m,n,o⟩
 ·exact .inl (h.resolve_left c)
 ·refine .inr ⟨c,rfl,⟨l,sM,⟨0,m,by simp[aG],Qj _⟩,Q4 _,n,by simp[rq],by simp[rq],by simp[lg],sM⟩,⟨by rw[b];rfl,by rw[b];rfl,by rw[b];simp⟩,by rw[b],by rw[b];rfl,g,?_⟩
  show uS (bu ⟨P,[],0,1⟩ (eY a)).2.1 (bu ⟨P,[],0,1⟩ (eY a)).2.2;rw[b];intro p q t;simp only at q;have e:=ki (n:=p) (.inr oM);rw[o _ (λr=>by have:=gi (a:=1) oM r;omega) e.2 e.1];simp[eY,az]

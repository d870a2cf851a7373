import Derived.Test.YtkpomgifkloklacGreatDoorKg20
set_option maxHeartbeats 4000000
set_option linter.all false
set_option maxRecDepth 20000
open Go.IntKind renaming wrap→XG
namespace Go.Proofs.YtkpomgifkloklacGreatDoor
open Go.aw
section
variable {D E:al} {A:sC} {no:Int} {l x:List aj} {k j n s:Nat} {V:dh}
def Ry(A:sC)(k:Nat):Nat:=((A.map (·.2)).flatten).length+k
def RW(P:Int)(A:sC):Prop:=∀a∈A,P<=((aC a.2).length:Nat)
def FX(i:dt D A no l k)(j:FT V A no l)(I:∀d∈x,d.Ok)(T:x.length<=20000000)(J:D.Ok)(n:RW V.size A):
  ∃a b c e,dt (aK V D x).2.2 a b c e/\FT (aK V D x).2.1 a b c/\Ry A k<=Ry a e/\fK a c=(if(aK V D x).1=0 then fK A l++x else fK A l)/\(aK V D x).2.1.size=V.size/\RW V.size a/\
   ((a=A/\b=no/\(aK V D x).2.1.next=V.next)\/(a=A++[(no,l)]/\b=V.next/\(aK V D x).2.1.next=V.next+1)):=by
 unfold aK
 by_cases u:x.any iG=true
 ·rw[Zx u]
  exact⟨A,no,l,k,i,j,Q4 _,rfl,rfl,n,.inl ⟨rfl,rfl,rfl⟩⟩
 rw[Zq u]
 by_cases v:x=[]
 ·rw[Zx v]
  exact⟨A,no,l,k,i,j,Q4 _,by rw[Zx rfl,v,List.append_nil],rfl,n,.inl ⟨rfl,rfl,rfl⟩⟩
 rw[Zq v];have B:∀d∈x,d.Ok/\d.aN.length<=64:=λd o=>⟨I d o,by
  have:¬iG d=true:=λg=>u (List.any_eq_true.2 ⟨d,o,g⟩);unfold iG at this;simp at this;omega⟩
 have U:=NA B;have K:(aC l).length<=262144:=by
  obtain⟨s,w,_⟩:=i.last;exact J.len (bV w)
 have h:∀(P:Int×dh×al) (a:sC) (b:Int) (c:List aj) (e:Nat),P.1=0->dt P.2.2 a b c e->FT P.2.1 a b c->(aC c).length<=262144->Ry A k<=Ry a e->fK a c=fK A l->P.2.1.size=V.size->RW V.size a->
   ((a=A/\b=no/\P.2.1.next=V.next)\/(a=A++[(no,l)]/\b=V.next/\P.2.1.next=V.next+1))->
   ∃a b c e,dt (if P.1≠0 then P else if(P.2.2.append P.2.1.last (aC x)).1≠0 then((P.2.2.append P.2.1.last (aC x)).1,P.2.1,(P.2.2.append P.2.1.last (aC x)).2)else(0,⟨P.2.1.size,P.2.1.bf,XG .i64 (P.2.1.bytes+((aC x).length:Nat)),P.2.1.next⟩,(P.2.2.append P.2.1.last (aC x)).2)).2.2 a b c e/\
    FT (if P.1≠0 then P else if(P.2.2.append P.2.1.last (aC x)).1≠0 then((P.2.2.append P.2.1.last (aC x)).1,P.2.1,(P.2.2.append P.2.1.last (aC x)).2)else(0,⟨P.2.1.size,P.2.1.bf,XG .i64 (P.2.1.bytes+((aC x).length:Nat)),P.2.1.next⟩,(P.2.2.append P.2.1.last (aC x)).2)).2.1 a b c/\Ry A k<=Ry a e/\
    fK a c=(if(if P.1≠0 then P else if(P.2.2.append P.2.1.last (aC x)).1≠0 then((P.2.2.append P.2.1.last (aC x)).1,P.2.1,(P.2.2.append P.2.1.last (aC x)).2)else(0,⟨P.2.1.size,P.2.1.bf,XG .i64 (P.2.1.bytes+((aC x).length:Nat)),P.2.1.next⟩,(P.2.2.append P.2.1.last (aC x)).2)).1=0 then fK A l++x else fK A l)/\
    (if P.1≠0 then P else if(P.2.2.append P.2.1.last (aC x)).1≠0 then((P.2.2.append P.2.1.last (aC x)).1,P.2.1,(P.2.2.append P.2.1.last (aC x)).2)else(0,⟨P.2.1.size,P.2.1.bf,XG .i64 (P.2.1.bytes+((aC x).length:Nat)),P.2.1.next⟩,(P.2.2.append P.2.1.last (aC x)).2)).2.1.size=V.size/\RW V.size a/\
    ((a=A/\b=no/\(if P.1≠0 then P else if(P.2.2.append P.2.1.last (aC x)).1≠0 then((P.2.2.append P.2.1.last (aC x)).1,P.2.1,(P.2.2.append P.2.1.last (aC x)).2)else(0,⟨P.2.1.size,P.2.1.bf,XG .i64 (P.2.1.bytes+((aC x).length:Nat)),P.2.1.next⟩,(P.2.2.append P.2.1.last (aC x)).2)).2.1.next=V.next)\/
     (a=A++[(no,l)]/\b=V.next/\(if P.1≠0 then P else if(P.2.2.append P.2.1.last (aC x)).1≠0 then((P.2.2.append P.2.1.last (aC x)).1,P.2.1,(P.2.2.append P.2.1.last (aC x)).2)else(0,⟨P.2.1.size,P.2.1.bf,XG .i64 (P.2.1.bytes+((aC x).length:Nat)),P.2.1.next⟩,(P.2.2.append P.2.1.last (aC x)).2)).2.1.next=V.next+1)):=by
  intro P a b c e L m f W C o E F g;rw[Zq (by simpa using L)];rw[dt.sE f];rcases mW P.2.2 (aA b) (aC x)with⟨r,y⟩|⟨r,X,p,y⟩
  ·rw[Zx r]
   exact⟨a,b,c,e,m.files y,f,C,by rw[Zq r];exact o,E,F,g⟩
  ·rw[Zq (by simpa using r)]
   obtain⟨s,w,M,Y⟩:=m.last;rw[w]at p;cases p
   refine⟨a,b,c++x,e,m.put (s:=s) (by rw[y,fv]) (by have:=m.kl;simp;omega) ?_ (by rw[fv];simp;omega) ?_,⟨f.bf,?_,f.next⟩,C,?_,E,F,g⟩
   ·rw[List.take_append_of_le_length m.kl];exact M
   ·intro d N
    rcases Q6.1 N with H|H
    ·exact m.Up d H
    ·exact B d H
   ·show XG .i64 _=_
    rw[f.bytes,wrap_i64 bb,fv];simp
   ·rw[Zx rfl,<-o];simp[fK]
 dsimp only
 by_cases g:V.size<=V.bytes
 ·rw[Zx g]
  rcases i.begin j with⟨t,q,z⟩|⟨t,q,z,O,Q⟩
  ·rw[Zx t]
   exact⟨A,no,l,k,z,by rw[q];exact j,Q4 _,by rw[Zq t],by rw[q],n,.inl ⟨rfl,rfl,by rw[q]⟩⟩
  ·refine h _ (A++[(no,l)]) V.next [] 0 t z O (by simp[aC]) ?_ (by rw[zD,List.append_nil]) q ?_ (.inr ⟨rfl,rfl,Q⟩)
   ·have:=i.kl;unfold Ry;simp;omega
   ·intro R S
    rcases Q6.1 S with H|H
    ·exact n R H
    ·rw[List.mem_singleton]at H;subst H
     rw[j.bytes]at g;exact g
 ·rw[Zq g]
  exact h (0,V,D) A no l k rfl i j K (Q4 _) rfl rfl n (.inl ⟨rfl,rfl,rfl⟩)
def ur(s:bP D)(t:Tidy D.files)(b:0<=V.next/\V.next<1000000000000)(c:ax D.files (aA V.next)=none):
  bP (bt V D).2.2/\((bt V D).1=0\/(bt V D).1=3\/(bt V D).1=12)/\((bt V D).1≠0->ax (bt V D).2.2.files (aA V.next)=none):=by
 obtain⟨x,nt⟩:=fh (n:=V.next) (.inr b);unfold bt;dsimp only;rw[show dY (aO V.next)=aA V.next from rfl];obtain⟨d,e⟩:=s.create (aA V.next);have e:=e ((sD b.1).2 b.2) c;rcases mV D (aA V.next)with⟨f,l⟩|⟨f,l,y,m⟩
 ·rw[Zx f]
  exact⟨d,e.imp id .inr,λ_=>by show ax (D.create _).2.files _=none;rw[l];exact c⟩
 rw[Zq (show¬(D.create (aA V.next)).1≠0 by simpa using f)];have g:vu (aA V.next) D (D.create (aA V.next)).2:=(vu.refl t).put m;have n:ax (D.create (aA V.next)).2.files (aA V.next)=some ⟨[],0,false⟩:=by rw[m,bN];simp
 generalize(D.create (aA V.next)).2=a at g n d;unfold jX;dsimp only;rw[show dY (aO V.next)=aA V.next from rfl];obtain⟨o,h⟩:=d.sync (aA V.next);have h:=h _ n;rw[Zq (show¬(a.sync (aA V.next)).1≠0 by simpa using h)];have i:Tidy (a.sync (aA V.next)).2.files:=by
  rcases jO a (aA V.next)with⟨j,P⟩|⟨j,z,c,P⟩
  ·rw[P];exact g.1
  ·rw[P];exact g.1.aJ _ _
 generalize(a.sync (aA V.next)).2=k at i o;obtain⟨p,u⟩:=o.bJ i (V.bf++[V.next]);have mt:Tidy (bJ k (V.bf++[V.next])).2.files:=by
  rcases MF i (V.bf++[V.next])with⟨-,q,-⟩|⟨-,-,q,-⟩<;>exact q
 by_cases r:(bJ k (V.bf++[V.next])).1=0
 ·rw[Zq (by simpa using r)]
  exact⟨p,.inl rfl,λv=>Zz rfl v⟩
 ·rw[Zx r]
  obtain⟨j,P⟩:=p.delete (aA V.next);refine⟨j,u,λ_=>?_⟩;show ax ((bJ k (V.bf++[V.next])).2.delete (aA V.next)).2.files _=none;rcases P with P|⟨P,w⟩
  ·rw[P,iy mt];simp
  ·rw[w];exact P
def pJ(V:dh)(D:al):Prop:=∀P,V.next<=P->P<1000000000000->ax D.files (aA P)=none
def dt.FY(e:dt D A no l k)(g:FT V A no l)(w:bP D)(o:pJ V D)(p:V.next<1000000000000):
  bP (aG V D).2.2/\((aG V D).1=0\/(aG V D).1=3\/(aG V D).1=12)/\pJ (aG V D).2.1 (aG V D).2.2:=by
 have x:¬V.bf=[]:=by rw[g.bf];simp
 have K:=e.pI;have L:=g.next;have c:aG V D=if(D.sync (aA no)).1≠0 then((D.sync (aA no)).1,V,(D.sync (aA no)).2)else Go.Proofs.YtkpomgifkloklacGreatDoor.bt V (D.sync (aA no)).2:=by
  unfold aG;rw[Zq x,dt.sE g]
 obtain⟨s,y,_⟩:=e.last;obtain⟨q,h⟩:=w.sync (aA no);have h:=h _ y;rw[c,Zq (by simpa using h)];have z:∀P,V.next<=P->P<1000000000000->aA P≠aA no:=λP b a c=>by
  have:=fu (a:=no) oM c;omega
 have f:∀P,V.next<=P->P<1000000000000->ax (D.sync (aA no)).2.files (aA P)=none:=λP b a=>by
  rcases jO D (aA no)with⟨i,d⟩|⟨i,B,j,d⟩
  ·rw[d];exact o P b a
  ·rw[d,bN,Zq (by simpa using z P b a)];exact o P b a
 have m:Tidy (D.sync (aA no)).2.files:=by
  rcases jO D (aA no)with⟨i,d⟩|⟨i,B,j,d⟩
  ·rw[d];exact e.tidy
  ·rw[d];exact e.tidy.aJ _ _
 generalize(D.sync (aA no)).2=M at q f m;obtain⟨C,E,F⟩:=ur q m ⟨oM,p⟩ (f _ (Int.le_refl _) p);refine⟨C,E,?_⟩;have n:∀P,V.next<=P->P<1000000000000->aA P≠ck/\aA P≠aE:=λP b a=>fh (.inr oM);rcases sF (V:=V) m oM with⟨r,t,H,u⟩|⟨r,t,H,u,I,N,O,Q,J⟩
 ·rw[t]
  intro P b a
  by_cases v:P=V.next
  ·subst v;exact F r
  ·rw[u _ (λc=>v (fu (a:=V.next) oM c)) (n P b a).2];exact f P b a
 ·rw[I]
  intro P b a;simp only at b;rw[J _ (λc=>by have:=fu (a:=V.next) oM c;omega) (n P oM a).2 (n P oM a).1];exact f P oM a
def DJ(j:dt D A no l k)(m:FT V A no l)(f:bP D)(g:pJ V D)(F:V.next<1000000000000)(x:List aj):
  bP (aK V D x).2.2/\((aK V D x).1=0\/(aK V D x).1=3\/(aK V D x).1=12)/\pJ (aK V D x).2.1 (aK V D x).2.2:=by
 unfold aK;split
 ·exact⟨f,.inr (.inl rfl),g⟩
 split
 ·exact⟨f,.inl rfl,g⟩
 dsimp only;have a:∀(P:Int×dh×al) (n:sC) (b:Int) (o:List aj) (t:Nat),P.1=0->dt P.2.2 n b o t->FT P.2.1 n b o->bP P.2.2->pJ P.2.1 P.2.2->
   bP (if(P.2.2.append P.2.1.last (aC x)).1≠0 then((P.2.2.append P.2.1.last (aC x)).1,P.2.1,(P.2.2.append P.2.1.last (aC x)).2)else(0,⟨P.2.1.size,P.2.1.bf,XG .i64 (P.2.1.bytes+((aC x).length:Nat)),P.2.1.next⟩,(P.2.2.append P.2.1.last (aC x)).2):Int×dh×al).2.2/\
   ((if(P.2.2.append P.2.1.last (aC x)).1≠0 then((P.2.2.append P.2.1.last (aC x)).1,P.2.1,(P.2.2.append P.2.1.last (aC x)).2)else(0,⟨P.2.1.size,P.2.1.bf,XG .i64 (P.2.1.bytes+((aC x).length:Nat)),P.2.1.next⟩,(P.2.2.append P.2.1.last (aC x)).2):Int×dh×al).1=0\/
    (if(P.2.2.append P.2.1.last (aC x)).1≠0 then((P.2.2.append P.2.1.last (aC x)).1,P.2.1,(P.2.2.append P.2.1.last (aC x)).2)else(0,⟨P.2.1.size,P.2.1.bf,XG .i64 (P.2.1.bytes+((aC x).length:Nat)),P.2.1.next⟩,(P.2.2.append P.2.1.last (aC x)).2):Int×dh×al).1=3\/
    (if(P.2.2.append P.2.1.last (aC x)).1≠0 then((P.2.2.append P.2.1.last (aC x)).1,P.2.1,(P.2.2.append P.2.1.last (aC x)).2)else(0,⟨P.2.1.size,P.2.1.bf,XG .i64 (P.2.1.bytes+((aC x).length:Nat)),P.2.1.next⟩,(P.2.2.append P.2.1.last (aC x)).2):Int×dh×al).1=12)/\
   pJ (if(P.2.2.append P.2.1.last (aC x)).1≠0 then((P.2.2.append P.2.1.last (aC x)).1,P.2.1,(P.2.2.append P.2.1.last (aC x)).2)else(0,⟨P.2.1.size,P.2.1.bf,XG .i64 (P.2.1.bytes+((aC x).length:Nat)),P.2.1.next⟩,(P.2.2.append P.2.1.last (aC x)).2):Int×dh×al).2.1 (if(P.2.2.append P.2.1.last (aC x)).1≠0 then((P.2.2.append P.2.1.last (aC x)).1,P.2.1,(P.2.2.append P.2.1.last (aC x)).2)else(0,⟨P.2.1.size,P.2.1.bf,XG .i64 (P.2.1.bytes+((aC x).length:Nat)),P.2.1.next⟩,(P.2.2.append P.2.1.last (aC x)).2):Int×dh×al).2.2:=by
  intro P n b o t N u d p e;rw[dt.sE d];obtain⟨s,H,_⟩:=u.last;obtain⟨v,q⟩:=p.append (aA b) (aC x);have q:=q _ H;have w:∀c,P.2.1.next<=c->c<1000000000000->ax (P.2.2.append (aA b) (aC x)).2.files (aA c)=none:=λc y z=>by
   rcases mW P.2.2 (aA b) (aC x)with⟨I,r⟩|⟨I,O,Q,r⟩
   ·rw[r];exact e c y z
   ·have:=u.pI;have:=d.next
    rw[r,bN,Zq (by simpa using λJ=>by have:=fu (a:=b) oM J;omega)];exact e c y z
  split
  ·exact⟨v,q.imp id .inr,w⟩
  ·exact⟨v,.inl rfl,w⟩
 by_cases h:V.size<=V.bytes
 ·rw[Zx h]
  obtain⟨B,K,C⟩:=j.FY m f g F
  by_cases i:(aG V D).1=0
  ·rw[Zq (by simpa using i)]
   rcases j.begin m with⟨E,-⟩|⟨E,R,L,M,S⟩
   ·exact Zz i E
   ·exact a _ _ _ _ _ i L M B C
  ·rw[Zx i];exact⟨B,K,C⟩
 ·rw[Zq h,Zq (λh:((0,V,D):Int×dh×al).1≠0=>h rfl)]
  exact a (0,V,D) _ _ _ _ rfl j m f g
end
section
variable {D E:al} {A:sC} {no:Int} {l x:List aj} {k j n s:Nat} {V:dh}
def FZ(a:Nat)(P:Int):bA (ei a) P=⟨(bt ⟨P,[],0,1⟩ (ei a)).1,[],(bt ⟨P,[],0,1⟩ (ei a)).2.1,(bt ⟨P,[],0,1⟩ (ei a)).2.2⟩:=by
 have b:tZ (ei a)=1:=by simp[tZ,uo,al.list,ei,qY]
 have c:told (ei a)=[]:=by
  have:(ei a).read ck=([],14):=by simp[al.read,ei,ax]
  unfold told fB;rw[this];rfl
 have d:(mj (ei a) P)=⟨P,[],0,1⟩:=by unfold mj;rw[b]
 unfold bA;rw[c,d];unfold iC kQ;rw[Zq sM,Zx rfl];unfold aG;rw[Zx rfl]
def F_(a:Nat)(P:Int):((bA (ei a) P).no=3\/(bA (ei a) P).no=12)\/
  ((bA (ei a) P).no=0/\(bA (ei a) P).out=[]/\dt (bA (ei a) P).D [] 1 [] 0/\FT (bA (ei a) P).V [] 1 []/\(bA (ei a) P).V.size=P/\(bA (ei a) P).V.next=2/\bP (bA (ei a) P).D/\pJ (bA (ei a) P).V (bA (ei a) P).D):=by
 have f:bP (ei a):=⟨rfl,rfl⟩
 have d:Tidy (ei a).files:=by simp[Tidy,ei]
 rw[FZ];obtain⟨g,h,s⟩:=ur (V:=⟨P,[],0,1⟩) f d ⟨sM,sM⟩ (by simp[ei,ax]);rcases sF (D:=ei a) (V:=⟨P,[],0,1⟩) d sM with⟨c,i,j,k⟩|⟨c,i,j,k,b,l,m,n,o⟩
 ·exact .inl (h.resolve_left c)
 ·refine .inr ⟨c,rfl,⟨l,sM,⟨0,m,by simp[aC],Qj _⟩,Q4 _,n,by simp[pG],by simp[pG],by simp[fK],sM⟩,⟨by rw[b];rfl,by rw[b];rfl,by rw[b];simp⟩,by rw[b],by rw[b];rfl,g,?_⟩
  show pJ (bt ⟨P,[],0,1⟩ (ei a)).2.1 (bt ⟨P,[],0,1⟩ (ei a)).2.2;rw[b];intro p q t;simp only at q;have e:=fh (n:=p) (.inr oM);rw[o _ (λr=>by have:=fu (a:=1) oM r;omega) e.2 e.1];simp[ei,ax]
end
def Ka{a:Type}{b:a->Int}:∀{P:List a},(∀x∈P,b x=0)->cg b P=0
 |[],_=>rfl
 |x::P,c=>by
  unfold cg
  rw[c x (QV ..),Ka λd e=>c d (QJ _ e)];rfl
variable{v:ByteArray}
section
variable {S:ar} {D:al} {d:cH} {Y:bQ} {k m j n:Nat} {T:XN}
def wC(a:bP D){P:cI}{b:List UInt8}(c:ax D.files v=some P)(d:b.length+D.used<=D.most):D.append v b=(0,D.bZ v {P with bytes:=P.bytes++b}):=by
 unfold al.append;rw[a.on c,Zq];unfold al.room;omega
end
structure gy (D E:al) (n u:Nat):Prop where
 files:E.files.length<=D.files.length+n
 used:E.used<=D.used+u
 most:E.most=D.most
def Kf:∀{l:List (ByteArray×cI)} {k:ByteArray},(ax l k).isSome=true->(bI l k).length+1=l.length
 |[],k,P=>by simp[ax]at P
 |(c,d)::a,k,P=>by
  unfold bI;unfold ax at P;split
  ·rfl
  ·rename_i b
   rw[Zq b]at P;have:=Kf (l:=a) P;simp;omega
section
variable {D E F:al} {n m u v:Nat} {k nm:ByteArray} {f g:cI} {l:List Int} {V:dh} {A:sC} {no:Int} {j:Nat} {x y:List aj} {Y:bQ} {b:Nat} {c:cH}
def gy.trans(P:gy D E n u)(k:gy E F m v):gy D F (n+m) (u+v):=⟨by have:=P.files;have:=k.files;omega,by have:=P.used;have:=k.used;omega,k.most.trans P.most⟩
def gy.new(f:cI):gy D (D.bZ nm f) 1 f.bytes.length:=⟨uz _ _ _,by
 have:=iN (l:=D.files) (k:=nm) (f:=f);show dF (aJ D.files nm f)<=dF D.files+_;omega,rfl⟩
def gy.put(P:ax D.files nm=some g)(a:f.bytes.length<=g.bytes.length+u):gy D (D.bZ nm f) 0 u:=⟨by
 have:=Zj List.length (Cd nm f D.files (Xk.2 ⟨_,bV P,rfl⟩));rw[Q8,Q8]at this;show(aJ D.files nm f).length<=_;omega,by
 have:=iN (l:=D.files) (k:=nm) (f:=f);rw[P]at this;simp only[Option.map_some,Option.getD_some]at this;show dF (aJ D.files nm f)<=dF D.files+_;omega,rfl⟩
def gy.UC(a:ax D.files k=some g)(c:f.bytes.length<=g.bytes.length):gy D ((D.ou k).bZ nm f) 0 0:=⟨by
 have b:=Kf (l:=D.files) (k:=k) (by rw[a];rfl);have P:=uz nm f (bI D.files k);show(aJ (bI D.files k) nm f).length<=_;omega,by
 have b:=iN (l:=bI D.files k) (k:=nm) (f:=f);have P:=kK (l:=D.files) (k:=k);rw[a]at P;simp only[Option.map_some,Option.getD_some]at P;show dF (aJ (bI D.files k) nm f)<=dF D.files+0;omega,rfl⟩
structure DY (D:al):Prop where
 alive:bP D
 ok:D.Ok
 NP:ax D.files aE=none
def wB(P:bP D)(a:cF nm=true)(b:ax D.files nm=none)(c:D.files.length<64):D.create nm=(0,D.bZ nm ⟨[],0,false⟩):=by
 unfold al.create;rw[P.op,Zx a,Zq (by rw[b];simp),Zq oM]
def qq(P:bP D)(a:ax D.files nm=some f):D.sync nm=(0,D.bZ nm (cR f.bytes)):=by
 unfold al.sync;rw[P.on a,Fj]
def qs:ax (D.bZ nm f).files nm=some f:=by show ax (aJ D.files nm f) nm=_;rw[bN];simp
def fj(P:k≠nm):ax (D.bZ nm f).files k=ax D.files k:=by show ax (aJ D.files nm f) k=_;rw[bN,Zq (by simpa using P)]
def PH(a:DY D)(H:l.length<=64)(w:∀x∈l,aP x)(y:D.files.length<64)(I:600+D.used<=D.most):∃E,bJ D l=(0,E)/\DY E/\gy D E 1 600:=by
 have J:(br l).length<=600:=by
  have:=dW (l:=(l.length:Int)::l) λx e=>by
   rcases Q2.1 e with rfl|e
   ·unfold aP;omega
   ·exact w x e
  rw[pL];unfold sG;rw[Xq]at this;omega
 have step:∀{i k:Nat} {D E:al},kJ l i D=(0,E)->ks l i (k+1) D=ks l (i+1) k E:=λ{i k D E} z=>by rw[ks,z,Zq sM]
 have A:kJ l 0 D=(0,D):=by show dw D=_;unfold dw;rw[Zq (by rw[a.NP];simp)]
 have m:D.create aE=(0,D.bZ aE ⟨[],0,false⟩):=wB a.alive JD a.NP y;have n:=a.ok.create aE;rw[m]at n;have f:gy D (D.bZ aE ⟨[],0,false⟩) 1 0:=gy.new ⟨[],0,false⟩;have o:ax (D.bZ aE ⟨[],0,false⟩).files aE=some ⟨[],0,false⟩:=qs;have p:bP (D.bZ aE ⟨[],0,false⟩):=a.alive.same rfl rfl;generalize D.bZ aE ⟨[],0,false⟩=b at*;have K:=f.used;have L:=f.most;have g:=wC p (b:=br l) o oM;have h:=n.append aE (br l);rw[g]at h;have B:gy b (b.bZ aE ⟨[]++br l,0,false⟩) 0 600:=gy.put o bc;have q:ax (b.bZ aE ⟨[]++br l,0,false⟩).files aE=some ⟨[]++br l,0,false⟩:=qs;have r:bP (b.bZ aE ⟨[]++br l,0,false⟩):=p.same rfl rfl;dsimp only at g h;generalize b.bZ aE ⟨[]++br l,0,false⟩=c at*;have j:=qq r q;have d:=h.sync aE;rw[j]at d;have C:gy c (c.bZ aE (cR ([]++br l))) 0 0:=gy.put q (by simp[cR]);have s:ax (c.bZ aE (cR ([]++br l))).files aE=some (cR ([]++br l)):=qs;have t:bP (c.bZ aE (cR ([]++br l))):=r.same rfl rfl;dsimp only at j d;generalize c.bZ aE (cR ([]++br l))=P at*;have u:P.rename aE ck=(0,(P.ou aE).bZ ck {cR ([]++br l)with xm:=true}):=by
  unfold al.rename;rw[t.on s,Zx yL]
 have v:=d.rename aE ck;rw[u]at v;have F:gy P ((P.ou aE).bZ ck {cR ([]++br l)with xm:=true}) 0 0:=gy.UC s (Q4 _);refine⟨(P.ou aE).bZ ck {cR ([]++br l)with xm:=true},?_,⟨t.same rfl rfl,v,?_⟩,by simpa using((f.trans B).trans C).trans F⟩
 ·unfold bJ
  rw[Zq oM];exact(step (i:=0) (k:=4) A).trans ((step (i:=1) (k:=3) m).trans ((step (i:=2) (k:=2) g).trans ((step (i:=3) (k:=1) j).trans (step (i:=4) (k:=0) u))))
 ·rw[fj xy]
  show ax (bI P.files aE) aE=none;rw[iy d.tidy];simp
def IY(h:dt D A no x j)(b:FT V A no x)(d:DY D)(w:pJ V D)(o:V.next<1000000000000)(O:A.length+2<=64)(Q:D.files.length+2<=64)(R:600+D.used<=D.most):
  ∃p E,aG V D=(0,p,E)/\p.next=V.next+1/\DY E/\gy D E 2 600:=by
 have y:¬V.bf=[]:=by rw[b.bf];simp
 have S:=h.pI;have T:=b.next;obtain⟨U,q,-⟩:=h.last;obtain⟨W,z⟩:=fh (n:=no) (.inr oM);obtain⟨X,r⟩:=fh (n:=V.next) (.inr oM);have i:=qq d.alive q;have k:=d.ok.sync (aA no);rw[i]at k;have e:gy D (D.bZ (aA no) (cR (aC x))) 0 0:=gy.put q (by simp[cR]);have B:ax (D.bZ (aA no) (cR (aC x))).files aE=none:=by rw[fj z.symm];exact d.NP
 have s:bP (D.bZ (aA no) (cR (aC x))):=d.alive.same rfl rfl;have C:ax (D.bZ (aA no) (cR (aC x))).files (aA V.next)=none:=by
  rw[fj λF=>by have:=fu (a:=no) oM F;omega];exact w _ (Int.le_refl _) o
 dsimp only at i k;generalize D.bZ (aA no) (cR (aC x))=P at*;have Y:=e.files;have Z:=e.used;have v1:=e.most;have t:=wB s ((sD oM).2 o) C oM;have l:=k.create (aA V.next);rw[t]at l;have f:gy P (P.bZ (aA V.next) ⟨[],0,false⟩) 1 0:=gy.new ⟨[],0,false⟩;have H:ax (P.bZ (aA V.next) ⟨[],0,false⟩).files aE=none:=by rw[fj r.symm];exact B
 have u:bP (P.bZ (aA V.next) ⟨[],0,false⟩):=s.same rfl rfl;have v:ax (P.bZ (aA V.next) ⟨[],0,false⟩).files (aA V.next)=some ⟨[],0,false⟩:=qs;dsimp only at l;generalize P.bZ (aA V.next) ⟨[],0,false⟩=c at*;have f2:=f.files;have u2:=f.used;have v2:=f.most;have m:=qq u v;have n:=l.sync (aA V.next);rw[m]at n;have g:gy c (c.bZ (aA V.next) (cR [])) 0 0:=gy.put v (by simp[cR]);have I:ax (c.bZ (aA V.next) (cR [])).files aE=none:=by rw[fj r.symm];exact H
 have J:bP (c.bZ (aA V.next) (cR [])):=u.same rfl rfl;dsimp only at m n;generalize c.bZ (aA V.next) (cR [])=D3 at*;have f3:=g.files;have u3:=g.used;have v3:=g.most;obtain⟨E,K,L,M⟩:=PH (l:=V.bf++[V.next]) ⟨J,n,I⟩ (by rw[b.bf];simp[pG];omega) (λN a=>by
  rcases Q6.1 a with a|a
  ·rw[b.bf]at a;have:=h.Hh N a;unfold aP;omega
  ·rw[List.mem_singleton.1 a];unfold aP;omega) oM oM
 refine⟨⟨V.size,V.bf++[V.next],0,XG .i64 (V.next+1)⟩,E,?_,wrap_i64 bb,L,?_⟩
 ·unfold aG
  rw[Zq y,dt.sE b,i];dsimp only;rw[Zq sM];unfold bt;rw[show dY (aO V.next)=aA V.next from rfl,t];dsimp only;rw[Zq sM];unfold jX;dsimp only;rw[show dY (aO V.next)=aA V.next from rfl,m];dsimp only;rw[Zq sM,K];dsimp only;rw[Zq sM]
 ·have:=((e.trans f).trans g).trans M
  exact⟨by have:=this.files;omega,by have:=this.used;omega,this.most⟩
def IZ(c:dt D A no y j)(e:FT V A no y)(P:DY D)(u:pJ V D)(v:V.next<1000000000000)(w:A.length+2<=64)(z:D.files.length+2<=64)(B:∀g∈x,g.aN.length<=64)(o:600+(aC x).length+D.used<=D.most):
  ∃h E,aK V D x=(0,h,E)/\DY E/\E.most=D.most/\(E.files.length:Int)+2*V.next<=D.files.length+2*h.next/\(E.used:Int)+600*V.next<=D.used+(aC x).length+600*h.next:=by
 have C:x.any iG=false:=by
  rw[List.any_eq_false];intro g F;have:=B g F;unfold iG;simp;omega
 have a:∀{V:dh} {D:al} {A:sC} {no:Int} {y:List aj} {j:Nat},dt D A no y j->FT V A no y->DY D->(aC x).length+D.used<=D.most->∃E,D.append V.last (aC x)=(0,E)/\DY E/\gy D E 0 (aC x).length:=λ{V D A no y j} c e P o=>by
  obtain⟨L,p,-⟩:=c.last;have M:=c.pI;rw[dt.sE e];have d:=wC P.alive (b:=aC x) p o;have q:=P.ok.append (aA no) (aC x);rw[d]at q;exact⟨_,d,⟨P.alive.same rfl rfl,q,by rw[fj (fh (n:=no) (.inr oM)).2.symm];exact P.NP⟩,gy.put p sM⟩
 unfold aK;rw[Zq (by rw[C];simp)]
 by_cases r:x=[]
 ·rw[Zx r]
  exact⟨V,D,rfl,P,rfl,Int.le_refl _,oM⟩
 rw[Zq r]
 by_cases s:V.size<=V.bytes
 ·obtain⟨f,N,d,O,H,i⟩:=IY c e P u v w z oM
  have Q:=i.files;have R:=i.used;have S:=i.most;rcases c.begin e with⟨t,-⟩|⟨-,-,k,l,-⟩
  ·rw[d]at t;exact Zz rfl t
  rw[d]at k l;dsimp only at k l;obtain⟨E,m,n,b⟩:=a k l H oM;have I:=b.files;have J:=b.used;have K:=b.most;refine⟨⟨f.size,f.bf,XG .i64 (f.bytes+((aC x).length:Nat)),f.next⟩,E,?_,n,oM,?_,?_⟩
  ·rw[Zx s,d]
   dsimp only;rw[Zq sM,m];dsimp only;rw[Zq sM]
  ·dsimp only;omega
  ·dsimp only;omega
 ·obtain⟨E,m,n,b⟩:=a c e P oM
  have I:=b.files;have J:=b.used;have K:=b.most;refine⟨⟨V.size,V.bf,XG .i64 (V.bytes+((aC x).length:Nat)),V.next⟩,E,?_,n,oM,?_,?_⟩
  ·rw[Zq s]
   dsimp only;rw[Zq sM,m];dsimp only;rw[Zq sM]
  ·dsimp only;omega
  ·dsimp only;omega
def Kg{size:Nat}:∀{A:sC},RW (size:Int) A->size*A.length<=(aC (fK A y)).length
 |[],_=>by simp
 |a::A,P=>by
  have e:=P a (QV ..);have f:=Kg (A:=A) λb c=>P b (QJ _ c);have d:fK (a::A) y=a.2++fK A y:=by simp[fK]
  rw[d,fv,QX,Xq,Nat.mul_succ];omega
structure Roomy (Y:bQ) (b:Nat):Prop where
 NQ:DY Y.D
 most:Y.D.most=262144
 log:∃V A no l j,Y.log=some V/\dt Y.D A no l j/\FT V A no l/\pJ V Y.D/\RW V.size A/\V.size=400/\V.next=A.length+2/\(Y.D.files.length:Int)<=2*V.next/\(Y.D.used:Int)<=b+600*V.next/\(aC (fK A l)).length<=b
def Roomy.mono(P:Roomy Y b)(k:b<=n):Roomy Y n:=by
 obtain⟨V,A,no,l,j,a,c,d,e,f,g,h,i,m,o⟩:=P.log;exact⟨P.NQ,P.most,V,A,no,l,j,a,c,d,e,f,g,h,i,oM,oM⟩
def Roomy.same{Z:bQ}(a:Roomy Y b)(P:Z.D=Y.D)(c:Z.log=Y.log):Roomy Z b:=by
 obtain⟨V,A,no,l,j,d,e,f,g,h,i,k,m,n,o⟩:=a.log;exact⟨by rw[P];exact a.NQ,by rw[P];exact a.most,V,A,no,l,j,by rw[c];exact d,by rw[P];exact e,f,by rw[P];exact g,h,i,k,by rw[P];exact m,by rw[P];exact n,o⟩
def Roomy.take(d:Roomy Y b)(C:∀P∈x,P.Ok/\P.aN.length<=64)(M:x.length<=20000000)(T:b+(aC x).length<=10080)(c:cH):
  ∃h,cT c Y x=(0,h)/\Roomy h (b+(aC x).length)/\h.S=dZ c Y.S x/\h.waits=Y.waits:=by
 obtain⟨V,A,no,l,j,N,o,p,E,q,F,H,U,W,X⟩:=d.log;have Z:=d.most;have a0:400*A.length<=(aC (fK A l)).length:=Kg (size:=400) (by rw[F]at q;exact q);obtain⟨I,r,J,i,f2,f3,f4⟩:=IZ (x:=x) o p d.NQ E oM oM oM (λP s=>(C P s).2) oM;obtain⟨O,a,k,j',e,f,-,t,n,Q,u⟩:=FX (x:=x) o p (λP s=>(C P s).1) M d.NQ.ok q;obtain⟨-,-,v⟩:=DJ o p d.NQ.alive E oM x;rw[J]at e f t n u v;rw[Zx rfl]at t;dsimp only at e f n u v;obtain⟨a1,K,-⟩:=e.last;have a2:=e.pI;have a3:=f.next;have w:=qq i.alive K;have L:=i.ok.sync (aA a);rw[w]at L;have y:gy r (r.bZ (aA a) (cR (aC k))) 0 0:=gy.put K (by simp[cR]);have a4:=y.files;have a5:=y.used;have a6:=y.most;refine⟨{Y with log:=some I,D:=r.bZ (aA a) (cR (aC k)),S:=dZ c Y.S x},?_,⟨⟨i.alive.same rfl rfl,L,?_⟩,by dsimp only;omega,I,O,a,k,k.length,rfl,?_,f,?_,by rw[n];exact Q,by rw[n];exact F,?_,by dsimp only;omega,by dsimp only;omega,?_⟩,rfl,rfl⟩
 ·unfold cT
  rw[N];dsimp only;rw[J];dsimp only;rw[Zq sM,dt.sE f,w];dsimp only;rw[Zq sM]
 ·rw[fj (fh (n:=a) (.inr oM)).2.symm];exact i.NP
 ·have:=BV e
  rw[w]at this;rcases this with g|g
  ·exact g.2
  ·exact Zz rfl g.1
 ·intro m R S
  rw[fj λP=>by have:=fu (a:=a) oM P;omega];exact v m R S
 ·rcases u with⟨z,-,B⟩|⟨z,-,B⟩
  ·rw[z,B];exact H
  ·rw[z,B,QX,H];simp;omega
 ·rw[t,fv,QX];omega
def DZ:∀{l:List aj},(∀e∈l,e.Ok/\e.aN.length<=3)->(aC l).length<=126*l.length
 |[],_=>by simp[aC]
 |e::l,P=>by
  obtain⟨a,f⟩:=P e (QV ..);have g:=DZ (l:=l) λb c=>P b (QJ _ c);have h:=dW (a.ints oM);have i:(iz e).length=10+e.aN.length:=by simp[iz];omega
  have j:(sx e).length<=126:=by unfold sx;rw[gT];omega
  have d:aC (e::l)=sx e++aC l:=by simp[aC]
  rw[d,QX,Xq];omega
def LH:(bA (ei 262144) 400).no=0/\(bA (ei 262144) 400).D.most=262144/\(bA (ei 262144) 400).D.used<=1200/\(bA (ei 262144) 400).D.files.length<=4/\ax (bA (ei 262144) 400).D.files aE=none:=by decide+kernel
end
def Aq:∀{d f:List aj},Oz d->Oz f->(∀e,e∈d↔e∈f)->d=f
 |[],[],_,_,_=>rfl
 |[],g::f,_,_,P=>Zz ((P g).2 (QV ..)) sM
 |x::d,[],_,_,P=>Zz ((P x).1 (QV ..)) sM
 |x::d,g::f,m,n,P=>by
  have a:=List.pairwise_cons.1 m;have b:=List.pairwise_cons.1 n;have h:∀j:aj,dU j j≠true:=λj k=>by have:=im k;rw[k]at this;cases this
  have o:x=g:=by
   rcases Q2.1 ((P x).1 (QV ..))with e|e
   ·exact e
   rcases Q2.1 ((P g).2 (QV ..))with E|E
   ·exact E.symm
   ·have p:=a.1 g E;have l:=b.1 x e;rw[im p]at l;cases l
  subst o;rw[Aq a.2 b.2 λe=>⟨λi=>?_,λi=>?_⟩]
  ·rcases Q2.1 ((P e).1 (QJ _ i))with c|c
   ·exact Zz (c▸a.1 e i) (h _)
   ·exact c
  ·rcases Q2.1 ((P e).2 (QJ _ i))with c|c
   ·exact Zz (c▸b.1 e i) (h _)
   ·exact c
variable{e:Int}{a3:List cG}{a c:Nat}{a6 f:XN}{c0 d e8 r:ZH}{C:aM}{A:ar}{c2:iu}
def Jp(e:A.Cl)(i:a<A.n)(j:∀P∈A.l,P.origin=a->P.seq<=c)(k:c≠0->∃P∈A.l,P.origin=a/\P.seq=c):A.mD a=c:=by
 apply Nat.le_antisymm
 ·by_cases f:A.mD a=0
  ·omega
  obtain⟨P,b,g⟩:=e.has a (A.mD a) i oM (Int.le_refl _);have d:P.origin=a:=Zj Prod.fst g;have h:P.seq=A.mD a:=Zj Prod.snd g;have:=j P b d;omega
 ·by_cases f:c=0
  ·omega
  obtain⟨P,b,d,h⟩:=k f;have:=e.le P b;rw[d,h,Qx]at this;omega
def mB(P:ar)(b:a<P.n):cP P.vec a=(P.mD a:Int):=by
 rw[xB (x:=(P.mD a:Int)) oM (by rw[Qx];exact P.jw b)];omega
structure gA (o:Nat) (P:List aj):Prop where
 cl:ar.Cl ⟨3,P⟩
 o3:o<3
 at':∀(i:Nat) (x:aj),P[i]? =some x->x.origin=o/\x.seq=(i:Int)+1
structure Has (S:ar) (O P:List aj) (k:Nat):Prop where
 cl:S.Cl
 n:S.n=3
 mem:∀e,e∈S.l↔e∈O\/e∈P.take k
section
variable {S T:ar} {O P:List aj} {a b i j k r:Nat} {e x:aj} {c:cH} {A B X Y:bQ} {m:cG} {v:List Int}
def gA.mem(b:gA a O)(c:e∈O):∃i,i<O.length/\O[i]? =some e/\e.origin=a/\e.seq=(i:Int)+1:=by
 obtain⟨i,P⟩:=List.mem_iff_getElem?.1 c;exact⟨i,(Qv.1 P).1,P,b.at' i e P⟩
def gA.take(b:gA a O)(c:e∈O.take k):∃i,i<k/\O[i]? =some e/\e.origin=a/\e.seq=(i:Int)+1:=by
 obtain⟨i,P⟩:=List.mem_iff_getElem?.1 c;rw[Xw]at P;split at P
 ·rename_i d;exact⟨i,d,P,b.at' i e P⟩
 ·cases P
def GZ(a:P[i]? =some e)(b:i<k):e∈P.take k:=QZ (i:=i) (by rw[Xw,Zx b];exact a)
def Has.own(d:Has S O P k)(f:gA a O)(h:gA b P)(m:a≠b):S.mD a=O.length:=
 Jp d.cl (by rw[d.n];exact f.o3) (λe j n=>by
  rcases(d.mem e).1 j with c|c
  ·obtain⟨i,l,-,-,o⟩:=f.mem c;omega
  ·obtain⟨i,-,-,l,-⟩:=h.take c;omega) λp=>by
  have c:O[O.length-1]? =some O[O.length-1]:=Qq oM;have g:=f.at' _ _ c;exact⟨_,(d.mem _).2 (.inl (QZ c)),g.1,by rw[g.2];omega⟩
def Has.other(d:Has S O P k)(h:gA a O)(f:gA b P)(m:a≠b)(n:k<=P.length):S.mD b=k:=
 Jp d.cl (by rw[d.n];exact f.o3) (λe j o=>by
  rcases(d.mem e).1 j with c|c
  ·obtain⟨i,-,-,l,-⟩:=h.mem c;omega
  ·obtain⟨i,l,-,-,p⟩:=f.take c;omega) λq=>by
  have c:P[k-1]? =some P[k-1]:=Qq oM;have g:=f.at' _ _ c;exact⟨_,(d.mem _).2 (.inr (GZ c oM)),g.1,by rw[g.2];omega⟩
def Has.add(c:Has S O P k)(q:gA a O)(d:gA b P)(u:a≠b)(g:P[k]? =some e):S.add e=(0,⟨3,cX e S.l⟩)/\Has ⟨3,cX e S.l⟩ O P (k+1):=by
 have v:=(Qv.1 g).1;have l:=QZ g;obtain⟨w,y⟩:=d.at' k e g;have z:=d.cl.ok.Eo e l;have A:S.get (aR e)=none:=by
  cases B:S.get (aR e)with
  |none=>rfl
  |some x=>
   obtain⟨m,h⟩:=ar.get_some B;have M:x.origin=e.origin:=Zj Prod.fst h;have N:x.seq=e.seq:=Zj Prod.snd h;rcases(c.mem x).1 m with f|f
   ·obtain⟨i,-,-,n,-⟩:=q.mem f;omega
   ·obtain⟨i,n,-,-,r⟩:=d.take f;omega
 have C:e.seq=S.vec.getD e.origin.toNat 0+1:=by
  rw[w,Qx,S.gE (by rw[c.n];exact d.o3),c.other q d u oM,y]
 have E:∀j,j<S.n->S.i_ e j=true:=λj s=>by
  rw[c.n]at s;have:=d.cl.i_ e l j s;rw[lR]at this⊢;rcases this with F|⟨x,n,r,H⟩
  ·exact .inl F
  ·obtain⟨m,h⟩:=ar.get_some n
   obtain⟨i,I,o,Q,R⟩:=d.mem m;have J:i<k:=by
    rcases Nat.lt_trichotomy i k with f|f|f
    ·exact f
    ·subst f;rw[o]at g;cases g;omega
    ·have K:=List.pairwise_iff_getElem.1 d.cl.ok.Hi k i v I f
     rw[(Qv.1 g).2,(Qv.1 o).2,gF]at K;omega
   refine .inr ⟨x,?_,r,H⟩;rw[<-h];exact c.cl.ok.get ((c.mem x).2 (.inr (GZ o J)))
 have p:=ar.CI (S:=S) (by rw[c.n];exact z) A C E;rw[c.n]at p;have t:=c.cl.add (d.cl.ok.ok e l);rw[p]at t;refine⟨p,t,rfl,λL=>?_⟩;show L∈cX e S.l↔_;rw[(cV e S.l).mem_iff,Q2,c.mem,Qw,g,Q6];simp only[Option.toList_some,List.mem_singleton];exact⟨λc=>c.elim (λc=>.inr (.inr c)) λc=>c.imp id .inl,λc=>c.elim (λc=>.inr (.inl c)) λc=>c.elim (λc=>.inr (.inr c)) .inl⟩
def Has.SX(h:gA a O)(i:gA b P)(j:a≠b)(d:Nat):∀(r k:Nat) {S:ar} (c:List aj),Has S O P k->k+r<=P.length->
  ∃f,eN d ((P.drop k).take r) S c []=(f,c++(P.drop k).take r,[])/\Has f O P (k+r)/\S.eI ((P.drop k).take r)=f
 |0,k,S,c,g,_=>⟨S,by simp[eN],g,by simp[ar.eI]⟩
 |r+1,k,S,c,g,q=>by
  have e:k<P.length:=oM
  obtain⟨l,m⟩:=g.add h i j (Qq e);obtain⟨f,n,o,p⟩:=Has.SX h i j d r (k+1) (c++[P[k]]) m oM;refine⟨f,?_,by rw[show k+(r+1)=k+1+r by omega];exact o,?_⟩
  ·rw[X4 e,Zw]
   unfold eN;rw[l,Zx rfl];dsimp only;rw[n,XQ];rfl
  ·rw[X4 e,Zw]
   show(S.add P[k]).2.eI _=_;rw[l];exact p
def Has.missing(l:Has S O P k)(h:gA a O)(q:gA b P)(s:a≠b)(m:cP v a=i)(t:(k:Int)<=cP v b)(c:Int):S.missing v c=(O.drop i).take (max 0 c).toNat:=by
 unfold ar.missing
 congr 1
 refine Aq (l.cl.ok.Hi.filter _) (h.cl.ok.Hi.drop) λe=>?_;rw[List.mem_filter,l.mem,Zk];constructor
 ·rintro⟨d|d,n⟩
  ·obtain⟨f,r,o,g,p⟩:=h.mem d
   rw[g,m]at n;exact QZ (i:=f-i) (by rw[List.getElem?_drop,show i+(f-i)=f by omega];exact o)
  ·obtain⟨f,r,o,g,p⟩:=q.take d
   rw[g]at n;omega
 ·intro d
  obtain⟨f,j⟩:=List.mem_iff_getElem?.1 d;rw[List.getElem?_drop]at j;obtain⟨g,p⟩:=h.at' _ _ j;exact⟨.inl (QZ j),by rw[g,m];omega⟩
structure lI (Y:bQ) (O P:List aj) (k:Nat):Prop where
 has:Has Y.S O P k
 waits:Y.waits=[]
 room:Roomy Y (126*(40+k))
structure Ec (c:cH):Prop where
 bB:c.bB=3
 chunk:1<=c.chunk/\c.chunk<=32
def Ek(a:gA b P):∀e∈P,e.Ok/\e.aN.length<=3:=λe c=>⟨a.cl.ok.ok e c,by
 obtain⟨-,-,-,-,-,-,d,-⟩:=ir (a.cl.ok.Eo e c);rw[d];exact Q4 _⟩
def Jq(d:Ec c){s P:Int}(a:0<=s/\s<3)(b:0<=P/\P<3)(e:s≠P):(!(decide (0<=s)&&decide (s<(c.bB.toNat:Nat)))|| !(decide (0<=P)&&decide (P<(c.bB.toNat:Nat)))||s==P)=false:=by
 have f:((c.bB.toNat:Nat):Int)=3:=by rw[d.bB];rfl
 rw[f];simp[a.1,a.2,b.1,b.2,e]
def lI.chunk(q:lI Y O P k)(n:gA a O)(f:gA b P)(s:a≠b)(m:Ec c)(L:1<=r)(M:(r:Int)<=c.chunk)(t:k+r<=P.length)(N:P.length<=40):
  ∃g,bh c a Y ⟨3,b,a,[],(P.drop k).take r⟩=([⟨4,a,b,g.S.vec,[]⟩],0,g)/\lI g O P (k+r):=by
 obtain⟨h,u,o⟩:=q;have Q:=n.o3;have R:=f.o3;obtain⟨S,A,no,T,j,v,-⟩:=o.log;have i:((P.drop k).take r).length=r:=by rw[Qy,XZ];omega
 have l:∀e∈(P.drop k).take r,e∈P:=λe d=>List.mem_of_mem_drop (List.mem_of_mem_take d);have w:(P.drop k).take r≠[]:=λe=>by rw[e]at i;simp at i;omega
 obtain⟨x,y,z,B⟩:=Has.SX n f s c.buffer.toNat r k [] h t;have p:Y.S.n=c.bB.toNat:=by rw[h.n,m.bB];rfl
 have C:iD c Y ((P.drop k).take r)=((P.drop k).take r,[]):=by
  unfold iD;rw[u,pf h.cl p];show(pQ ((eN c.buffer.toNat ((P.drop k).take r) Y.S [] []).2.2.length+1) (eN c.buffer.toNat ((P.drop k).take r) Y.S [] []).1 (eN c.buffer.toNat ((P.drop k).take r) Y.S [] []).2.1 (eN c.buffer.toNat ((P.drop k).take r) Y.S [] []).2.2)=_;rw[y];simp[pQ,bz,dP,eg]
 have E:de ⟨3,b,a,[],(P.drop k).take r⟩ c.bB.toNat c.chunk=0:=by
  unfold de;dsimp only;rw[Zx rfl,Zq (by rw[Jq m oM oM oM];simp)];unfold ej;dsimp only;rw[Zq sM,Zq (by rw[i];omega)];exact Ka λe d=>by rw[m.bB];exact f.cl.ok.Eo e (l e d)
 have U:(aC ((P.drop k).take r)).length<=126*r:=by
  have:=DZ (l:=(P.drop k).take r) λe d=>Ek f e (l e d)
  rwa [i]at this
 obtain⟨g,F,H,I,J⟩:=(o.same (Z:={Y with waits:=[]}) rfl rfl).take (x:=(P.drop k).take r) (λe d=>⟨(Ek f e (l e d)).1,by have:=(Ek f e (l e d)).2;omega⟩) oM oM c;have K:g.S=x:=by rw[I,pf h.cl p];exact B
 refine⟨g,?_,by rw[K];exact z,J,H.mono oM⟩;unfold bh;rw[v];dsimp only;rw[Zq (by rw[E];simp),Zq sM,Zx rfl];unfold lF;dsimp only;rw[C];dsimp only;rw[Zq w,F];dsimp only;rw[Zq sM]
 rfl
structure Ko (m:cG) (a b:Nat) (O P:List aj) (i:Nat):Prop where
 kind:m.kind=4\/m.kind=2/\i<O.length
 bE:m.bE=(b:Int)
 lf:m.lf=(a:Int)
 evs:m.events=[]
 len:m.vec.length=3
 pos:∀x∈m.vec,0<=x
 own:cP m.vec a=(i:Int)
 other:cP m.vec b=(P.length:Int)
def Kp(S:ar):∀x∈S.vec,0<=x:=λx P=>by
 unfold ar.vec at P;obtain⟨a,-,rfl⟩:=Xk.1 P;omega
def Has.ask(c:Has S P O i)(d:gA a O)(e:gA b P)(h:a≠b)(j:i<=O.length){f:Int}(k:f=4\/f=2/\i<O.length):Ko ⟨f,b,a,S.vec,[]⟩ a b O P i:=by
 have g:=h.symm;exact⟨k,rfl,rfl,rfl,by show S.vec.length=3;rw[S.bd,c.n],Kp S,by show cP S.vec _=_;rw[mB S (by rw[c.n];exact d.o3),c.other e d g j],by show cP S.vec _=_;rw[mB S (by rw[c.n];exact e.o3),c.own e d g]⟩
def Eo(c:cH)(a b:Nat)(O:List aj)(i:Nat):List cG:=if i<O.length then [⟨3,a,b,[],(O.drop i).take c.chunk.toNat⟩]else []
def lI.ask(B:lI X O P k)(t:gA a O)(u:gA b P)(C:a≠b)(n:Ec c)(R:k<=P.length)(E:Ko m a b O P i):
  ∃v,bh c a X m=(Eo c a b O i,0,v)/\lI v O P k:=by
 obtain⟨f,o,g⟩:=B;have S:=t.o3;have T:=u.o3;obtain⟨U,V⟩:=n.chunk;obtain⟨F,A,no,W,j,h,-⟩:=g.log;obtain⟨p,q,w,H,I,J,K,L⟩:=E;have M:de m c.bB.toNat c.chunk=0:=by
  unfold de;rw[q,w];dsimp only;rw[Zq oM,Zx oM,Zq (by rw[Jq n oM oM oM];simp)];unfold eO;rw[H,Zq sM,Zq (by rw[I,n.bB];simp),Zq];simp only[List.any_eq_true,Zk,not_exists,not_and];intro x N;have:=J x N;omega
 have y:∀d:Int,X.S.missing m.vec d=(O.drop i).take (max 0 d).toNat:=λd=>f.missing t u C K (by rw[L];omega) d;have r:∀s:Nat,1<=s->((O.drop i).take s=[]↔¬i<O.length):=λs Y=>by
  constructor
  ·intro e
   have:=Zj List.length e;rw[Qy,XZ]at this;simp at this;omega
  ·intro e
   rw[List.drop_eq_nil_of_le oM,List.take_nil]
 unfold bh;rw[h];dsimp only;rw[Zq (by rw[M];simp),Zq (by rw[w];simp),Zq oM];unfold Eo;rcases p with p|⟨p,z⟩
 ·rw[Zq oM,y,show(max 0 c.chunk).toNat=c.chunk.toNat by omega]
  by_cases l:i<O.length
  ·rw[Zq (λe=>(r _ oM).1 e l),Zx l,q]
   exact⟨_,rfl,f,o,g.same rfl h.symm⟩
  ·rw[Zx ((r _ oM).2 l),Zq l]
   exact⟨_,rfl,f,o,g.same rfl h.symm⟩
 ·rw[Zx oM,Zx z]
  have Q:0<((O.drop i).take c.chunk.toNat).length:=List.length_pos_iff.2 λe=>(r _ oM).1 e z;refine⟨⟨X.S,X.D,some F,X.waits,X.jA.vK m.bE m.vec X.S.vec⟩,?_,f,o,g.same rfl h.symm⟩;unfold fR;rw[Zq oM];dsimp only;rw[y,show(max 0 (max 1 (min c.chunk 32))).toNat=c.chunk.toNat by omega,Zx Q,Zq (show¬(m.kind=1/\(jh m.vec X.S.vec=2\/jh m.vec X.S.vec=3)) by omega),q]
  rfl
inductive Bo (c:cH) (a b:Nat) (O P:List aj):Nat->List cG->XN
 |idle:Bo c a b O P O.length [] 0
 |ask {i:Nat} {m:cG}:Ko m a b O P i->i<=O.length->Bo c a b O P i [m] (2*(O.length-i)+1)
 |chunk {i r:Nat}:1<=r->(r:Int)<=c.chunk->i+r<=O.length->Bo c a b O P i [⟨3,a,b,[],(O.drop i).take r⟩] (2*(O.length-i))
def Kq(f:Ec c)(g:i<=O.length):∃d,Bo c a b O P i (Eo c a b O i) d/\d<=2*(O.length-i):=by
 obtain⟨h,j⟩:=f.chunk;unfold Eo
 by_cases e:i<O.length
 ·rw[Zx e,show(O.drop i).take c.chunk.toNat=(O.drop i).take (min c.chunk.toNat (O.length-i)) by
   rw[Nat.min_comm,<-List.take_take,Qz (i:=O.length-i) (by rw[Qy,XZ];omega)]]
  exact⟨_,.chunk oM oM oM,Q4 _⟩
 ·rw[Zq e,show i=O.length by omega]
  exact⟨_,.idle,Qj _⟩
def Bo.step(w:Bo c a b O P i [m] k)(n:gA a O)(o:gA b P)(g:a≠b)(p:Ec c)(x:O.length<=40)(y:lI A O P j)(z:j<=P.length)(C:lI B P O i):
  (m.lf=a/\∃h e d,bh c a A m=(e,0,h)/\lI h O P j/\Bo c a b O P i e d/\d<k)\/
  (m.lf=b/\∃l e d t,bh c b B m=(e,0,l)/\lI l P O t/\Bo c a b O P t e d/\d<k):=by
 cases w with
 |ask u E=>
  obtain⟨h,q,s⟩:=y.ask n o g p z u;obtain⟨d,f,H⟩:=Kq (a:=a) (b:=b) (P:=P) p E;exact .inl ⟨u.lf,h,_,d,q,s,f,oM⟩
 |chunk q s f=>
  rename_i r;obtain⟨l,F,v⟩:=C.chunk o n g.symm p q s f x;exact .inr ⟨rfl,l,_,_,i+r,F,v,.ask (v.has.ask n o g f (.inl rfl)) f,oM⟩
def Bo.some(d:Bo c a b O P i ([]:List cG) k):i=O.length:=by cases d;rfl
def Bo.le(d:Bo c a b O P i a3 k):i<=O.length:=by
 cases d with
 |idle=>exact Q4 _
 |ask _ d=>exact d
 |chunk _ _ d=>omega
def Bo.one(d:Bo c a b O P i a3 k):a3=[]\/∃m,a3=[m]:=by
 cases d with
 |idle=>exact .inl rfl
 |ask=>exact .inr ⟨_,rfl⟩
 |chunk=>exact .inr ⟨_,rfl⟩
def Bo.zero(d:Bo c a b O P i a3 0):a3=[]:=by
 generalize e:(0:Nat)=k at d
 cases d with
 |idle=>rfl
 |ask=>omega
 |chunk=>omega
def Oh{a b P:List cG}{m:cG}(c:a=[]\/∃m,a=[m])(d:b=[]\/∃m,b=[m])(e:m::P=a++b\/m::P=b++a):(a=[m]/\P=b)\/(b=[m]/\P=a):=by
 rcases c with rfl|⟨x,rfl⟩<;>rcases d with rfl|⟨f,rfl⟩<;>simp_all
 all_goals(rcases e with⟨rfl,rfl⟩|⟨rfl,rfl⟩<;>simp)
def meets(K:gA 0 O)(L:gA 2 P)(M:Ec c)(R:O.length<=40)(S:P.length<=40):∀(f:Nat) {A B:bQ} {v w t u:Nat} {q r l:List cG},lI A O P w->lI B P O v->Bo c 0 2 O P v q t->Bo c 2 0 P O w r u->(l=q++r\/l=r++q)->t+u<=f->
  ∃j k,gh c 0 c 2 0 2 f A B l=some (j,k)/\lI j O P P.length/\lI k P O O.length:=by
 intro f
 induction f with
 |zero=>
  intro A B v w t u q r l n o g i s T;obtain rfl:t=0:=oM
  obtain rfl:u=0:=oM
  have y:=g.zero;have z:=i.zero;subst y z;have s:l=[]:=by simpa using s
  have C:=g.some;have E:=i.some;subst C E;exact⟨A,B,by unfold gh;rw[Zx s],n,o⟩
 |succ f x=>
  intro A B v w t u q r l n o g i s T
  cases l with
  |nil=>
   obtain⟨y,z⟩:q=[]/\r=[]:=by
    rcases s with h|h
    ·simpa using h.symm
    ·have:=h.symm;simp at this;exact⟨this.2,this.1⟩
   subst y z;have C:=g.some;have E:=i.some;subst C E;exact⟨A,B,rfl,n,o⟩
  |cons m a=>
   have N:∀{b j},m.lf=0->bh c 0 A m=(b,0,j)->gh c 0 c 2 0 2 (f+1) A B (m::a)=gh c 0 c 2 0 2 f j B (a++b):=λ{b j} e d=>by
    rw[gh,Zq oM,Zq oM,d,Zq sM]
   have Q:∀{b k},m.lf=2->bh c 2 B m=(b,0,k)->gh c 0 c 2 0 2 (f+1) A B (m::a)=gh c 0 c 2 0 2 f A k (a++b):=λ{b k} e d=>by
    rw[gh,Zx e,d,Zq sM]
   rcases Oh g.one i.one s with⟨rfl,rfl⟩|⟨rfl,rfl⟩
   ·rcases g.step K L dC M R n i.le o with⟨e,j,b,F,d,H,p,I⟩|⟨e,k,b,F,U,d,J,p,I⟩
    ·rw[N e d]
     exact x H o p i (.inr rfl) oM
    ·rw[Q e d]
     exact x n J p i (.inr rfl) oM
   ·rcases i.step L K dC M S o g.le n with⟨e,k,b,F,d,J,p,I⟩|⟨e,j,b,F,U,d,H,p,I⟩
    ·rw[Q e d]
     exact x n J g p (.inl rfl) oM
    ·rw[N e d]
     exact x H o g p (.inl rfl) oM
def G_{P a:List Int}(b:∀c:Nat,cP P c<=cP a c):∀k,iW P a k=0\/iW P a k=1
 |0=>.inl rfl
 |k+1=>by
  have e:=b k;unfold iW;rcases G_ b k with d|d<;>rw[d]<;>split
  ·exact .inr dC
  ·rw[Zq oM];exact .inl rfl
  ·exact .inr dC
  ·rw[Zq oM];exact .inr rfl
def Je(d:gA 0 O)(g:gA 2 P)(n:Ec c)(S:O.length<=40)(T:P.length<=40)(a:lI A O P 0)(U:lI B P O 0):
  (eW c 0 A 2 0).1.length=1/\∃s o,gh c 0 c 2 0 2 1000 (eW c 0 A 2 0).2 B (eW c 0 A 2 0).1=some (s,o)/\lI s O P P.length/\lI o P O O.length:=by
 obtain⟨b1,b2⟩:=n.chunk;have V:eW c 0 A 2 0=([dH A.S 0 2],{A with jA:={A.jA with asked:=aJ A.jA.asked 2 0}}):=by
  unfold eW;rw[Zq (by rw[n.bB];omega)]
 rw[V];refine⟨rfl,?_⟩;have W:lI {A with jA:={A.jA with asked:=aJ A.jA.asked 2 0}} O P 0:=⟨a.has,a.waits,a.room.same rfl rfl⟩
 obtain⟨p,X,F⟩:=U;obtain⟨a1,a2,no,a4,j,H,-⟩:=F.log;have I:cP A.S.vec 0=(O.length:Int):=by rw[show(0:Int)=((0:Nat):Int)from rfl,mB A.S (by rw[a.has.n];decide),a.has.own d g dC]
 have Y:cP A.S.vec 2=0:=by rw[show(2:Int)=((2:Nat):Int)from rfl,mB A.S (by rw[a.has.n];decide),a.has.other d g dC (Qj _)];rfl
 have Z:cP B.S.vec 0=0:=by rw[show(0:Int)=((0:Nat):Int)from rfl,mB B.S (by rw[p.n];decide),p.other g d dC (Qj _)]
 have a7:de (dH A.S 0 2) c.bB.toNat c.chunk=0:=by
  unfold de dH;dsimp only;rw[Zq oM,Zx oM,Zq (by rw[Jq n oM oM oM];simp)];unfold eO;dsimp only;rw[Zq sM,Zq (by rw[A.S.bd,a.has.n,n.bB];simp),Zq];simp only[List.any_eq_true,Zk,not_exists,not_and];intro x hx;have:=Kp A.S x hx;omega
 have a0:B.S.missing A.S.vec (max 1 (min c.chunk 32))=(P.drop 0).take c.chunk.toNat:=by
  rw[p.missing g d dC (i:=0) Y (by rw[show((0:Nat):Int)=0 from rfl];rw[I];omega),show(max 0 (max 1 (min c.chunk 32))).toNat=c.chunk.toNat by omega]
 have J:(jh A.S.vec B.S.vec=2\/jh A.S.vec B.S.vec=3)↔0<O.length:=by
  constructor
  ·intro b
   rcases Nat.eq_zero_or_pos O.length with h|h
   ·have a8:∀l:Nat,cP A.S.vec l<=cP B.S.vec l:=λl=>by
     have v:0<=cP B.S.vec l:=by unfold cP;split<;>omega
     rcases Nat.lt_or_ge l 3 with K|K
     ·rw[mB A.S (by rw[a.has.n];exact K)]
      by_cases ho:l=0
      ·subst ho;rw[a.has.own d g dC,h];exact v
      ·have:A.S.mD l=0:=Jp a.has.cl (by rw[a.has.n];exact K) (λe he L=>by
        rcases(a.has.mem e).1 he with r|r
        ·obtain⟨i,g1,-⟩:=d.mem r;omega
        ·simp at r) λb=>Zz rfl b
       rw[this];exact v
     ·rw[zb (by rw[A.S.bd,a.has.n];omega)];exact v
    have:=G_ a8 (max A.S.vec.length B.S.vec.length);unfold jh at b;omega
   ·exact h
  ·intro b
   have K:max A.S.vec.length B.S.vec.length=3:=by rw[A.S.bd,B.S.bd,a.has.n,p.n];rfl
   unfold jh;rw[K];have L:iW A.S.vec B.S.vec 1=2:=by
    show(if cP A.S.vec ((0:Nat):Int)<cP B.S.vec ((0:Nat):Int)then _ else if cP A.S.vec ((0:Nat):Int)>cP B.S.vec ((0:Nat):Int)then _ else _)=_;rw[show((0:Nat):Int)=0 from rfl,I,Z,Zq oM,Zx oM];show L_ .i64 0 2=2
    decide
   have M:∀k,iW A.S.vec B.S.vec k=2\/iW A.S.vec B.S.vec k=3->iW A.S.vec B.S.vec (k+1)=2\/iW A.S.vec B.S.vec (k+1)=3:=λk t=>by
    unfold iW;rcases t with t|t<;>rw[t]<;>(repeat' split)<;>decide
   exact M 2 (M 1 (.inl L))
 have u:∃o,bh c 2 B (dH A.S 0 2)=(fR B.S 2 (dH A.S 0 2) c.chunk,0,o)/\lI o P O 0:=by
  unfold bh;rw[H];dsimp only;rw[Zq (by rw[a7];simp),Zq (by simp[dH]),Zq (by simp[dH]),Zx (by simp[dH])];exact⟨_,rfl,p,X,F.same rfl H.symm⟩
 obtain⟨o,u,N⟩:=u;have Q:0<((P.drop 0).take c.chunk.toNat).length↔0<P.length:=by rw[Qy,XZ];omega
 have a3:∃w y z m,fR B.S 2 (dH A.S 0 2) c.chunk=y++w/\Bo c 0 2 O P 0 w z/\Bo c 2 0 P O 0 y m/\z+m<=200:=by
  obtain⟨m,q,t2⟩:=Kq (a:=2) (b:=0) (O:=P) (P:=O) n (Qj _);have hv:=N.has;have f:∀{kd:Int},kd=4\/kd=2/\0<O.length->Ko ⟨kd,2,0,B.S.vec,[]⟩ 0 2 O P 0:=λb=>p.ask d g dC (Qj _) b;unfold fR;rw[Zq (by simp[dH])];dsimp only[dH];rw[a0];have a9:(if 0<((P.drop 0).take c.chunk.toNat).length then [(⟨3,2,0,[],(P.drop 0).take c.chunk.toNat⟩:cG)]else [])=Eo c 2 0 P 0:=by
   unfold Eo
   by_cases b:0<P.length
   ·rw[Zx (Q.2 b),Zx b];rfl
   ·rw[Zq (λC=>b (Q.1 C)),Zq b]
  rw[a9]
  by_cases h:0<O.length
  ·have E:=J.2 h
   simp only[E,and_true,if_true];rw[Zq sM];exact⟨_,_,_,m,rfl,.ask (f (.inr ⟨rfl,h⟩)) (Qj _),q,oM⟩
  ·have E:¬(jh A.S.vec B.S.vec=2\/jh A.S.vec B.S.vec=3):=λb=>h (J.1 b)
   simp only[E,and_false,if_false,List.append_nil];have hz:0=O.length:=oM
   by_cases R:0<P.length
   ·rw[Zq (by unfold Eo;rw[Zx R];simp)]
    exact⟨[],_,0,m,(List.append_nil _).symm,by have:=Bo.idle (c:=c) (a:=0) (b:=2) (O:=O) (P:=P);rw[<-hz]at this;exact this,q,oM⟩
   ·have b0:Eo c 2 0 P 0=[]:=by unfold Eo;rw[Zq R]
    rw[b0]at q⊢;rw[Zx (show([]:List cG).isEmpty=true from rfl)];exact⟨_,[],_,m,rfl,.ask (f (.inl rfl)) (Qj _),q,oM⟩
 obtain⟨w,y,z,m,ha,s1,q,hn⟩:=a3;rw[ha]at u;obtain⟨s,B2,r,C,K⟩:=meets d g n S T 999 W N s1 q (.inr rfl) oM;refine⟨s,B2,?_,C,K⟩;rw[gh,Zx (by simp[dH]),u,Zq sM];exact r
def Has.both(a:Has S O P P.length)(k:Has T P O O.length):S=T:=by
 obtain⟨b,g,c⟩:=a;obtain⟨d,h,f⟩:=k;have:S.l=T.l:=Aq b.ok.Hi d.ok.Hi λe=>by rw[c,f,List.take_length,List.take_length,or_comm]
 cases S;cases T
 simp_all
def Has.len(g:Has S O P P.length)(h:gA a O)(i:gA b P)(r:a≠b):S.l.length=O.length+P.length:=by
 have d:=g.mem;rw[List.take_length]at d;apply Nat.le_antisymm
 ·have:=Eb g.cl.ok.ids (m:=(O++P).map aR) λx c=>by
   obtain⟨e,f,rfl⟩:=Xk.1 c;exact List.mem_map_of_mem (Q6.2 ((d e).1 f))
  rw[Q8,Q8,QX]at this;exact this
 ·have j:((O++P).map aR).Nodup:=by
   rw[Q3,List.nodup_append];refine⟨h.cl.ok.ids,i.cl.ok.ids,λx c s k e=>?_⟩;obtain⟨l,m,n⟩:=Xk.1 c;obtain⟨o,p,q⟩:=Xk.1 k;obtain⟨-,-,-,t,-⟩:=h.mem m;obtain⟨-,-,-,u,-⟩:=i.mem p;have:l.origin=o.origin:=Zj Prod.fst ((n.trans e).trans q.symm);omega
  have:=Eb j (m:=S.l.map aR) λx c=>by
   obtain⟨e,f,rfl⟩:=Xk.1 c;exact List.mem_map_of_mem ((d e).2 (Q6.1 f))
  rw[Q8,Q8,QX]at this;exact this
structure pU (c:cH) (a:Nat) (X:bQ) (j:Nat):Prop where
 line:gA a X.S.l
 n:X.S.n=3
 len:X.S.l.length<=j
 waits:X.waits=[]
 room:Roomy X (126*j)
def pU.side(b:pU c a X j)(d:j<=40)(P:List aj):lI X X.S.l P 0:=⟨⟨by have:=b.line.cl;rw[<-b.n]at this;exact this,b.n,sM⟩,b.waits,b.room.mono oM⟩
def LU{d:aM}{V:aY}{o st:Int}{y:iu}(c:S.OK)(b:S.n=3):(jV d S V o st y).1.aN.length<=3:=by
 have a:∀{P:Prop} [Decidable P] {A B:aj×Bool×Int},A.1.aN.length<=3->B.1.aN.length<=3->(if P then A else B).1.aN.length<=3:=λ{P _ A B} h i=>by split<;>assumption
 rw[jD];refine a (Qj _) ?_
 cases f:S.keyed y.key with
 |some e=>
  obtain⟨-,-,-,-,-,-,g,-⟩:=ir (c.Eo e (List.mem_of_find?_eq_some f));show e.aN.length<=3;rw[g,b];exact Q4 _
 |none=>
  refine a (Qj _) (a (Qj _) ?_);show(aS y o S.vec (max S.top st)).2.aN.length<=3;unfold aS;dsimp only;split
  ·exact Qj _
  split
  ·exact Qj _
  ·show(gg S.vec []).length<=3
   unfold gg;rw[lg,S.bd,b];decide
def pU.done(h:pU c a X j)(x:jU c a)(y:Ec c)(Y:j<40)(z:c2.Ok)(B:aP c.start)(C:(bF c a X c2).2.2.S.Cl)(t:(bF c a X c2).2.2.S.n=3):pU c a (bF c a X c2).2.2 (j+1):=by
 obtain⟨d,g,Z,f,k⟩:=h;have n:X.S.Cl:=by have:=d.cl;rw[<-g]at this;exact this
 have o:X.S.n=c.bB.toNat:=by rw[g,y.bB];rfl
 have l:Roomy (bF c a X c2).2.2 (126*(j+1))/\(bF c a X c2).2.2.waits=[]:=by
  obtain⟨a0,A,no,a1,E,F,-⟩:=k.log;have a5:=d.o3;have p:=Ke (d:=c.decl) (V:=b_ c.decl X.S.l) (o:=(a:Int)) z n.ok bb B oM;have u:=LU (d:=c.decl) (V:=b_ c.decl X.S.l) (o:=(a:Int)) (st:=c.start) (y:=c2) n.ok g;unfold bF;rw[F];dsimp only;split
  ·exact⟨k.mono oM,f⟩
  split
  ·generalize(jV c.decl X.S (b_ c.decl X.S.l) a c.start c2).1=m at p u
   have H:=DZ (l:=[m]) λe q=>by rw[List.mem_singleton.1 q];exact⟨p,u⟩
   rw[List.length_singleton]at H;obtain⟨Y',I,J,t3,K⟩:=k.take (x:=[m]) (λe q=>by rw[List.mem_singleton.1 q];exact⟨p,oM⟩) sM oM c;rw[I];dsimp only;rw[Zq sM];exact⟨J.mono oM,K.trans f⟩
  ·exact⟨k.mono oM,f⟩
 obtain⟨L,M,N⟩:=Pg (x:=c2) x n o oM;have b:(bF c a X c2).2.2.S=X.S->pU c a (bF c a X c2).2.2 (j+1):=λe=>⟨by rw[e];exact d,by rw[e];exact g,by rw[e];omega,l.2,l.1⟩
 by_cases r:(bF c a X c2).1=0
 ·by_cases v:(bF c a X c2).2.2.S.l.length=X.S.l.length
  ·exact b (M r v).2
  ·obtain⟨e,w,-,s,-⟩:=N r v
   have O:(⟨3,(bF c a X c2).2.2.S.l⟩:ar)=(bF c a X c2).2.2.S:=by rw[<-t]
   refine⟨⟨by rw[O];exact C,d.o3,λi m P=>?_⟩,t,by rw[w];simp;omega,l.2,l.1⟩;rw[w]at P;rcases Nat.lt_or_ge i X.S.l.length with Q|R
   ·rw[XW Q]at P;exact d.at' i m P
   ·rw[X8 R]at P
    have S:i-X.S.l.length=0:=by
     rcases Nat.eq_zero_or_pos (i-X.S.l.length)with h|h
     ·exact h
     ·rw[Q7 bc]at P;cases P
    rw[S]at P;simp at P;subst P;have T:X.S.mD ((a:Int).toNat)=X.S.l.length:=by
     unfold ar.mD;rw[List.countP_eq_length.2];intro a2 f;obtain⟨E,-,-,U,-⟩:=d.mem f;simp[U]
    rw[T]at s;have V:e.origin=a:=Zj Prod.fst s;have W:e.seq=(X.S.l.length:Int)+1:=Zj Prod.snd s;exact⟨V,by rw[W];omega⟩
 ·exact b (L r)
end
def cK(P:aM)(a:Int):cH:={bH 3 with decl:=P,vE:=262144,chunk:=a}
def kj{d:aM}{P self:Int}(e:1<=P/\P<=32)(a:self=0\/self=2):bT (cK d P) self=if cJ d≠0 then(cJ d,(zR (cK d P)).2)else zR (cK d P):=by
 have b:gV (cK d P) self=true:=by
  have c:within P 1 32=true:=by unfold within;simp;omega
  show(within 3 1 64&&within self 0 (3-1)&&within 262144 64 262144&&decide ((400:Int)>=1)&&decide ((4:Int)>=1)&&within P 1 32&&within 20 1 256&&within 5 1 1048576&&decide ((0:Int)>=0))=true;rw[c];rcases a with rfl|rfl<;>rfl
 unfold bT;rw[Zq (show¬gV (cK d P) self=false by rw[b];simp)]
 rfl
def z_{a:Nat}(i:1<=e/\e<=32)(t:a=0\/a=2)(b:(bT (cK C e) a).1=0)(f:(bT (cK C e) a).2.D.Ok):pU (cK C e) a (bT (cK C e) a).2 0:=by
 have c:=kj (d:=C) i (self:=(a:Int)) oM;have j:cJ C=0:=by
  rw[c]at b
  by_cases P:cJ C=0
  ·exact P
  ·rw[Zx P]at b;exact Zz b P
 rw[Zq (by rw[j];simp)]at c;obtain⟨g,k,u,v,l⟩:=LH;have m:zR (cK C e)=(0,⟨⟨3,[]⟩,(bA (ei 262144) 400).D,some (bA (ei 262144) 400).V,[],⟨5,[],[]⟩⟩):=by
  rcases F_ 262144 400 with P|⟨P,h,-⟩
  ·rw[g]at P;omega
  ·unfold zR kf
   show(if(bA (ei (Int.toNat 262144)) 400).no≠0 then _ else _)=_;rw[show Int.toNat 262144=262144 from rfl,Zq (by rw[P];simp)];show((0:Int),bQ.mk ((⟨3,[]⟩:ar).eI (bA (ei 262144) 400).out) _ _ _ _)=_;rw[h];rfl
 rw[c,m]at f⊢;rcases F_ 262144 400 with P|⟨P,h,n,o,p,d,q,r⟩
 ·rw[g]at P;omega
 ·exact⟨⟨ar.Cl.new dC,oM,sM⟩,rfl,Q4 _,rfl,⟨q,f,l⟩,k,_,_,_,_,_,rfl,n,o,r,by intro w s;simp at s,p,by rw[d];rfl,by rw[d];dsimp only;omega,by rw[d];dsimp only;omega,by simp[fK,aC]⟩
section
variable {w w' w0:World} {p q:Nat} {F G D E:XN} {c e:cH} {self other:Int} {X Y:bQ}
set_option maxHeartbeats 2000000 in
def sJ{tn o k v V cc W rc:Nat}{one a2:List iu}{s:Int}(l:eu w)(m:Laid w)(hd:aZ w D C d tn r k)(hD:∀P,D P->P<w.heap.size)(g9:Row Rn 56 w f c0 V one)(l7:∀P,f P->P<w.heap.size)(h0:Row Rn 56 w a6 e8 W a2)(l8:∀P,a6 P->P<w.heap.size)(q9:aP s):
  ZG 3 #[.agg #[.slice d tn o,.slice r k v],.slice c0 V cc,.slice e8 W rc,XH s] w (Ok λf7 w'=>f7= .bool true/\ai w w'):=by
 have p4:=g9.len;have p5:=h0.len;refine ot (PA.mk λw1 k1 s1 g1=>PC.ok pW ?_);rintro _ x ⟨ua,un,uc,va,vn,vc,G2,rfl,r0,r3,X⟩;refine bS (JK (bH 3) ua un uc va vn vc) ⟨rfl,PA.mk λw3 k3 s3 g3=>aB (ph (bH 3) ua un uc va vn vc) g3 rfl λw4 k4 s4 g4=>?_⟩;have M:∀P,P=x.heap.size->False\/x.heap.size<=P:=λP e=>.inr (Nat.le_of_eq e.symm);have z2:=X.size;have h2:=k4.get (k3.get (X.get g1 id) id) (show¬w.heap.size=x.heap.size by omega);refine⟨_,_,_,_,_,_,ae h2 rfl,ae h2 rfl,PS.mk g4 (by simp[dT]) λw5 k5 s5 g5=>?_⟩;have l9:w5.heap[x.heap.size]? =some (.cells (dT (bH 3) d tn o va vn vc).toArray 28 (0,0)):=by rw[g5];rfl
 refine PS.mk l9 (by simp[dT]) λw6 k6 s6 g6=>?_;have m0:w6.heap[x.heap.size]? =some (.cells (dT (bH 3) d tn o r k v).toArray 28 (0,0)):=by rw[g6];rfl
 refine PS.mk m0 (by simp[dT]) λw7 k7 s7 g7=>?_;have m1:w7.heap[x.heap.size]? =some (.cells (dT {bH 3 with vE:=262144} d tn o r k v).toArray 28 (0,0)):=by rw[g7];rfl
 refine PC.ok (NI bb) ?_;rintro _ _ ⟨rfl,rfl⟩;have hp:=zO (k:=s) (n:=32) oM;have m2:XG .i64 (1+pick s 32)=1+pick s 32:=wrap_i64 bb;refine⟨_,rfl,PS.mk m1 (by simp[dT]) λw8 k8 s8 g8=>?_⟩;have n:1<=1+pick s 32/\1+pick s 32<=32:=oM
 have d4:w8.heap[x.heap.size]? =some (.cells (dT (cK C (1+pick s 32)) d tn o r k v).toArray 28 (0,0)):=by rw[g8,m2];rfl
 generalize 1+pick s 32=a at n d4;have d5:Ec (cK C a):=⟨rfl,n⟩
 have d6:ai x w8:=((((k3.new k4 M).new k5 M).new k6 M).new k7 M).new k8 M;have h3:=(k1.then X).then d6;have m3:=d6.get (X.get g1 id) id;have Z:aZ w D (cK C a).decl d tn r k:=hd;have i3:aP (cK C a).dI/\aP (cK C a).every/\aP (cK C a).start:=by unfold aP cK bH;simp
 obtain⟨is,iv,N⟩:=i3;refine au (ph (cK C a) d tn o r k v) d4 (PC.ok (Ir (c:=cK C a) (Z.ah h3) (Row.nil _ (λ_=>False))) ?_);rintro _ z ⟨⟨f8,rfl,-⟩,k9⟩;have t:=h3.then k9;have d7:=k9.get d4 id;refine⟨_,rfl,an.mk (λ_=>GI l m t) (λ_=>an.dec (λ_=>GI l m t) (λp6=>an.dec (λ_=>GI l m t) (λp7=>?_)))⟩;refine au (ph (cK C a) d tn o r k v) d7 (Jd (c:=cK C a) l m t (Z.ah t) is iv N (λc m4 u I=>⟨_,_,rfl,au (ph (cK C a) d tn o r k v) (u.get d7 id) (Jd (c:=cK C a) l m (t.then u) (Z.ah (t.then u)) is iv N (λc O A _=>⟨_,_,rfl,an.dX (λ_=>an.eG (λ_=>GI l m ((t.then u).then A)) (λh=>Zz (by rw[kj n (.inl rfl),kj n (.inr rfl)]) h)) (λh=>Zz h I)⟩) (λp F O Q=>Zz (by rw[kj n (.inr rfl),<-kj n (.inl rfl)]at Q;exact Q) I))⟩) ?_);intro p F m4 Q u hA hF r4;have h4:(bT (cK C a) 2).1=0:=by rw[kj n (.inr rfl),<-kj n (.inl rfl)];exact Q
 have b0:=t.then u;refine⟨_,_,rfl,au (ph (cK C a) d tn o r k v) (u.get d7 id) (Jd (c:=cK C a) l m b0 (Z.ah b0) is iv N (λc O A I=>Zz h4 I) ?_)⟩;intro q G O _ A hB hG r5;have b1:=b0.then A;have h5:pU (cK C a) 0 (bT (cK C a) 0).2 0:=z_ (a:=0) n (.inl rfl) Q hA.Ut;have h6:pU (cK C a) 2 (bT (cK C a) 2).2 0:=z_ (a:=2) n (.inr rfl) h4 hB.Ut;have m5:=hA.aF;refine⟨_,_,rfl,an.dX (λh=>Zz rfl h) (λ_=>an.dX (λh=>Zz rfl h) (λ_=>?_))⟩;have z9:=k9.size;have r6:=u.size;have r7:=A.size;have r8:=d6.size;have h7:=A.get (u.get (k9.get m3 id) id) id;generalize(bT (cK C a) 2).2=Y0 at hB h6;generalize(bT (cK C a) 0).2=X0 at hA h5;have h8:gU w O p q F G (cK C a) 0 (cK C a) 2 X0 Y0:=⟨hA.ah A,hB,⟨l,m,b1,λP b=>by have:=hF P b;omega⟩,⟨l,m,b1,λP b=>by have:=hG P b;omega⟩,λP hf hg=>by have:=m5 P hf;have:=hG P hg;omega⟩
 have r9:=hB.aF;refine⟨λj c w'=>∃(B:Nat) (R:XN) (J:bQ),c=B/\B<=V/\j=V-B/\gU w w' p q R G (cK C a) 0 (cK C a) 2 J Y0/\ak (λP=>z.heap.size<=P) O w'/\(∀P,R P->z.heap.size<=P)/\pU (cK C a) 0 J B,
  ⟨_,0,F,X0,rfl,Qj _,rfl,h8,ak.refl _,hF,h5⟩,?_⟩
 rintro j _ _ h9 ⟨B,R,J,rfl,hj,rfl,S,a0,d8,c4⟩;have kE:ak (λP=>z.heap.size<=P) w h9:=(ai.af b1).then a0;have i0:=a0.get h7 oM;have s0:=a0.size;have s2:=c4.len;refine an.dec (λm6=>?_) (λs9=>?_)
 ·obtain⟨P,a3,T,es,rfl,a4,a7,hx,hc,rfl,g⟩:=(g9.af kE λP b h=>by have:=l7 P b;omega).uH (i:=B) oM
  refine⟨P,a3,rfl,oM,oM,bq (es:=iK T) (k:=7) (yh T) rfl (λc E=>by rw[Qx];exact hc c E) (PC.ok (pP S.a S.ea g oM) ?_)⟩;rintro _ d9 ⟨m7,⟨sa,sn,sc,xa,xn,xc,e0,e1,e2,-,rfl,-⟩,b3,a8⟩;refine bS (zh _ sa sn sc xa xn xc e0 e1 e2) ⟨rfl,_,oM,B+1,m7,_,aq oM,oM,rfl,S.Gc b3 a8,a0.then (a8.af.mono λP _ b=>d8 P b),λP b=>(a8.new P b).elim (d8 P) λh=>oM,c4.done S.a.ok d5 oM g N b3.cl.1 b3.cl.2⟩
 refine⟨λj c w'=>∃(H:Nat) (GG:XN) (Y:bQ),c=H/\H<=W/\j=W-H/\gU w w' p q R GG (cK C a) 0 (cK C a) 2 J Y/\ak (λP=>z.heap.size<=P) h9 w'/\(∀P,GG P->z.heap.size<=P)/\pU (cK C a) 2 Y H,
  ⟨_,0,G,Y0,rfl,Qj _,rfl,S,ak.refl _,λP b=>by have:=hG P b;omega,h6⟩,?_⟩
 rintro j _ _ d9 ⟨H,GG,Y,rfl,t0,rfl,y,a1,e3,c5⟩;have m8:ak (λP=>z.heap.size<=P) w d9:=kE.then a1;have i1:=a1.get i0 oM;have t1:=a1.size;have t2:=c5.len;refine an.dec (λm6=>?_) (λp8=>?_)
 ·obtain⟨P,a3,T,es,rfl,a4,a7,hx,hc,rfl,g⟩:=(h0.af m8 λP b h=>by have:=l8 P b;omega).uH (i:=H) oM
  refine⟨P,a3,rfl,oM,oM,bq (es:=iK T) (k:=7) (yh T) rfl (λc E=>by rw[Qx];exact hc c E) (PC.ok (pP y.b y.eb g oM) ?_)⟩;rintro _ m9 ⟨n0,⟨sa,sn,sc,xa,xn,xc,e0,e1,e2,-,rfl,-⟩,b4,a9⟩;refine bS (zh _ sa sn sc xa xn xc e0 e1 e2) ⟨rfl,_,oM,H+1,n0,_,aq oM,oM,rfl,y.QB b4 a9,a1.then (a9.af.mono λP _ b=>e3 P b),λP b=>(a9.new P b).elim (e3 P) λh=>oM,c5.done y.b.ok d5 oM g N b4.cl.1 b4.cl.2⟩
 have hO:=c4.line;have hP:=c5.line;refine PC.ok (nw y.a oM) ?_;rintro _ m9 ⟨n1,e4,t3,n2,rfl,b5,e5,i4⟩;have p9:=b5.len dC;have n3:=b5.aF;have c9:=y.ah e5;refine⟨_,_,_,rfl,PC.ok (nw c9.b oM) ?_⟩;rintro _ i5 ⟨n4,e6,t4,n8,rfl,b6,c6,i6⟩;have q0:=b6.len dC;have n9:=b6.aF;have i7:=c9.ah c6;have t5:=e5.size;have t6:=c6.size;have b2:Row iX 96 i5 n2 n1 e4 J.S.l:=(b5.row dC ba).ah c6;have b7:Row iX 96 i5 n8 n4 e6 Y.S.l:=b6.row dC ba;have i8:=c6.get (e5.get i1 id) id;obtain⟨u1,A',B',u2,u3,u4⟩:=Je hO hP d5 oM oM (c4.side oM _) (c5.side oM _);have o0:=y.a.aF;have i9:=y.b.aF;refine⟨_,_,_,rfl,PC.ok (zH (most:=1000) i7 bb (Q4 _) oM oM u1 u2) ?_⟩;rintro _ t7 ⟨rfl,F',G',b8,b9⟩;have nP:∀P,d9.heap.size<=P\/P<z.heap.size->¬jZ R GG P:=λP b h=>by
  rcases h with h|h
  ·have:=o0 P h;have:=d8 P h;omega
  ·have:=i9 P h;have:=e3 P h;omega
 have b2:=b2.af b9.af λP b=>nP P (.inl (i4 P b));have b7:=b7.af b9.af λP b=>nP P (.inl (by have:=i6 P b;omega));have j0:=b9.af.get i8 (nP _ (.inr oM));have U:A'.S=B'.S:=u3.has.both u4.has;have t8:A'.S.l.length=J.S.l.length+Y.S.l.length:=u3.has.len hO hP dC;have c1:=u3.has.mem;rw[List.take_length]at c1;refine⟨_,rfl,an.ff rfl (PC.ok (nw b8.a oM) ?_)⟩;rintro _ o1 ⟨o4,o5,t9,o6,rfl,d0,j1,q4⟩;have q5:=d0.len dC;have d1:Row iX 96 o1 o6 o4 o5 A'.S.l:=d0.row dC ba;have d2:=b8.ah j1;refine⟨_,_,_,rfl,an.dX (λI=>Zz (by rw[wrap_i64 bb];omega) I) (λ_=>PC.ok (nw d2.b (by rw[<-U];omega)) ?_)⟩;rintro _ u0 ⟨u5,u6,u7,u9,rfl,j3,e7,q6⟩;have j4:=d2.ah e7;refine⟨_,_,_,rfl,PC.ok (zj (d1.ah e7) (j3.row dC (by rw[<-U];unfold aT;omega))) ?_⟩;rintro _ v0 ⟨rfl,j5⟩;have d3:=j4.ah j5;refine⟨_,rfl,an.not (an.dec (λ_=>?_) (λh=>Zz (by rw[U]) h))⟩;refine PC.ok (DW d3.a) ?_;rintro _ v1 ⟨v2,v3,v4,v5,rfl,j6,j7,q7⟩;have f0:=d3.ah j7;refine⟨_,_,_,rfl,PC.ok (DW f0.b) ?_⟩;rintro _ o7 ⟨v6,v7,v8,v9,rfl,j8,c2,q8⟩;have j9:=f0.ah c2;have k0:∀c3:ar,c3.n=3->c3.vec.length*8<=aT:=λc3 h=>by rw[ar.bd,h];unfold aT;omega
 refine⟨_,_,_,rfl,PC.ok (iF ((j6.ah c2).row dC (k0 _ u3.has.n)) (j8.row dC (k0 _ u4.has.n))) ?_⟩;rintro _ l0 ⟨rfl,o8⟩;have l3:ai o7 l0:=o8.af;have l4:=j9.ah l3;have f1:=(((e7.then j5).then j7).then c2).then l3;have c7:=j1.then f1;have l5:=c7.get j0 id;have f3:=d1.ah f1;have f4:=b8.a.cl.1.ok.ids;refine⟨_,rfl,an.not (an.dec (λ_=>?_) (λh=>Zz (by rw[U]) h))⟩;refine⟨λj c w'=>∃i:Nat,c=i/\i<=e4/\j=e4-i/\ai l0 w',⟨_,0,rfl,Qj _,rfl,ak.refl _⟩,?_⟩;rintro j _ _ o9 ⟨i,rfl,hi,rfl,K⟩;refine an.dec (λl6=>?_) (λ_=>?_)
 ·obtain⟨c8,o2,e,p0,rfl,p1,-,e9,f2,q1,q2,q3,rfl,g0,-⟩:=(b2.ah (c7.then K)).uH (i:=i) oM
  refine⟨c8,o2,rfl,oM,oM,bq (es:=aD e q1 q2 q3) (k:=10) (aX _ _ _ _) rfl (λc E=>by rw[Qx];exact f2 c E) (PC.ok (vN (f3.ah K) g0 f4 ((c1 e).2 (.inl (QZ e9)))) ?_)⟩;rintro _ p2 ⟨rfl,L⟩;exact⟨_,rfl,an.ff rfl ⟨_,oM,i+1,aq oM,oM,rfl,K.then L⟩⟩
 refine⟨λj c w'=>∃i:Nat,c=i/\i<=e6/\j=e6-i/\ai o9 w',⟨_,0,rfl,Qj _,rfl,ak.refl _⟩,?_⟩;rintro j _ _ p2 ⟨i2,rfl,x0,rfl,L⟩;refine an.dec (λl6=>?_) (λ_=>?_)
 ·obtain⟨c8,o2,e,p0,rfl,p1,-,e9,f2,q1,q2,q3,rfl,g0,-⟩:=(b7.ah ((c7.then K).then L)).uH (i:=i2) oM
  refine⟨c8,o2,rfl,oM,oM,bq (es:=aD e q1 q2 q3) (k:=10) (aX _ _ _ _) rfl (λc E=>by rw[Qx];exact f2 c E) (PC.ok (vN ((f3.ah K).ah L) g0 f4 ((c1 e).2 (.inr (QZ e9)))) ?_)⟩;rintro _ p3 ⟨rfl,g2⟩;exact⟨_,rfl,an.ff rfl ⟨_,oM,i2+1,aq oM,oM,rfl,L.then g2⟩⟩
 have f5:=K.then L;have a5:=l4.ah f5;have f6:=f5.get l5 id;refine⟨_,_,_,_,_,_,ae f6 rfl,ae f6 rfl,PC.ok (FD a5.a a5.b rfl (by rw[U]) (hd.ah a5.ea.gr)) ?_⟩;rintro _ p3 ⟨rfl,g2⟩;exact⟨_,rfl,an.tt rfl (GI l m (a5.ea.gr.then g2))⟩

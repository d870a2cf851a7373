import Derived.Test.YtblabbpipmodgaaGreatDoorKr20
set_option maxHeartbeats 4000000
set_option linter.all false
set_option maxRecDepth 20000
namespace Go.Proofs.YtblabbpipmodgaaGreatDoor
open Go.aw
variable{J:Bool}{w:ByteArray}{e:Int}{g5:List Bh}{v:List UInt8}{B:List ah}{a:Nat}{c7 d r:YQ}{K l:ah}{E:au}{d0:bM}{d8:dd}
def au.Sv(P:K∈E.l):K∈(E.add l).2.l:=by
 rcases E.gP l with⟨-,a⟩|⟨b,-⟩
 ·rw[a];exact P
 ·rw[b];exact(cT l E.l).mem_iff.2 (QJ _ P)
def au.vg:∀(a:List ah) {S:au} {P:ah},P∈S.l->P∈(S.eE a).l
 |[],S,P,b=>b
 |e::a,S,P,b=>au.vg a (S:=(S.add e).2) (au.Sv b)
section
variable {D E:ak} {A:oV} {no:Int} {l x:List ah} {k d:Nat} {V:dw} {c:cN} {X:bM} {ref:Bool}
def vh(a:D.dead=true)(P:ak->Int×ak):D.op P=(15,D.gone):=by
 unfold ak.op ak.dies;rw[a];rfl
def Ig(P:D.dead=true):Go.Proofs.YtblabbpipmodgaaGreatDoor.bA V D=(15,V,D.gone):=by
 unfold bA;have:D.create (cF (ax V.next))=(15,D.gone):=vh P _;dsimp only;rw[this,Zx sM]
def Bp(P:D.dead=true):aK V D=(15,V,D.gone):=by
 unfold aK;split
 ·exact Ig P
 ·have:D.sync V.last=(15,D.gone):=vh P _
  dsimp only;rw[this,Zx sM]
def Ih(P:D.dead=true)(x:List ah):(aF V D x).2.2.files=D.files/\(aF V D x).2.2.dead=true/\(x≠[]->(aF V D x).1≠0):=by
 unfold aF;split
 ·exact⟨rfl,P,λ_=>sM⟩
 split
 ·rename_i b;exact⟨rfl,P,λc=>Zz b c⟩
 dsimp only
 by_cases a:V.size<=V.bytes
 ·rw[Zx a,Bp P,Zx sM]
  exact⟨rfl,rfl,λ_=>sM⟩
 ·rw[Zq a,Zq sM]
  have:D.append V.last (az x)=(15,D.gone):=vh P _;rw[this,Zx sM];exact⟨rfl,rfl,λ_=>sM⟩
def Gg(P:D.dead=true){size:Int}:(aR V D x size).no≠0/\(aR V D x size).D.files=D.files/\(aR V D x size).D.dead=true:=by
 unfold aR;split
 ·rename_i a;exact⟨a,rfl,P⟩
 have:bE V.next (bJ x).1 D=(15,D.gone):=by
  unfold bE;have:D.create (cF (ax V.next))=(15,D.gone):=vh P _;dsimp only;rw[this,Zx sM]
 rw[this,Zx sM];exact⟨sM,rfl,rfl⟩
def NL(c:aq D.files w=some ⟨v,a,J⟩)(P:(D.sync w).1≠0):(D.sync w).1=15/\(D.sync w).2=D.gone:=by
 unfold ak.sync at P⊢;rcases AQ D (ak.AR w λD b=>(0,D.fE w (b.cut b.bytes.length)))with e|e
 ·rw[e];exact⟨rfl,rfl⟩
 ·rw[e]at P
  unfold ak.AR at P;rw[ey,c]at P;exact Zz rfl P
def cM.Qg(h:cM D A no l k)(c:GU V A no l)(j:∀P∈x,P.Ok/\P.aJ.length<=64){size:Int}:
  ((aR V D x size).no≠0/\cM (aR V D x size).D A no l k)\/
  (cM (aR V D x size).D [] V.next x x.length/\((aR V D x size).no=0/\GU (aR V D x size).V [] V.next x/\(aR V D x size).V.size=size\/(aR V D x size).no≠0/\(aR V D x size).D.dead=true)):=by
 have r:bJ x=(az x,0):=by
  unfold bJ;rw[Zq];intro s;obtain⟨P,t,m⟩:=List.any_eq_true.1 s;have:=(j P t).2;unfold eK at m;simp at m;omega
 unfold aR;rw[r,Zq sM];rcases h.bE c j with⟨d,n⟩|⟨d,n,i⟩
 ·dsimp only
  rw[Zx d];exact .inl ⟨d,n⟩
 dsimp only;rw[Zq (by simpa using d)];generalize(Go.Proofs.YtblabbpipmodgaaGreatDoor.bE V.next (az x) D).2=o at i;have u:=h.ne_next c;obtain⟨v,p⟩:=Ak V.bd i.tidy;have a:cM (i_ V.bd o) [] V.next x x.length:=by
  refine i.same v (λe f=>?_) (p _ λe f P=>?_)
  ·obtain rfl:e=V.next:=by simpa[cX]using f
   exact p _ λw q P=>u w (by rw[c.bd]at q;exact q) P.symm
  ·rw[c.bd]at f
   exact(fj (n:=e) (.inr (by have:=h.zf e f;omega))).1 P.symm
 generalize i_ V.bd o=b at a
 cases g:b.dead with
 |false=>
  have y:V.next<gQ b:=by
   obtain⟨F,z,-⟩:=a.last;have:=a.tf;exact Ii oM (by rw[z];rfl)
  have:=rf b.list;rw[JR a g];exact .inr ⟨a,.inl ⟨rfl,⟨rfl,rfl,y,this.2⟩,rfl⟩⟩
 |true=>
  obtain⟨B,C⟩:=Ng (size:=size) g;refine .inr ⟨a.files C,.inr ⟨by rw[B];simp,?_⟩⟩;have E:told b=[]:=by
   have:b.read bS=([],15):=by unfold ak.read;rw[g];rfl
   unfold told dz;rw[this];rfl
  unfold aT;rw[E];unfold cO fM;rw[Zq sM,Zx (show(dJ b size).bd=[]from rfl),show aK _ _=_ from Bp g]
  rfl
def Ij(a:cM D A no l k)(P:Int):bV (dq (D.dY P))/\Tidy (dq (D.dY P)).files/\(∀b∈cX A++[no],aq (dq (D.dY P)).files (ay b)=aq (D.dY P).files (ay b))/\aq (dq (D.dY P)).files bS=aq (D.dY P).files bS:=by
 have h:=HP D P;have m:=Kn a.tidy P;have n:∀x∈cX A++[no],aN x:=λx p=>by have:=a.zf x p;unfold aN;omega
 have q:(cX A++[no]).length<=64:=by have:=a.many;simpa[cX]using this
 have r:dz (D.dY P)=some (cX A++[no]):=by
  unfold dz;rw[h.read (tM a.tidy P a.UT),Zq sM,show(dP (bO (cX A++[no]))).bytes=bO (cX A++[no])from rfl,nJ n q]
 have o:∀d∈Fk (D.dY P),(∀b∈cX A++[no],ay b≠d)/\bS≠d:=λd f=>by
  have c:=(List.mem_filter.1 f).2;unfold iZ at c;rw[r]at c;refine⟨λb i e=>?_,λe=>?_⟩
  ·have n:=a.zf b i
   subst e;rw[wV oM,Xv (fj (n:=b) (.inr oM)).2]at c;simp only[Option.getD_some,Zy i]at c;simp at c
  ·subst e
   rw[Xv JP,Po]at c;simp at c
 have g:∀(j:List ByteArray) {D:ak},Tidy D.files->Tidy (JO D j).files:=by
  intro j
  induction j with
  |nil=>intro D a;exact a
  |cons d j s=>
   intro D a;refine s (D:=(D.delete d).2) ?_;rcases iY D d with e|e
   ·rw[e];exact a
   ·rw[e];exact a.bL _
 refine⟨Ad _ h,g _ m,λb i=>?_,?_⟩
 ·unfold dq
  rw[Ae _ h m,Zq λf=>(o _ f).1 b i rfl]
 ·unfold dq
  rw[Ae _ h m,Zq λf=>(o _ f).2 rfl]
def KO{size keep:Int}(P:cM D A no l k):∃a,k<=a/\a<=l.length/\(aT (dq (D.dY keep)) size).no=0/\(aT (dq (D.dY keep)) size).out=cu A (l.take a)/\GU (aT (dq (D.dY keep)) size).V A no (l.take a)/\(aT (dq (D.dY keep)) size).V.size=size/\
  cM (aT (dq (D.dY keep)) size).D A no (l.take a) a/\bV (aT (dq (D.dY keep)) size).D:=by
 obtain⟨h,i,e,j⟩:=Ij P keep;obtain⟨m,n,z,o⟩:=P.last;obtain⟨b,B,C,p⟩:=DO keep (az l) o;have f:aq (D.dY keep).files (ay no)=some ⟨(az l).take b,((az l).take b).length,true⟩:=by
  rw[DN P.tidy,n];show(if true then some (r_ keep ⟨az l,m,true⟩)else none)=_;rw[p];rfl
 have q:((az l).take b).length=b:=by simp;omega
 rw[q]at f;obtain⟨a,r,s,E,t,u,v,w,F,H,c,d,y⟩:=NM (size:=size) (n:=b) h i P (λx g=>by rw[e x.1 (ZV _ (Xk.2 ⟨x,g,rfl⟩))];exact tM P.tidy keep (P.full x g)) (by rw[j];exact tM P.tidy keep P.UT) (by rw[e no sM];exact f) oM oM;exact⟨a,r,s,t,u,v,w,d oM,c⟩
structure fW (c:cN) (X:bM) (ref:Bool):Prop where
 log:∃V A no l k d,X.log=some V/\cM X.D A no l k/\(X.D.dead=true\/GU V A no l/\V.size=c.bl)/\Vv c.bl A/\X.S=(⟨c.bW.toNat,[]⟩:au).eE ((cu A l).take d)/\d<=Ik A k/\(d<(cu A l).length->X.D.dead=true/\ref=true)
def ri(A:oV)(l:List ah):(cu A l).length=Ik A l.length:=by unfold cu Ik;simp
def fW.same{Y:bM}(e:fW c X ref)(f:Y.S=X.S)(P:Y.D=X.D)(g:Y.log=X.log){r2:Bool}(h:ref=true->r2=true):fW c Y r2:=by
 obtain⟨V,A,no,l,k,d,i,j,m,n,o,p,a⟩:=e.log;exact⟨V,A,no,l,k,d,by rw[g];exact i,by rw[P];exact j,by rw[P];exact m,n,by rw[f];exact o,p,λb=>⟨by rw[P];exact(a b).1,h (a b).2⟩⟩
def fW.Kq(P:fW c X ref)(a:Int):fW c {X with D:=X.D.Kq a} ref:=by
 obtain⟨V,A,no,l,k,d,b,e,f,g,h,i,j⟩:=P.log;exact⟨V,A,no,l,k,d,b,e.files rfl,f,g,h,i,j⟩
def fW.take(L:fW c X ref)(y:X.S.Cl)(z:X.S.n=c.bW.toNat)(M:X.D.Ok)(N:∀O∈x,O.Ok)(Q:x.length<=20000000):
  ((dt c X x).1=0/\(dt c X x).2.S=X.S.eE x/\∀B,fW c (dt c X x).2 B)\/
  ((dt c X x).1≠0/\(dt c X x).2.S=X.S/\fW c (dt c X x).2 (ref||(dt c X x).1==15)):=by
 obtain⟨V,A,no,l,k,d,R,m,S,o,f,C,p⟩:=L.log;have P:dt c X x=(if(aF V X.D x).1≠0 then((aF V X.D x).1,{X with log:=some (aF V X.D x).2.1,D:=(aF V X.D x).2.2})else
   if((aF V X.D x).2.2.sync (aF V X.D x).2.1.last).1≠0 then(((aF V X.D x).2.2.sync (aF V X.D x).2.1.last).1,{X with log:=some (aF V X.D x).2.1,D:=((aF V X.D x).2.2.sync (aF V X.D x).2.1.last).2})else
   (0,{X with log:=some (aF V X.D x).2.1,D:=((aF V X.D x).2.2.sync (aF V X.D x).2.1.last).2,S:=eQ c X.S x})):=by
  unfold dt;rw[R]
 by_cases q:X.D.dead=true
 ·obtain⟨E,r,e3⟩:=Ih (V:=V) q x
  generalize aF V X.D x=a at*
  by_cases b:a.1≠0
  ·rw[Zx b]at P
   rw[P];exact .inr ⟨b,rfl,a.2.1,A,no,l,k,d,rfl,m.files E,.inl r,o,f,C,λe=>⟨r,by rw[(p e).2];rfl⟩⟩
  ·rw[Zq b]at P
   have T:a.2.2.sync a.2.1.last=(15,a.2.2.gone):=vh r _;rw[T,Zx sM]at P;rw[P];exact .inr ⟨sM,rfl,a.2.1,A,no,l,k,d,rfl,m.files E,.inl rfl,o,f,C,λe=>⟨rfl,by rw[(p e).2];rfl⟩⟩
 obtain⟨U,F⟩:=S.resolve_left q;have W:(cu A l).length<=d:=Nat.le_of_not_lt λY=>q (p Y).1;rw[Qz W]at f;have H:(cu A l).length=Ik A k:=by
  have:=ri A l;have:=m.kl;unfold Ik at*;omega
 obtain⟨i,s,g,I,t,u,J,h,v,n,f7⟩:=Il (x:=x) m U N Q M (by rw[F];exact o);rw[F]at v n;generalize aF V X.D x=a at*
 by_cases b:a.1≠0
 ·rw[Zx b]at P
  rw[Zq b]at h;rw[P];exact .inr ⟨b,rfl,a.2.1,i,s,g,I,(cu i g).length,rfl,t,.inr ⟨u,v⟩,n,by rw[List.take_length,h];exact f,by rw[h,H];exact J,λe=>Zz e (Nat.lt_irrefl _)⟩
 rw[Zq b]at P;have b:a.1=0:=Classical.not_not.1 b;rw[Zx b]at h;rw[cM.KP u]at P;obtain⟨a0,Z,s2,s3⟩:=t.last;rcases Ee t with⟨j,w⟩|⟨j,w⟩
 ·rw[Zq (by rw[j];simp)]at P
  rw[P];refine .inl ⟨rfl,vi y z x,λB=>⟨a.2.1,i,s,g,g.length,(cu i g).length,rfl,w,.inr ⟨u,v⟩,n,?_,by rw[ri];exact Q4 _,λe=>Zz e (Nat.lt_irrefl _)⟩⟩;rw[List.take_length,h,au.Ag,<-f];exact vi y z x
 ·obtain⟨z1,K⟩:=NL Z j
  rw[Zx j]at P;rw[P];refine .inr ⟨j,rfl,a.2.1,i,s,g,I,(cu A l).length,rfl,w,.inl (by rw[K];rfl),n,?_,by rw[H];exact J,λ_=>⟨by rw[K];rfl,by rw[z1];simp⟩⟩;rw[h,List.take_left];exact f
def fW.dY(f:fW c X ref)(keep:Int):(ix c X keep).1=0/\(∀a∈X.S.l,a∈(ix c X keep).2.S.l)/\(ref=false->(ix c X keep).2.S=X.S)/\fW c (ix c X keep).2 false:=by
 obtain⟨V,A,no,l,k,d,B,g,C,h,b,i,j⟩:=f.log;obtain⟨P,E,m,n,o,p,q,r,F⟩:=KO (size:=c.bl) (keep:=keep) g;have s:ix c X keep=(0,{X with D:=(aT (dq (X.D.dY keep)) c.bl).D,waits:=[],fV:=⟨X.fV.df,[],[]⟩,log:=some (aT (dq (X.D.dY keep)) c.bl).V,S:=(⟨c.bW.toNat,[]⟩:au).eE (cu A (l.take P))}):=by
  unfold ix fq;dsimp only;rw[Zq (by rw[n];simp),o]
 have t:(cu A l).take d=(cu A (l.take P)).take d:=by
  have e:d<=((A.map (·.2)).flatten).length+P:=by unfold Ik at i;omega
  unfold cu;rw[List.take_append,List.take_append,List.take_take,X2 oM]
 have u:(⟨c.bW.toNat,[]⟩:au).eE (cu A (l.take P))=X.S.eE ((cu A (l.take P)).drop d):=by
  rw[b,t,<-au.Ag,ZX]
 rw[s];refine⟨rfl,λa v=>?_,λw=>?_,_,A,no,l.take P,P,(cu A (l.take P)).length,rfl,r,.inr ⟨p,q⟩,h,by rw[List.take_length],?_,λe=>Zz e (Nat.lt_irrefl _)⟩
 ·show a∈((⟨c.bW.toNat,[]⟩:au).eE (cu A (l.take P))).l
  rw[u];exact au.vg _ v
 ·show(⟨c.bW.toNat,[]⟩:au).eE (cu A (l.take P))=X.S
  have x:(cu A l).length<=d:=Nat.le_of_not_lt λy=>by have:=(j y).2;rw[w]at this;cases this
  have:=ri A l;have z:P=l.length:=by unfold Ik at*;omega
  rw[z,List.take_length,b,Qz x]
 ·rw[ri];unfold Ik;rw[Qy,X2 m];exact Q4 _
def fW.Mk(w:fW c X ref)(f:X.S.Cl)(x:X.S.n=c.bW.toNat):(d_ c X).2.S=X.S/\fW c (d_ c X).2 ref:=by
 obtain⟨V,A,no,l,k,d,g,n,y,o,p,q,r⟩:=w.log;have P:d_ c X=(if(aR V X.D X.S.l c.bl).no≠0 then((aR V X.D X.S.l c.bl).no,{X with D:=(aR V X.D X.S.l c.bl).D})else(0,{X with D:=(aR V X.D X.S.l c.bl).D,log:=some (aR V X.D X.S.l c.bl).V})):=by
  unfold d_;rw[g]
 refine⟨by rw[P];split<;>rfl,?_⟩
 by_cases i:X.D.dead=true
 ·obtain⟨z,B,s⟩:=Gg (V:=V) (x:=X.S.l) (size:=c.bl) i
  rw[Zx z]at P;rw[P];exact⟨V,A,no,l,k,d,g,n.files B,.inl s,o,p,q,λa=>⟨s,(r a).2⟩⟩
 obtain⟨t,C⟩:=y.resolve_left i;have J:(cu A l).length<=d:=Nat.le_of_not_lt λE=>i (r E).1;have F:∀b∈X.S.l,b.Ok/\b.aJ.length<=64:=λb u=>⟨f.ok.ok b u,by
  obtain⟨-,-,-,-,-,-,K,-⟩:=mK (f.ok.VX b u);have:=f.ok.n;omega⟩
 have v:X.S=(⟨c.bW.toNat,[]⟩:au).eE X.S.l:=by rw[<-x];exact f.TX.symm
 rcases n.Qg t F (size:=c.bl)with⟨h,e⟩|⟨h,⟨e,j,H⟩|⟨e,j⟩⟩
 ·rw[Zx h]at P
  rw[P];exact⟨V,A,no,l,k,d,g,e,.inr ⟨t,C⟩,o,p,q,λa=>Zz a oM⟩
 ·rw[Zq (by rw[e];simp)]at P
  rw[P];exact⟨_,[],V.next,X.S.l,X.S.l.length,X.S.l.length,rfl,h,.inr ⟨j,H⟩,λI m=>by simp at m,by rw[show(cu [] X.S.l)=X.S.l from rfl,List.take_length];exact v,by unfold Ik;simp,λa=>Zz a (by rw[show(cu [] X.S.l)=X.S.l from rfl];exact Nat.lt_irrefl _)⟩
 ·rw[Zx e]at P
  rw[P];exact⟨V,[],V.next,X.S.l,X.S.l.length,X.S.l.length,g,h,.inl j,λI m=>by simp at m,by rw[show(cu [] X.S.l)=X.S.l from rfl,List.take_length];exact v,by unfold Ik;simp,λa=>Zz a (by rw[show(cu [] X.S.l)=X.S.l from rfl];exact Nat.lt_irrefl _)⟩
def NN(P:(cj c e).1=0):fW c (cj c e).2 false/\(cj c e).2.waits=[]:=by
 have d:cj c e=Bq c:=by
  unfold cj at P⊢;split
  ·rename_i a;rw[Zx a]at P;exact Zz P a
  rename_i a;rw[Zq a]at P;split
  ·rename_i f;rw[Zx f]at P;simp at P
  ·rfl
 rw[d]at P⊢;unfold Bq fq at P⊢;dsimp only at P⊢;rcases Qh c.tO.toNat c.bl with b|⟨b,g,h,i,j,m,n,o⟩
 ·rw[Zx oM]at P
  exact Zz P be
 ·rw[Zq (by rw[b];simp)]
  exact⟨⟨_,[],1,[],0,0,rfl,h,.inr ⟨i,j⟩,λp k=>by simp at k,by rw[g];rfl,Qj _,λl=>by simp[cu]at l⟩,rfl⟩
def KQ{b x:ah}(P:x∈(eN a B b).2):x=b\/x∈B:=by
 unfold eN at P;split at P
 ·exact .inr P
 ·exact Q2.1 ((cT b B).mem_iff.1 P)
def vj(P:Nat)(b:ah->Prop):∀(l:List ah) (h:au) (a d:List ah),(∀e∈l,b e)->(∀e∈a,b e)->(∀e∈d,b e)->(∀e∈(gj P l h a d).2.1,b e)/\∀e∈(gj P l h a d).2.2,b e
 |[],h,a,d,_,f,g=>⟨f,g⟩
 |e::l,h,a,d,j,f,g=>by
  have k:=j e (QV ..);have i:∀x∈l,b x:=λx c=>j x (QJ _ c);unfold gj;split
  ·exact vj P b l _ _ _ i (λx c=>(Q6.1 c).elim (f x) λc=>by rw[List.mem_singleton.1 c];exact k) g
  split
  ·exact vj P b l _ _ _ i f g
  ·exact vj P b l _ _ _ i f λx c=>(KQ c).elim (λm=>by rw[m];exact k) (g x)
def qB(a:ah->Prop):∀(l:List ah) (d:au) (P:List ah),(∀e∈l,a e)->(∀e∈P,a e)->∀e∈(eA l d P).2,a e
 |[],d,P,_,c=>c
 |e::l,d,P,f,c=>by
  have g:∀x∈l,a x:=λx b=>f x (QJ _ b);unfold eA;split
  ·exact qB a l _ _ g λx b=>(Q6.1 b).elim (c x) λb=>by rw[List.mem_singleton.1 b];exact f e (QV ..)
  ·exact qB a l _ _ g c
def vk(d:ah->Prop):∀(l:List ah) (a:au) {b:ah×au×List ah},dI a l=some b->(∀e∈l,d e)->d b.1/\∀e∈b.2.2,d e
 |[],a,b,P,_=>by cases P
 |e::l,a,b,P,f=>by
  unfold dI at P;split at P
  ·cases P;exact⟨f e (QV ..),λx c=>f x (QJ _ c)⟩
  ·cases g:dI a l with
   |none=>rw[g]at P;cases P
   |some k=>
    rw[g]at P
    cases P
    obtain⟨h,i⟩:=vk d l a g λx c=>f x (QJ _ c);exact⟨h,λx c=>(Q2.1 c).elim (λj=>by rw[j];exact f e (QV ..)) (i x)⟩
def vl(b:ah->Prop):∀(k:Nat) (c:au) (l P:List ah),(∀a∈l,b a)->(∀a∈P,b a)->(∀a∈(dm k c l P).1,b a)/\∀a∈(dm k c l P).2,b a
 |0,c,l,P,d,e=>⟨e,d⟩
 |k+1,c,l,P,d,e=>by
  unfold dm
  cases g:dI c l with
  |none=>exact⟨e,d⟩
  |some j=>
   obtain⟨h,i⟩:=vk b l c g d;exact vl b k _ _ _ i λx f=>(Q6.1 f).elim (e x) λf=>by rw[List.mem_singleton.1 f];exact h
def Im(d:ah->Prop):∀(k:Nat) (a:au) (b c:List ah),(∀P∈b,d P)->(∀P∈c,d P)->(∀P∈(oJ k a b c).1,d P)/\∀P∈(oJ k a b c).2,d P
 |0,a,b,c,e,g=>⟨e,g⟩
 |k+1,a,b,c,e,g=>by
  unfold oJ;have f:=vl d ((c.filter λP=>(a.get (aX P)).isNone).length+1) a (c.filter λP=>(a.get (aX P)).isNone) [] (λx h=>g x (List.mem_filter.1 h).1) sM;have P:bH a c=dm ((c.filter λP=>(a.get (aX P)).isNone).length+1) a (c.filter λP=>(a.get (aX P)).isNone) []:=rfl;rw[<-P]at f;dsimp only;split
  ·exact⟨e,f.2⟩
  ·exact Im d k _ _ _ (qB d _ _ _ f.1 e) f.2
def NO{c:cN}{X:bM}{l:List ah}(a:ah->Prop)(b:∀P∈l,a P)(d:∀P∈X.waits,a P):(∀P∈(iy c X l).1,a P)/\∀P∈(iy c X l).2,a P:=by
 obtain⟨e,f⟩:=vj c.buffer.toNat a l (eQ c X.S []) [] X.waits b sM d;exact Im a _ _ _ _ e f
def Br(c:cN)(X:bM)(x:List ah):(dt c X x).2.waits=X.waits:=by
 unfold dt
 cases X.log with
 |none=>rfl
 |some V=>
  dsimp only;split
  ·rfl
  split<;>rfl
def Io(ref:Bool)(kind no:Int):Bool:=ref&&kind !=4||(kind==0||kind==2)&&(no==15||no==12)
structure oK (c:cN) (X:bM) (ref:Bool) (kind:Int) (r:Int×bM):Prop where
 VV:∀e∈X.S.l,e∈r.2.S.l
 WB:fW c r.2 (Io ref kind r.1)
 idle:kind≠0->kind≠2->kind≠4->r.2.S=X.S
 no:kind=0\/kind=2->r.1≠0->r.2.S=X.S
 cr:kind=4->ref=false->r.2.S=X.S
 wait:∀e∈r.2.waits,e.Ok
def ni{ref:Bool}{P no:Int}(a:P≠4)(b:ref=true):Io ref P no=true:=by unfold Io;rw[b];simp[a]
def oK.still{no:Int}(a:fW c X ref)(b:e≠4)(P:d0.S=X.S)(f:d0.D=X.D)(g:d0.log=X.log)(h:∀d∈d0.waits,d.Ok):oK c X ref e (no,d0):=
 ⟨λd i=>by rw[P];exact i,a.same P f g (ni b),λ_ _ _=>P,λ_ _=>P,λa=>Zz a b,h⟩
def NP(P:eR d8 a e=0)(c:d8.kind=3)(d:e<=32):d8.events.length<=32:=by
 rcases Nat.lt_or_ge 32 d8.events.length with b|b
 ·exfalso
  unfold eR at P;rw[Zx c]at P;split at P
  ·cases P
  ·unfold eS at P
   split at P
   ·cases P
   ·rw[Zx (.inr oM)]at P;cases P
 ·exact b
def fW.call{self:Int}{a:Bh}(b:fW c X ref)(e:∀h∈X.waits,h.Ok)(u:X.S.Cl)(v:X.S.n=c.bW.toNat)(z:X.D.Ok)(C:a.cmd.Ok)(E:∀h∈a.m.events,h.Ok)(F:aN self)(H:aN c.start)(I:X.S.l.length<=20000000)(R:X.waits.length<=256)(J:c.chunk<=32):
  oK c X ref a.kind (D_ c self X a):=by
 unfold D_;split
 ·rename_i i
  have g:a.kind≠4:=oM
  obtain⟨V,A,no,l,k,d,s,-⟩:=b.log;unfold eh;rw[s];dsimp only;split
  ·exact oK.still b g rfl rfl rfl e
  split
  ·have K:=Ml (d:=c.decl) (V:=cD c.decl X.S.l) C u.ok F H I
   have q:=b.take (x:=[(lD c.decl X.S (cD c.decl X.S.l) self c.start a.cmd).1]) u v z (λh f=>by rw[List.mem_singleton.1 f];exact K) sM;have n:=Br c X [(lD c.decl X.S (cD c.decl X.S.l) self c.start a.cmd).1];generalize dt c X [(lD c.decl X.S (cD c.decl X.S.l) self c.start a.cmd).1]=w at q n;rcases q with⟨o,m,p⟩|⟨o,m,p⟩
   ·rw[Zq (by rw[o];simp)]
    exact⟨λh f=>by dsimp only;rw[m];exact au.vg _ f,p _,λP=>Zz i P,λ_ P=>Zz rfl P,λP=>Zz P g,by dsimp only;rw[n];exact e⟩
   ·rw[Zx o]
    refine⟨λh f=>by dsimp only;rw[m];exact f,p.same rfl rfl rfl λj=>?_,λP=>Zz i P,λ_ _=>m,λP=>Zz P g,by dsimp only;rw[n];exact e⟩;rcases Bool.or_eq_true .. ▸j with j|j
    ·exact ni g j
    ·unfold Io;dsimp only;rw[j,i];simp
  ·exact oK.still b g rfl rfl rfl e
 split
 ·rename_i i
  unfold gl;split<;>exact oK.still b oM rfl rfl rfl e
 split
 ·rename_i i
  have g:a.kind≠4:=oM
  obtain⟨V,A,no,l,k,d,s,-⟩:=b.log;unfold cg;rw[s];dsimp only;split
  ·exact oK.still b g rfl rfl rfl e
  rename_i L;split
  ·exact oK.still b g rfl rfl rfl e
  split
  ·rename_i M
   have S:=NP (Classical.not_not.1 L) M J;unfold mf;obtain⟨B,x⟩:=NO (c:=c) (X:=X) ah.Ok E e;have N:=Bs c X a.m.events;generalize iy c X a.m.events=r at B x N;dsimp only;split
   ·exact oK.still b g rfl rfl rfl x
   have q:=(b.same (Y:={X with waits:=r.2}) rfl rfl rfl id).take (x:=r.1) u v z B oM;have n:=Br c {X with waits:=r.2} r.1;generalize dt c {X with waits:=r.2} r.1=w at q n;dsimp only at q n;rcases q with⟨o,m,p⟩|⟨o,m,p⟩
   ·rw[Zq (by rw[o];simp)]
    exact⟨λh f=>by dsimp only;rw[m];exact au.vg _ f,p _,λ_ P=>Zz i P,λ_ P=>Zz rfl P,λP=>Zz P g,by dsimp only;rw[n];exact x⟩
   ·rw[Zx o]
    refine⟨λh f=>by dsimp only;rw[m];exact f,p.same (Y:={w.2 with waits:=[]}) (r2:=Io ref a.kind w.1) rfl rfl rfl λj=>?_,λ_ P=>Zz i P,λ_ _=>m,λP=>Zz P g,sM⟩;rcases Bool.or_eq_true .. ▸j with j|j
    ·exact ni g j
    ·unfold Io;rw[j,i];simp
  split
  ·exact oK.still b g rfl rfl s.symm e
  split<;>exact oK.still b g rfl rfl s.symm e
 split
 ·exact oK.still b oM rfl rfl rfl e
 split
 ·rename_i i
  obtain⟨t,y,O,Q⟩:=b.dY a.n;have h:Io ref a.kind (ix c X a.n).1=false:=by unfold Io;rw[i];simp
  refine⟨y,by rw[h];exact Q,λ_ _ P=>Zz i P,λP=>oM,λ_ P=>O P,?_⟩;unfold ix fq;dsimp only;split<;>simp
 split
 ·rename_i i
  exact⟨λh f=>f,(b.Kq a.n).same rfl rfl rfl (ni oM),λ_ _ _=>rfl,λ_ _=>rfl,λ_ _=>rfl,e⟩
 split
 ·rename_i i
  obtain⟨t,y⟩:=b.Mk u v;refine⟨λh f=>by rw[t];exact f,y.same rfl rfl rfl (ni oM),λ_ _ _=>t,λ_ _=>t,λ_ _=>t,?_⟩;unfold d_
  cases X.log with
  |none=>exact e
  |some V=>
   dsimp only;split<;>exact e
 ·exact⟨λh f=>f,b.same rfl rfl rfl (ni oM),λ_ _ _=>rfl,λ_ _=>rfl,λ_ _=>rfl,e⟩
end
section
variable {w w' w0:World} {p q:Nat} {F G D E:ZN} {c e:cN} {self other:Int} {X Y:bM}
set_option maxHeartbeats 2000000 in
def pA{b:Int}{tn y u z J lc:Nat}(j:eX w)(k:Laid w)(A:bj w D c.decl d tn r u)(hD:∀P,D P->P<w.heap.size)(K:Row Sp 152 w E c7 J g5)(V:∀P,E P->P<w.heap.size)(g0:aN b)(W:aN c.bl)(X:aN c.every)(L:aN c.start):
  YX 7 #[od c d tn y r u z,ZH self,.slice c7 J lc,ZH b] w (Ok λc9 w'=>c9= .bool true/\ai w w'):=by
 have j9:=K.len;have g2:=K.dO;unfold aO at g2;refine lW (PA.mk λv Z s1 g1=>ar (su c d tn y r u z) g1 (PC.ok (KM (A.af Z) (K.af Z)) ?_));rintro _ w3 ⟨⟨f8,rfl,g3⟩,k3⟩;have o:=Z.then k3;have b9:=k3.get g1 id;refine⟨_,rfl,al.mk (λ_=>Rb j k o) (λg4=>?_)⟩;obtain⟨f9,g6⟩:=g3 g4;refine ar (su c d tn y r u z) b9 (Ly j k o (A.af o) W X L (λf w5 l M=>⟨_,_,rfl,ar (su c d tn y r u z) (l.get b9 id) (Ly j k (o.then l) (A.af (o.then l)) W X L (λf B s _=>⟨_,_,rfl,al.dV (λh=>Zz rfl h) (λ_=>al.dV (λ_=>Rb j k ((o.then l).then s)) (λh=>Zz h M))⟩) (λp F B N=>Zz N M))⟩) ?_);intro p F w5 N l hA hF g7;have c0:=o.then l;have d0:=l.get b9 id;refine⟨_,_,rfl,ar (su c d tn y r u z) d0 (Ly j k c0 (A.af c0) W X L (λf B s M=>Zz N M) ?_)⟩;intro q G B _ s hB hG k0;have c1:=c0.then s;have g8:=s.get d0 id;obtain⟨d3,d4⟩:=NN N;refine⟨_,_,rfl,al.dV (λh=>Zz rfl h) (λ_=>al.dV (λh=>Zz rfl h) (λ_=>?_))⟩;have a5:(cj c self).2.fV.asked=[]:=Lz c self;have g9:=hA.aE;generalize(cj c self).2=X0 at hA hB g7 a5 d3 d4;have z1:w.heap.size<v.heap.size:=oM
 have z3:=k3.size;have z5:=l.size;have z7:=s.size;have h0:iM w B p q F G c self c self X0 X0:=⟨hA.af s,hB,⟨j,k,c1,λP a=>by have:=hF P a;omega⟩,⟨j,k,c1,λP a=>by have:=hG P a;omega⟩,λP hf hg=>by have:=g9 P hf;have:=hG P hg;omega⟩
 refine⟨λC f w'=>∃(m:Nat) (O GG:ZN) (n:bM) (H:Bool),f=m/\m<=J/\C=J-m/\iM w w' p q O GG c self c self n n/\aj (λP=>v.heap.size<=P) B w'/\(∀P,kO O GG P->v.heap.size<=P)/\n.S.l.length<=16777216+300*m/\n.fV.asked.length<=m/\fW c n H/\∀e∈n.waits,e.Ok,
  ⟨_,0,F,G,X0,false,rfl,Qj _,rfl,h0,aj.refl _,λP a=>a.elim (λh=>by have:=hF P h;omega) λh=>by have:=hG P h;omega,oM,by rw[a5];exact Qj _,d3,by rw[d4];simp⟩,?_⟩
 rintro C _ _ w8 ⟨m,O,GG,n,H,rfl,hj,rfl,g,Q,x,k2,k4,a8,h2⟩;have kE:aj (λP=>v.heap.size<=P) w w8:=(ai.keep c1).then Q;have h3:=Q.get g8 oM;have z8:=Q.size;obtain⟨d5,d6⟩:=g.a.cl;have c2:=g.a.ok;obtain⟨k6,k8⟩:=c2.TK;obtain⟨k9,l0,l3⟩:=c2.bW;refine al.dec (λl4=>?_) (λl5=>?_)
 ·have h4:=K.keep kE λP a h=>by have:=V P a;omega
  obtain⟨P,a6,R,es,rfl,h5,d7,h6,d8,va,vn,vc,ea,en,ec,rfl,hv,he,a0⟩:=h4.vQ (i:=m) oM;have j1:=V P d7;have a9:=g6 R (QZ h6);refine⟨P,a6,rfl,oM,oM,bB (es:=nd R va vn vc ea en ec) (k:=15) (TA _ _ _ _ _ _ _) rfl (λf I=>by rw[Qx];exact d8 f I) (PC.ok (Bj g.a g.ea a0 hv he a9 oM oM) ?_)⟩;rintro _ w9 ⟨F9,rfl,h7,t,d9⟩;have c3:=g.BJ h7 t;have c4:∀P,E P->¬O P:=λP a hf=>by have:=V P a;have:=x P (.inl hf);omega
  refine⟨_,rfl,P,a6,rfl,oM,oM,bB (es:=nd R va vn vc ea en ec) (k:=15) (TA _ _ _ _ _ _ _) rfl (λf I=>by rw[Qx];exact(t.keep.cell (a:=⟨P,_,none⟩) h5 (c4 P d7)).trans (d8 f I)) (PC.ok (Bj c3.b c3.eb a0 (hv.keep t.keep c4) (he.keep t.keep c4) a9 oM oM) ?_)⟩;rintro _ l6 ⟨e0,rfl,e1,a1,-⟩;have e2:=c3.TH e1 a1;have h8:∀P,F9 P->v.heap.size<=P:=λP a=>(t.new P a).elim (λh=>x P (.inl h)) λh=>by omega
  have e3:∀P,e0 P->v.heap.size<=P:=λP a=>(a1.new P a).elim (λh=>x P (.inr h)) λh=>by have:=t.keep.size;omega
  have hq:=a8.call (a:=R) (self:=self) h2 d5 d6 g.a.XI a0.cmd (Lq he) bb L oM g.a.waits c2.Bk.2;exact⟨_,rfl,_,oM,m+1,F9,e0,_,_,an oM,oM,rfl,e2,(Q.then (t.keep.mono λP _ a=>x P (.inl a))).then (a1.keep.mono λP _ a=>x P (.inr a)),λP a=>a.elim (h8 P) (e3 P),by rcases d9.evs with h|h<;>omega,by have:=d9.asked;omega,hq.WB,hq.wait⟩
 obtain⟨S,e4⟩:=a8.Mk d5 d6;refine PC.ok (xE g.a g.ea oM) ?_;rintro _ l7 ⟨l8,rfl,b0,a7⟩;have a2:=g.BJ b0 a7;have e5:=a7.keep.get h3 (λh=>by have:=x _ (.inl h);omega);generalize(d_ c n).2=Y at S e4 a2 b0;have l9:Y.S.l.length<=17000000:=by rw[S];omega
 refine⟨_,rfl,PC.ok (oA a2.a oM) ?_⟩;rintro _ m0 ⟨m1,m2,m3,m4,rfl,e6,e7,j2⟩;have b1:=a2.af e7;refine⟨_,_,_,rfl,PC.ok (oA b1.b oM) ?_⟩;rintro _ m5 ⟨m6,m7,m8,m9,rfl,e8,c5,j3⟩;have e9:=b1.af c5;refine⟨_,_,_,rfl,PC.ok (Bo ((e6.af c5).row dC ba) (e8.row dC ba)) ?_⟩;rintro _ n0 ⟨rfl,f2⟩;have T:=e9.af f2;have b4:=f2.get (c5.get (e7.get e5 id) id) id;refine⟨_,rfl,al.not (al.dec (λ_=>⟨_,_,_,_,_,_,ae b4 rfl,ae b4 rfl,?_⟩) (λh=>Zz (by rw[S]) h))⟩;refine PC.ok (Ic T.a T.b rfl (by rw[S]) (A.af T.ea.gr)) ?_;rintro _ n1 ⟨rfl,h9⟩;have a3:=T.af h9;refine⟨_,rfl,al.ff rfl (PC.ok (oA a3.a oM) ?_)⟩;rintro _ n2 ⟨i0,c6,n3,i1,rfl,b5,i2,f3⟩;have i3:=b5.aE;have d1:=a3.a.aE;have a4:=a3.af i2;obtain⟨d2,f0,-,-⟩:=e4.dY b;refine⟨_,_,_,rfl,PC.ok (Eb a4.a a4.ea g0) ?_⟩;rintro _ n4 ⟨n8,rfl,b6,b2,j4⟩;have b7:=a4.BJ b6 b2;refine⟨_,rfl,al.dV (λh=>Zz d2 h) (λ_=>PC.ok (oA b7.a oM) ?_)⟩;rintro _ c8 ⟨i4,i5,n9,i6,rfl,f4,f5,j5⟩;have f6:=b7.af f5;have f1:=b6.cl;have b3:Row ia 96 c8 i1 i0 c6 Y.S.l:=((b5.row dC ba).keep b2.keep λP a h=>by have:=f3 P a;have:=d1 P h;omega).af f5;have b8:Row ia 96 c8 i6 i4 i5 (ix c Y b).2.S.l:=f4.row dC ba;have j6:=b3.len;have j7:=b8.len;refine⟨_,_,_,rfl,λC f w'=>∃i:Nat,f=i/\i<=c6/\C=c6-i/\ai c8 w',⟨_,0,rfl,Qj _,rfl,aj.refl _⟩,?_⟩;rintro C _ _ o0 ⟨i,rfl,hi,rfl,U⟩;refine al.dec (λj8=>?_) (λ_=>Rb j k (f6.ea.gr.then U));obtain⟨f7,o2,e,o1,rfl,o3,-,i7,i8,q1,q2,q3,rfl,i9,-⟩:=(b3.af U).vQ (i:=i) oM;refine⟨f7,o2,rfl,oM,oM,bB (es:=aD e q1 q2 q3) (k:=10) (bf _ _ _ _) rfl (λf I=>by rw[Qx];exact i8 f I) (PC.ok (GW (b8.af U) i9 f1.1.ok.ids (f0 e (QZ i7))) ?_)⟩;rintro _ o4 ⟨rfl,j0⟩;exact⟨_,rfl,al.ff rfl ⟨_,oM,i+1,an oM,oM,rfl,U.then j0⟩⟩

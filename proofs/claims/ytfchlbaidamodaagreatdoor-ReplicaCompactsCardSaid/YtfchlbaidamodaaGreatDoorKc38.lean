import Derived.Test.YtfchlbaidamodaaGreatDoorKc34
set_option linter.all false
set_option maxRecDepth 20000
namespace Go.Proofs.YtfchlbaidamodaaGreatDoor
open Go.ax
variable{I:Bool}{e:Int}{v:List UInt8}{B:List ah}{g9:List yE}{a:Nat}{L l:ah}{H:aq}{d4:bw}{e1:dz}
def aq.Us(a:L∈H.l):L∈(H.add l).2.l:=by
 rcases H.gg l with⟨-,b⟩|⟨c,-⟩
 ·rw[b];exact a
 ·rw[c];exact(cX l H.l).mem_iff.2 (QJ _ a)
def aq.wQ:∀(b:List ah) {S:aq} {a:ah},a∈S.l->a∈(S.eI b).l
 |[],S,a,c=>c
 |e::b,S,a,c=>aq.wQ b (S:=(S.add e).2) (aq.Us c)
section
variable {D E:ak} {A:oA} {no:Int} {l x:List ah} {k d:Nat} {V:cY} {c:cz} {X:bw} {ref:Bool}
def wR(b:D.dead=true)(a:ak->Int×ak):D.op a=(15,D.gone):=by
 unfold ak.op ak.dies;rw[b];rfl
def JK(a:D.dead=true):Go.Proofs.YtfchlbaidamodaaGreatDoor.bF V D=(15,V,D.gone):=by
 unfold bF;have:D.create (cR (aB V.next))=(15,D.gone):=wR a _;dsimp only;rw[this,if_pos sM]
def CS(a:D.dead=true):aG V D=(15,V,D.gone):=by
 unfold aG;split
 ·exact JK a
 ·have:D.sync V.last=(15,D.gone):=wR a _
  dsimp only;rw[this,if_pos sM]
def JL(a:D.dead=true)(x:List ah):(az V D x).2.2.files=D.files/\(az V D x).2.2.dead=true/\(x≠[]->(az V D x).1≠0):=by
 unfold az;split
 ·exact⟨rfl,a,λ_=>sM⟩
 split
 ·rename_i c;exact⟨rfl,a,λd=>absurd c d⟩
 dsimp only
 by_cases b:V.size<=V.bytes
 ·rw[if_pos b,CS a,if_pos sM]
  exact⟨rfl,rfl,λ_=>sM⟩
 ·rw[if_neg b,if_neg sM]
  have:D.append V.last (ar x)=(15,D.gone):=wR a _;rw[this,if_pos sM];exact⟨rfl,rfl,λ_=>sM⟩
def HQ(a:D.dead=true){size:Int}:(aU V D x size).no≠0/\(aU V D x size).D.files=D.files/\(aU V D x size).D.dead=true:=by
 unfold aU;split
 ·rename_i b;exact⟨b,rfl,a⟩
 have:bL V.next (bR x).1 D=(15,D.gone):=by
  unfold bL;have:D.create (cR (aB V.next))=(15,D.gone):=wR a _;dsimp only;rw[this,if_pos sM]
 rw[this,if_pos sM];exact⟨sM,rfl,rfl⟩
def PQ{b:ByteArray}(f:ay D.files b=some ⟨v,a,I⟩)(c:(D.sync b).1≠0):(D.sync b).1=15/\(D.sync b).2=D.gone:=by
 unfold ak.sync at c⊢;rcases Cq D (ak.Cr b λD d=>(0,D.eJ b (d.cut d.bytes.length)))with e|e
 ·rw[e];exact⟨rfl,rfl⟩
 ·rw[e]at c
  unfold ak.Cr at c;rw[eP,f]at c;exact absurd rfl c
def cE.Sv(i:cE D A no l k)(d:AV V A no l)(m:∀a∈x,a.Ok/\a.aK.length<=64){size:Int}:
  ((aU V D x size).no≠0/\cE (aU V D x size).D A no l k)\/
  (cE (aU V D x size).D [] V.next x x.length/\((aU V D x size).no=0/\AV (aU V D x size).V [] V.next x/\(aU V D x size).V.size=size\/(aU V D x size).no≠0/\(aU V D x size).D.dead=true)):=by
 have s:bR x=(ar x,0):=by
  unfold bR;rw[if_neg];intro t;obtain⟨a,u,n⟩:=List.any_eq_true.1 t;have:=(m a u).2;unfold eD at n;simp at n;omega
 unfold aU;rw[s,if_neg sM];rcases i.bL d m with⟨e,o⟩|⟨e,o,j⟩
 ·dsimp only
  rw[if_pos e];exact .inl ⟨e,o⟩
 dsimp only;rw[if_neg (by simpa using e)];generalize(Go.Proofs.YtfchlbaidamodaaGreatDoor.bL V.next (ar x) D).2=p at j;have v:=i.ne_next d;obtain⟨w,q⟩:=BJ V.aX j.tidy;have b:cE (jC V.aX p) [] V.next x x.length:=by
  refine j.same w (λf g=>?_) (q _ λf g a=>?_)
  ·obtain rfl:f=V.next:=by simpa[dt]using g
   exact q _ λy r a=>v y (by rw[d.aX]at r;exact r) a.symm
  ·rw[d.aX]at g
   exact(fk (n:=f) (.inr (by have:=i.AS f g;omega))).1 a.symm
 generalize jC V.aX p=c at b
 cases h:c.dead with
 |false=>
  have z:V.next<iq c:=by
   obtain⟨H,B,-⟩:=b.last;have:=b.mL;exact JM oM (by rw[B];rfl)
  have:=sI c.list;rw[Ly b h];exact .inr ⟨b,.inl ⟨rfl,⟨rfl,rfl,z,this.2⟩,rfl⟩⟩
 |true=>
  obtain⟨C,E⟩:=Pl (size:=size) h;refine .inr ⟨b.files E,.inr ⟨by rw[C];simp,?_⟩⟩;have F:told c=[]:=by
   have:c.read cg=([],15):=by unfold ak.read;rw[h];rfl
   unfold told dR;rw[this];rfl
  unfold aM;rw[F];unfold cZ gj;rw[if_neg sM,if_pos (show(dY c size).aX=[]from rfl),show aG _ _=_ from CS h]
  rfl
def JN(b:cE D A no l k)(a:Int):bK (dH (D.eA a))/\Tidy (dH (D.eA a)).files/\(∀c∈dt A++[no],ay (dH (D.eA a)).files (au c)=ay (D.eA a).files (au c))/\ay (dH (D.eA a)).files cg=ay (D.eA a).files cg:=by
 have i:=Jv D a;have n:=LY b.tidy a;have o:∀x∈dt A++[no],aN x:=λx q=>by have:=b.AS x q;unfold aN;omega
 have r:(dt A++[no]).length<=64:=by have:=b.many;simpa[dt]using this
 have s:dR (D.eA a)=some (dt A++[no]):=by
  unfold dR;rw[i.read (vb b.tidy a b.WV),if_neg sM,show(dB (bW (dt A++[no]))).bytes=bW (dt A++[no])from rfl,oI o r]
 have p:∀f∈Hf (D.eA a),(∀c∈dt A++[no],au c≠f)/\cg≠f:=λf g=>by
  have d:=(List.mem_filter.1 g).2;unfold jB at d;rw[s]at d;refine⟨λc j e=>?_,λe=>?_⟩
  ·have o:=b.AS c j;subst e;rw[yG oM,Xv (fk (n:=c) (.inr oM)).2]at d;simp only[Option.getD_some,decide_eq_true j]at d;simp at d
  ·subst e
   rw[Xv Lw,RN]at d;simp at d
 have h:∀(m:List ByteArray) {D:ak},Tidy D.files->Tidy (Lu D m).files:=by
  intro m
  induction m with
  |nil=>intro D b;exact b
  |cons f m t=>
   intro D b;refine t (D:=(D.delete f).2) ?_;rcases jA D f with e|e
   ·rw[e];exact b
   ·rw[e];exact b.bV _
 refine⟨BC _ i,h _ n,λc j=>?_,?_⟩
 ·unfold dH
  rw[BD _ i n,if_neg λg=>(p _ g).1 c j rfl]
 ·unfold dH
  rw[BD _ i n,if_neg λg=>(p _ g).2 rfl]
def My{size keep:Int}(a:cE D A no l k):∃b,k<=b/\b<=l.length/\(aM (dH (D.eA keep)) size).no=0/\(aM (dH (D.eA keep)) size).out=cI A (l.take b)/\AV (aM (dH (D.eA keep)) size).V A no (l.take b)/\(aM (dH (D.eA keep)) size).V.size=size/\
  cE (aM (dH (D.eA keep)) size).D A no (l.take b) b/\bK (aM (dH (D.eA keep)) size).D:=by
 obtain⟨i,j,f,m⟩:=JN a keep;obtain⟨n,o,B,p⟩:=a.last;obtain⟨c,C,E,q⟩:=FH keep (ar l) p;have g:ay (D.eA keep).files (au no)=some ⟨(ar l).take c,((ar l).take c).length,true⟩:=by
  rw[FG a.tidy,o];show(if true then some (tG keep ⟨ar l,n,true⟩)else none)=_;rw[q];rfl
 have r:((ar l).take c).length=c:=by simp;omega
 rw[r]at g;obtain⟨b,s,t,F,u,v,w,y,H,I,d,e,z⟩:=PR (size:=size) (n:=c) i j a (λx h=>by rw[f x.1 (List.mem_append_left _ (Xk.2 ⟨x,h,rfl⟩))];exact vb a.tidy keep (a.full x h)) (by rw[m];exact vb a.tidy keep a.WV) (by rw[f no sM];exact g) oM oM;exact⟨b,s,t,u,v,w,y,e oM,d⟩
structure fV (c:cz) (X:bw) (ref:Bool):Prop where
 log:∃V A no l k d,X.log=some V/\cE X.D A no l k/\(X.D.dead=true\/AV V A no l/\V.size=c.aZ)/\WW c.aZ A/\X.S=(⟨c.bl.toNat,[]⟩:aq).eI ((cI A l).take d)/\d<=JO A k/\(d<(cI A l).length->X.D.dead=true/\ref=true)
def sJ(A:oA)(l:List ah):(cI A l).length=JO A l.length:=by unfold cI JO;simp
def fV.same{Y:bw}(f:fV c X ref)(g:Y.S=X.S)(a:Y.D=X.D)(h:Y.log=X.log){r2:Bool}(i:ref=true->r2=true):fV c Y r2:=by
 obtain⟨V,A,no,l,k,d,j,m,n,o,p,q,b⟩:=f.log;exact⟨V,A,no,l,k,d,by rw[h];exact j,by rw[a];exact m,by rw[a];exact n,o,by rw[g];exact p,q,λe=>⟨by rw[a];exact(b e).1,i (b e).2⟩⟩
def fV.Ma(a:fV c X ref)(b:Int):fV c {X with D:=X.D.Ma b} ref:=by
 obtain⟨V,A,no,l,k,d,e,f,g,h,i,j,m⟩:=a.log;exact⟨V,A,no,l,k,d,e,f.files rfl,g,h,i,j,m⟩
def fV.take(M:fV c X ref)(z:X.S.Cl)(B:X.S.n=c.bl.toNat)(N:X.D.Ok)(O:∀P∈x,P.Ok)(Q:x.length<=20000000):
  ((bU c X x).1=0/\(bU c X x).2.S=X.S.eI x/\∀C,fV c (bU c X x).2 C)\/
  ((bU c X x).1≠0/\(bU c X x).2.S=X.S/\fV c (bU c X x).2 (ref||(bU c X x).1==15)):=by
 obtain⟨V,A,no,l,k,d,R,n,S,p,g,E,q⟩:=M.log;have a:bU c X x=(if(az V X.D x).1≠0 then((az V X.D x).1,{X with log:=some (az V X.D x).2.1,D:=(az V X.D x).2.2})else
   if((az V X.D x).2.2.sync (az V X.D x).2.1.last).1≠0 then(((az V X.D x).2.2.sync (az V X.D x).2.1.last).1,{X with log:=some (az V X.D x).2.1,D:=((az V X.D x).2.2.sync (az V X.D x).2.1.last).2})else
   (0,{X with log:=some (az V X.D x).2.1,D:=((az V X.D x).2.2.sync (az V X.D x).2.1.last).2,S:=dZ c X.S x})):=by
  unfold bU;rw[R]
 by_cases r:X.D.dead=true
 ·obtain⟨F,s,e3⟩:=JL (V:=V) r x
  generalize az V X.D x=b at*
  by_cases e:b.1≠0
  ·rw[if_pos e]at a
   rw[a];exact .inr ⟨e,rfl,b.2.1,A,no,l,k,d,rfl,n.files F,.inl s,p,g,E,λf=>⟨s,by rw[(q f).2];rfl⟩⟩
  ·rw[if_neg e]at a
   have T:b.2.2.sync b.2.1.last=(15,b.2.2.gone):=wR s _;rw[T,if_pos sM]at a;rw[a];exact .inr ⟨sM,rfl,b.2.1,A,no,l,k,d,rfl,n.files F,.inl rfl,p,g,E,λf=>⟨rfl,by rw[(q f).2];rfl⟩⟩
 obtain⟨U,H⟩:=S.resolve_left r;have W:(cI A l).length<=d:=Nat.le_of_not_lt λY=>r (q Y).1;rw[Qz W]at g;have I:(cI A l).length=JO A k:=by
  have:=sJ A l;have:=n.kl;unfold JO at*;omega
 obtain⟨j,t,h,J,u,v,K,i,w,o,f7⟩:=zo (x:=x) n U O Q N (by rw[H];exact p);rw[H]at w o;generalize az V X.D x=b at*
 by_cases e:b.1≠0
 ·rw[if_pos e]at a
  rw[if_neg e]at i;rw[a];exact .inr ⟨e,rfl,b.2.1,j,t,h,J,(cI j h).length,rfl,u,.inr ⟨v,w⟩,o,by rw[List.take_length,i];exact g,by rw[i,I];exact K,λf=>absurd f (Nat.lt_irrefl _)⟩
 rw[if_neg e]at a;have e:b.1=0:=Classical.not_not.1 e;rw[if_pos e]at i;rw[cE.rQ v]at a;obtain⟨a0,Z,s2,s3⟩:=u.last;rcases sK u with⟨m,y⟩|⟨m,y⟩
 ·rw[if_neg (by rw[m];simp)]at a
  rw[a];refine .inl ⟨rfl,lJ z B x,λC=>⟨b.2.1,j,t,h,h.length,(cI j h).length,rfl,y,.inr ⟨v,w⟩,o,?_,by rw[sJ];exact Q4 _,λf=>absurd f (Nat.lt_irrefl _)⟩⟩;rw[List.take_length,i,aq.BE,<-g];exact lJ z B x
 ·obtain⟨z1,L⟩:=PQ Z m;rw[if_pos m]at a;rw[a];refine .inr ⟨m,rfl,b.2.1,j,t,h,J,(cI A l).length,rfl,y,.inl (by rw[L];rfl),o,?_,by rw[I];exact K,λ_=>⟨by rw[L];rfl,by rw[z1];simp⟩⟩;rw[i,List.take_left];exact g
def fV.eA(g:fV c X ref)(keep:Int):(iS c X keep).1=0/\(∀b∈X.S.l,b∈(iS c X keep).2.S.l)/\(ref=false->(iS c X keep).2.S=X.S)/\fV c (iS c X keep).2 false:=by
 obtain⟨V,A,no,l,k,d,C,h,E,i,e,j,m⟩:=g.log;obtain⟨a,F,n,o,p,q,r,s,H⟩:=My (size:=c.aZ) (keep:=keep) h;have t:iS c X keep=(0,{X with D:=(aM (dH (X.D.eA keep)) c.aZ).D,waits:=[],fP:=⟨X.fP.dx,[],[]⟩,log:=some (aM (dH (X.D.eA keep)) c.aZ).V,S:=(⟨c.bl.toNat,[]⟩:aq).eI (cI A (l.take a))}):=by
  unfold iS eR;dsimp only;rw[if_neg (by rw[o];simp),p]
 have u:(cI A l).take d=(cI A (l.take a)).take d:=by
  have f:d<=((A.map (·.2)).flatten).length+a:=by unfold JO at j;omega
  unfold cI;rw[List.take_append,List.take_append,List.take_take,X2 oM]
 have v:(⟨c.bl.toNat,[]⟩:aq).eI (cI A (l.take a))=X.S.eI ((cI A (l.take a)).drop d):=by
  rw[e,u,<-aq.BE,List.take_append_drop]
 rw[t];refine⟨rfl,λb w=>?_,λx=>?_,_,A,no,l.take a,a,(cI A (l.take a)).length,rfl,s,.inr ⟨q,r⟩,i,by rw[List.take_length],?_,λf=>absurd f (Nat.lt_irrefl _)⟩
 ·show b∈((⟨c.bl.toNat,[]⟩:aq).eI (cI A (l.take a))).l
  rw[v];exact aq.wQ _ w
 ·show(⟨c.bl.toNat,[]⟩:aq).eI (cI A (l.take a))=X.S
  have y:(cI A l).length<=d:=Nat.le_of_not_lt λz=>by have:=(m z).2;rw[x]at this;cases this
  have:=sJ A l;have B:a=l.length:=by unfold JO at*;omega
  rw[B,List.take_length,e,Qz y]
 ·rw[sJ];unfold JO;rw[Qy,X2 n];exact Q4 _
def fV.Oj(x:fV c X ref)(g:X.S.Cl)(y:X.S.n=c.bl.toNat):(eC c X).2.S=X.S/\fV c (eC c X).2 ref:=by
 obtain⟨V,A,no,l,k,d,h,o,z,p,q,r,s⟩:=x.log;have a:eC c X=(if(aU V X.D X.S.l c.aZ).no≠0 then((aU V X.D X.S.l c.aZ).no,{X with D:=(aU V X.D X.S.l c.aZ).D})else(0,{X with D:=(aU V X.D X.S.l c.aZ).D,log:=some (aU V X.D X.S.l c.aZ).V})):=by
  unfold eC;rw[h]
 refine⟨by rw[a];split<;>rfl,?_⟩
 by_cases j:X.D.dead=true
 ·obtain⟨B,C,t⟩:=HQ (V:=V) (x:=X.S.l) (size:=c.aZ) j;rw[if_pos B]at a;rw[a];exact⟨V,A,no,l,k,d,h,o.files C,.inl t,p,q,r,λb=>⟨t,(s b).2⟩⟩
 obtain⟨u,E⟩:=z.resolve_left j;have K:(cI A l).length<=d:=Nat.le_of_not_lt λF=>j (s F).1;have H:∀e∈X.S.l,e.Ok/\e.aK.length<=64:=λe v=>⟨g.ok.ok e v,by
  obtain⟨-,-,-,-,-,-,L,-⟩:=im (g.ok.TC e v);have:=g.ok.n;omega⟩
 have w:X.S=(⟨c.bl.toNat,[]⟩:aq).eI X.S.l:=by rw[<-y];exact g.VI.symm
 rcases o.Sv u H (size:=c.aZ)with⟨i,f⟩|⟨i,⟨f,m,I⟩|⟨f,m⟩⟩
 ·rw[if_pos i]at a
  rw[a];exact⟨V,A,no,l,k,d,h,f,.inr ⟨u,E⟩,p,q,r,λb=>absurd b oM⟩
 ·rw[if_neg (by rw[f];simp)]at a
  rw[a];exact⟨_,[],V.next,X.S.l,X.S.l.length,X.S.l.length,rfl,i,.inr ⟨m,I⟩,λJ n=>by simp at n,by rw[show(cI [] X.S.l)=X.S.l from rfl,List.take_length];exact w,by unfold JO;simp,λb=>absurd b (by rw[show(cI [] X.S.l)=X.S.l from rfl];exact Nat.lt_irrefl _)⟩
 ·rw[if_pos f]at a
  rw[a];exact⟨V,[],V.next,X.S.l,X.S.l.length,X.S.l.length,h,i,.inl m,λJ n=>by simp at n,by rw[show(cI [] X.S.l)=X.S.l from rfl,List.take_length];exact w,by unfold JO;simp,λb=>absurd b (by rw[show(cI [] X.S.l)=X.S.l from rfl];exact Nat.lt_irrefl _)⟩
def FY(a:(bj c e).1=0):fV c (bj c e).2 false/\(bj c e).2.waits=[]:=by
 have f:bj c e=qA c:=by
  unfold bj at a⊢;split
  ·rename_i b;rw[if_pos b]at a;exact absurd a b
  rename_i b;rw[if_neg b]at a;split
  ·rename_i g;rw[if_pos g]at a;simp at a
  ·rfl
 rw[f]at a⊢;unfold qA eR at a⊢;dsimp only at a⊢;rcases rR c.nY.toNat c.aZ with d|⟨d,h,i,j,k,n,o,p⟩
 ·rw[if_pos oM]at a
  exact absurd a (by dsimp only;omega)
 ·rw[if_neg (by rw[d];simp)]
  exact⟨⟨_,[],1,[],0,0,rfl,i,.inr ⟨j,k⟩,λq l=>by simp at l,by rw[h];rfl,Qj _,λm=>by simp[cI]at m⟩,rfl⟩
def Mz{c x:ah}(b:x∈(dQ a B c).2):x=c\/x∈B:=by
 unfold dQ at b;split at b
 ·exact .inr b
 ·exact Q2.1 ((cX c B).mem_iff.1 b)
def wS(a:Nat)(c:ah->Prop):∀(l:List ah) (i:aq) (b f:List ah),(∀e∈l,c e)->(∀e∈b,c e)->(∀e∈f,c e)->(∀e∈(dI a l i b f).2.1,c e)/\∀e∈(dI a l i b f).2.2,c e
 |[],i,b,f,_,g,h=>⟨g,h⟩
 |e::l,i,b,f,k,g,h=>by
  have m:=k e (QV ..);have j:∀x∈l,c x:=λx d=>k x (QJ _ d);unfold dI;split
  ·exact wS a c l _ _ _ j (λx d=>(Q6.1 d).elim (g x) λd=>by rw[List.mem_singleton.1 d];exact m) h
  split
  ·exact wS a c l _ _ _ j g h
  ·exact wS a c l _ _ _ j g λx d=>(Mz d).elim (λn=>by rw[n];exact m) (h x)
def rU(b:ah->Prop):∀(l:List ah) (f:aq) (a:List ah),(∀e∈l,b e)->(∀e∈a,b e)->∀e∈(dP l f a).2,b e
 |[],f,a,_,d=>d
 |e::l,f,a,g,d=>by
  have h:∀x∈l,b x:=λx c=>g x (QJ _ c);unfold dP;split
  ·exact rU b l _ _ h λx c=>(Q6.1 c).elim (d x) λc=>by rw[List.mem_singleton.1 c];exact g e (QV ..)
  ·exact rU b l _ _ h d
def wT(f:ah->Prop):∀(l:List ah) (b:aq) {c:ah×aq×List ah},cP b l=some c->(∀e∈l,f e)->f c.1/\∀e∈c.2.2,f e
 |[],b,c,a,_=>by cases a
 |e::l,b,c,a,g=>by
  unfold cP at a;split at a
  ·cases a;exact⟨g e (QV ..),λx d=>g x (QJ _ d)⟩
  ·cases h:cP b l with
   |none=>rw[h]at a;cases a
   |some m=>
    rw[h]at a
    cases a
    obtain⟨i,j⟩:=wT f l b h λx d=>g x (QJ _ d);exact⟨i,λx d=>(Q2.1 d).elim (λk=>by rw[k];exact g e (QV ..)) (j x)⟩
def wU(c:ah->Prop):∀(k:Nat) (d:aq) (l a:List ah),(∀b∈l,c b)->(∀b∈a,c b)->(∀b∈(cW k d l a).1,c b)/\∀b∈(cW k d l a).2,c b
 |0,d,l,a,e,f=>⟨f,e⟩
 |k+1,d,l,a,e,f=>by
  unfold cW
  cases h:cP d l with
  |none=>exact⟨f,e⟩
  |some m=>
   obtain⟨i,j⟩:=wT c l d h e;exact wU c k _ _ _ j λx g=>(Q6.1 g).elim (f x) λg=>by rw[List.mem_singleton.1 g];exact i
def JP(e:ah->Prop):∀(k:Nat) (b:aq) (c d:List ah),(∀a∈c,e a)->(∀a∈d,e a)->(∀a∈(kW k b c d).1,e a)/\∀a∈(kW k b c d).2,e a
 |0,b,c,d,f,h=>⟨f,h⟩
 |k+1,b,c,d,f,h=>by
  unfold kW;have g:=wU e ((d.filter λa=>(b.get (aO a)).isNone).length+1) b (d.filter λa=>(b.get (aO a)).isNone) [] (λx i=>h x (List.mem_filter.1 i).1) sM;have a:bI b d=cW ((d.filter λa=>(b.get (aO a)).isNone).length+1) b (d.filter λa=>(b.get (aO a)).isNone) []:=rfl;rw[<-a]at g;dsimp only;split
  ·exact⟨f,g.2⟩
  ·exact JP e k _ _ _ (rU e _ _ _ g.1 f) g.2
def PT{c:cz}{X:bw}{l:List ah}(b:ah->Prop)(d:∀a∈l,b a)(e:∀a∈X.waits,b a):(∀a∈(fm c X l).1,b a)/\∀a∈(fm c X l).2,b a:=by
 obtain⟨f,g⟩:=wS c.buffer.toNat b l (dZ c X.S []) [] X.waits d sM e;exact JP b _ _ _ _ f g
def CT(c:cz)(X:bw)(x:List ah):(bU c X x).2.waits=X.waits:=by
 unfold bU
 cases X.log with
 |none=>rfl
 |some V=>
  dsimp only;split
  ·rfl
  split<;>rfl
def CU(ref:Bool)(kind no:Int):Bool:=ref&&kind !=4||(kind==0||kind==2)&&(no==15||no==12)
structure pL (c:cz) (X:bw) (ref:Bool) (kind:Int) (r:Int×bw):Prop where
 VJ:∀e∈X.S.l,e∈r.2.S.l
 Yt:fV c r.2 (CU ref kind r.1)
 idle:kind≠0->kind≠2->kind≠4->r.2.S=X.S
 no:kind=0\/kind=2->r.1≠0->r.2.S=X.S
 cr:kind=4->ref=false->r.2.S=X.S
 wait:∀e∈r.2.waits,e.Ok
def ob{ref:Bool}{a no:Int}(b:a≠4)(c:ref=true):CU ref a no=true:=by unfold CU;rw[c];simp[b]
def pL.still{no:Int}(b:fV c X ref)(d:e≠4)(a:d4.S=X.S)(g:d4.D=X.D)(h:d4.log=X.log)(i:∀f∈d4.waits,f.Ok):pL c X ref e (no,d4):=
 ⟨λf j=>by rw[a];exact j,b.same a g h (ob d),λ_ _ _=>a,λ_ _=>a,λb=>absurd b d,i⟩
def PU(b:dJ e1 a e=0)(d:e1.kind=3)(f:e<=32):e1.events.length<=32:=by
 rcases Nat.lt_or_ge 32 e1.events.length with c|c
 ·exfalso
  unfold dJ at b;rw[if_pos d]at b;split at b
  ·cases b
  ·unfold ez at b
   split at b
   ·cases b
   ·rw[if_pos (.inr oM)]at b;cases b
 ·exact c
def fV.call{self:Int}{a:yE}(e:fV c X ref)(f:∀i∈X.waits,i.Ok)(v:X.S.Cl)(w:X.S.n=c.bl.toNat)(B:X.D.Ok)(E:a.cmd.Ok)(F:∀i∈a.m.events,i.Ok)(H:aN self)(I:aN c.start)(J:X.S.l.length<=20000000)(R:X.waits.length<=256)(K:c.chunk<=32):
  pL c X ref a.kind (CO c self X a):=by
 unfold CO;split
 ·rename_i j
  have h:a.kind≠4:=oM;obtain⟨V,A,no,l,k,d,t,-⟩:=e.log;unfold cm;rw[t];dsimp only;split
  ·exact pL.still e h rfl rfl rfl f
  split
  ·have L:=Ol (d:=c.decl) (V:=cG c.decl X.S.l) E v.ok H I J;have r:=e.take (x:=[(kV c.decl X.S (cG c.decl X.S.l) self c.start a.cmd).1]) v w B (λi g=>by rw[List.mem_singleton.1 g];exact L) sM;have o:=CT c X [(kV c.decl X.S (cG c.decl X.S.l) self c.start a.cmd).1];generalize bU c X [(kV c.decl X.S (cG c.decl X.S.l) self c.start a.cmd).1]=x at r o;rcases r with⟨p,n,q⟩|⟨p,n,q⟩
   ·rw[if_neg (by rw[p];simp)]
    exact⟨λi g=>by dsimp only;rw[n];exact aq.wQ _ g,q _,λb=>absurd j b,λ_ b=>absurd rfl b,λb=>absurd b h,by dsimp only;rw[o];exact f⟩
   ·rw[if_pos p]
    refine⟨λi g=>by dsimp only;rw[n];exact g,q.same rfl rfl rfl λm=>?_,λb=>absurd j b,λ_ _=>n,λb=>absurd b h,by dsimp only;rw[o];exact f⟩;rcases Bool.or_eq_true .. ▸m with m|m
    ·exact ob h m
    ·unfold CU;dsimp only;rw[m,j];simp
  ·exact pL.still e h rfl rfl rfl f
 split
 ·rename_i j
  unfold gP;split<;>exact pL.still e oM rfl rfl rfl f
 split
 ·rename_i j
  have h:a.kind≠4:=oM;obtain⟨V,A,no,l,k,d,t,-⟩:=e.log;unfold bA;rw[t];dsimp only;split
  ·exact pL.still e h rfl rfl rfl f
  rename_i M;split
  ·exact pL.still e h rfl rfl rfl f
  split
  ·rename_i N
   have S:=PU (Classical.not_not.1 M) N K;unfold ia;obtain⟨C,y⟩:=PT (c:=c) (X:=X) ah.Ok F f;have O:=CV c X a.m.events;generalize fm c X a.m.events=s at C y O;dsimp only;split
   ·exact pL.still e h rfl rfl rfl y
   have r:=(e.same (Y:={X with waits:=s.2}) rfl rfl rfl id).take (x:=s.1) v w B C oM;have o:=CT c {X with waits:=s.2} s.1;generalize bU c {X with waits:=s.2} s.1=x at r o;dsimp only at r o;rcases r with⟨p,n,q⟩|⟨p,n,q⟩
   ·rw[if_neg (by rw[p];simp)]
    exact⟨λi g=>by dsimp only;rw[n];exact aq.wQ _ g,q _,λ_ b=>absurd j b,λ_ b=>absurd rfl b,λb=>absurd b h,by dsimp only;rw[o];exact y⟩
   ·rw[if_pos p]
    refine⟨λi g=>by dsimp only;rw[n];exact g,q.same (Y:={x.2 with waits:=[]}) (r2:=CU ref a.kind x.1) rfl rfl rfl λm=>?_,λ_ b=>absurd j b,λ_ _=>n,λb=>absurd b h,sM⟩;rcases Bool.or_eq_true .. ▸m with m|m
    ·exact ob h m
    ·unfold CU;rw[m,j];simp
  split
  ·exact pL.still e h rfl rfl t.symm f
  split<;>exact pL.still e h rfl rfl t.symm f
 split
 ·exact pL.still e oM rfl rfl rfl f
 split
 ·rename_i j
  obtain⟨u,z,P,Q⟩:=e.eA a.n;have i:CU ref a.kind (iS c X a.n).1=false:=by unfold CU;rw[j];simp
  refine⟨z,by rw[i];exact Q,λ_ _ b=>absurd j b,λb=>oM,λ_ b=>P b,?_⟩;unfold iS eR;dsimp only;split<;>simp
 split
 ·rename_i j
  exact⟨λi g=>g,(e.Ma a.n).same rfl rfl rfl (ob oM),λ_ _ _=>rfl,λ_ _=>rfl,λ_ _=>rfl,f⟩
 split
 ·rename_i j
  obtain⟨u,z⟩:=e.Oj v w;refine⟨λi g=>by rw[u];exact g,z.same rfl rfl rfl (ob oM),λ_ _ _=>u,λ_ _=>u,λ_ _=>u,?_⟩;unfold eC
  cases X.log with
  |none=>exact f
  |some V=>
   dsimp only;split<;>exact f
 ·exact⟨λi g=>g,e.same rfl rfl rfl (ob oM),λ_ _ _=>rfl,λ_ _=>rfl,λ_ _=>rfl,f⟩
end
section
variable {w w' w0:World} {p q:Nat} {F G D E:Nat->Prop} {c e:cz} {self other:Int} {X Y:bw}
def qB{d:Int}{t u la:Option Addr}{tn z v A K lc:Nat}(j:eM w)(k:Laid w)(B:bh w D c.decl t tn u v)(hD:∀a,D a->a<w.heap.size)(L:Row PJ 152 w E la K g9)(V:∀a,E a->a<w.heap.size)(g0:aN d)(W:aN c.aZ)(X:aN c.every)(M:aN c.start):
  Calls ZQ 7 #[lK c t tn z u v A,QH self,.slice la K lc,QH d] w (Ok λc7 w'=>c7= .bool true/\ai w w'):=by
 have j9:=L.len;have g2:=L.d_;unfold aQ at g2;refine mT (PA.mk λx Z s1 g1=>aw (gD c t tn z u v A) g1 (PC.ok (oX (B.af Z) (L.af Z)) ?_));rintro _ w3 ⟨⟨f8,rfl,g3⟩,k3⟩;have o:=Z.then k3;have b9:=k3.get g1 id;refine⟨_,rfl,al.mk (λ_=>kq j k o) (λg4=>?_)⟩;obtain⟨g5,g6⟩:=g3 g4;refine aw (gD c t tn z u v A) b9 (su j k o (B.af o) W X M (λf w5 l N=>⟨_,_,rfl,aw (gD c t tn z u v A) (l.get b9 id) (su j k (o.then l) (B.af (o.then l)) W X M (λf C r _=>⟨_,_,rfl,al.dw (λh=>absurd rfl h) (λ_=>al.dw (λ_=>kq j k ((o.then l).then r)) (λh=>absurd h N))⟩) (λp F C O=>absurd O N))⟩) ?_);intro p F w5 O l hA hF g7;have c0:=o.then l;have d0:=l.get b9 id;refine⟨_,_,rfl,aw (gD c t tn z u v A) d0 (su j k c0 (B.af c0) W X M (λf C r N=>absurd O N) ?_)⟩;intro q G C _ r hB hG k0;have c1:=c0.then r;have g8:=r.get d0 id;obtain⟨d3,d4⟩:=FY O;refine⟨_,_,rfl,al.dw (λh=>absurd rfl h) (λ_=>al.dw (λh=>absurd rfl h) (λ_=>?_))⟩;have a5:(bj c self).2.fP.asked=[]:=vr c self;have c9:=hA.aF;generalize(bj c self).2=X0 at hA hB g7 a5 d3 d4;have z1:w.heap.size<x.heap.size:=oM
 have z3:=k3.size;have z5:=l.size;have z7:=r.size;have h0:gw w C p q F G c self c self X0 X0:=⟨hA.af r,hB,⟨j,k,c1,λa b=>by have:=hF a b;omega⟩,⟨j,k,c1,λa b=>by have:=hG a b;omega⟩,λa hf hg=>by have:=c9 a hf;have:=hG a hg;omega⟩
 refine⟨λH f w'=>∃(m:Nat) (P GG:Nat->Prop) (n:bw) (I:Bool),f=m/\m<=K/\H=K-m/\gw w w' p q P GG c self c self n n/\aj (λa=>x.heap.size<=a) C w'/\(∀a,jJ P GG a->x.heap.size<=a)/\n.S.l.length<=16777216+300*m/\n.fP.asked.length<=m/\fV c n I/\∀e∈n.waits,e.Ok,
  ⟨_,0,F,G,X0,false,rfl,Qj _,rfl,h0,aj.refl _,λa b=>b.elim (λh=>by have:=hF a h;omega) λh=>by have:=hG a h;omega,oM,by rw[a5];exact Qj _,d3,by rw[d4];simp⟩,?_⟩
 rintro H _ _ w8 ⟨m,P,GG,n,I,rfl,hj,rfl,g,Q,y,k2,k4,a8,h2⟩;have kE:aj (λa=>x.heap.size<=a) w w8:=(ai.keep c1).then Q;have h3:=Q.get g8 oM;have z8:=Q.size;obtain⟨d5,d6⟩:=g.a.cl;have c2:=g.a.ok;obtain⟨k6,k8⟩:=c2.JG;obtain⟨k9,l0,l3⟩:=c2.bl;refine al.dec (λl4=>?_) (λl5=>?_)
 ·have h4:=L.keep kE λa b h=>by have:=V a b;omega
  obtain⟨a,a6,R,es,rfl,h5,d7,h6,d8,va,vn,vc,ea,en,ec,rfl,hv,he,a0⟩:=h4.sS (i:=m) oM;have j1:=V a d7;have a9:=g6 R (QZ h6);refine⟨a,a6,rfl,oM,oM,br (es:=jZ R va vn vc ea en ec) (k:=15) (Of _ _ _ _ _ _ _) rfl (λf J=>by rw[Qx];exact d8 f J) (PC.ok (oY g.a g.ea a0 hv he a9 oM oM) ?_)⟩;rintro _ w9 ⟨F9,rfl,h7,s,d9⟩;have c3:=g.zD h7 s;have c4:∀a,E a->¬P a:=λa b hf=>by have:=V a b;have:=y a (.inl hf);omega
  refine⟨_,rfl,a,a6,rfl,oM,oM,br (es:=jZ R va vn vc ea en ec) (k:=15) (Of _ _ _ _ _ _ _) rfl (λf J=>by rw[Qx];exact(s.keep.cell (a:=⟨a,_,none⟩) h5 (c4 a d7)).trans (d8 f J)) (PC.ok (oY c3.b c3.eb a0 (hv.keep s.keep c4) (he.keep s.keep c4) a9 oM oM) ?_)⟩;rintro _ l6 ⟨e0,rfl,e1,a1,-⟩;have e2:=c3.OB e1 a1;have h8:∀a,F9 a->x.heap.size<=a:=λa b=>(s.new a b).elim (λh=>y a (.inl h)) λh=>by omega
  have e3:∀a,e0 a->x.heap.size<=a:=λa b=>(a1.new a b).elim (λh=>y a (.inr h)) λh=>by have:=s.keep.size;omega
  have hq:=a8.call (a:=R) (self:=self) h2 d5 d6 g.a.Zb a0.cmd (Im he) (by unfold aN;omega) M oM g.a.waits c2.vf.2;exact⟨_,rfl,_,oM,m+1,F9,e0,_,_,an oM,oM,rfl,e2,(Q.then (s.keep.mono λa _ b=>y a (.inl b))).then (a1.keep.mono λa _ b=>y a (.inr b)),λa b=>b.elim (h8 a) (e3 a),by rcases d9.evs with h|h<;>omega,by have:=d9.asked;omega,hq.Yt,hq.wait⟩
 obtain⟨S,e4⟩:=a8.Oj d5 d6;refine PC.ok (zn g.a g.ea oM) ?_;rintro _ l7 ⟨l8,rfl,b0,a7⟩;have a2:=g.zD b0 a7;have e5:=a7.keep.get h3 (λh=>by have:=y _ (.inl h);omega);generalize(eC c n).2=Y at S e4 a2 b0;have l9:Y.S.l.length<=17000000:=by rw[S];omega
 refine⟨_,rfl,PC.ok (e_ a2.a oM) ?_⟩;rintro _ m0 ⟨m1,m2,m3,m4,rfl,e6,e7,j2⟩;have b1:=a2.af e7;refine⟨_,_,_,rfl,PC.ok (e_ b1.b oM) ?_⟩;rintro _ m5 ⟨m6,m7,m8,m9,rfl,e8,c5,j3⟩;have e9:=b1.af c5;refine⟨_,_,_,rfl,PC.ok (lL ((e6.af c5).row dC (by unfold aQ;omega)) (e8.row dC (by unfold aQ;omega))) ?_⟩;rintro _ n0 ⟨rfl,f2⟩;have T:=e9.af f2;have b4:=f2.get (c5.get (e7.get e5 id) id) id;refine⟨_,rfl,al.not (al.dec (λ_=>⟨_,_,_,_,_,_,ae b4 rfl,ae b4 rfl,?_⟩) (λh=>absurd (by rw[S]) h))⟩;refine PC.ok (rN T.a T.b rfl (by rw[S]) (B.af T.ea.gr)) ?_;rintro _ n1 ⟨rfl,h9⟩;have a3:=T.af h9;refine⟨_,rfl,al.ff rfl (PC.ok (e_ a3.a oM) ?_)⟩;rintro _ n2 ⟨i0,c6,n3,i1,rfl,b5,i2,f3⟩;have i3:=b5.aF;have d1:=a3.a.aF;have a4:=a3.af i2;obtain⟨d2,f0,-,-⟩:=e4.eA d;refine⟨_,_,_,rfl,PC.ok (FU a4.a a4.ea g0) ?_⟩;rintro _ n4 ⟨n8,rfl,b6,b2,j4⟩;have b7:=a4.zD b6 b2;refine⟨_,rfl,al.dw (λh=>absurd d2 h) (λ_=>PC.ok (e_ b7.a oM) ?_)⟩;rintro _ c8 ⟨i4,i5,n9,i6,rfl,f4,f5,j5⟩;have f6:=b7.af f5;have f1:=b6.cl;have b3:Row fZ 96 c8 i1 i0 c6 Y.S.l:=((b5.row dC (by unfold aQ;omega)).keep b2.keep λa b h=>by have:=f3 a b;have:=d1 a h;omega).af f5;have b8:Row fZ 96 c8 i6 i4 i5 (iS c Y d).2.S.l:=f4.row dC (by unfold aQ;omega);have j6:=b3.len;have j7:=b8.len;refine⟨_,_,_,rfl,λH f w'=>∃i:Nat,f=i/\i<=c6/\H=c6-i/\ai c8 w',⟨_,0,rfl,Qj _,rfl,aj.refl _⟩,?_⟩;rintro H _ _ o0 ⟨i,rfl,hi,rfl,U⟩;refine al.dec (λj8=>?_) (λ_=>kq j k (f6.ea.gr.then U));obtain⟨f7,o2,e,o1,rfl,o3,-,i7,i8,q1,q2,q3,rfl,i9,-⟩:=(b3.af U).sS (i:=i) oM;refine⟨f7,o2,rfl,oM,oM,br (es:=aE e q1 q2 q3) (k:=10) (bg _ _ _ _) rfl (λf J=>by rw[Qx];exact i8 f J) (PC.ok (yT (b8.af U) i9 f1.1.ok.ids (f0 e (QZ i7))) ?_)⟩;rintro _ o4 ⟨rfl,j0⟩;exact⟨_,rfl,al.ff rfl ⟨_,oM,i+1,an oM,oM,rfl,U.then j0⟩⟩
end
end Go.Proofs.YtfchlbaidamodaaGreatDoor

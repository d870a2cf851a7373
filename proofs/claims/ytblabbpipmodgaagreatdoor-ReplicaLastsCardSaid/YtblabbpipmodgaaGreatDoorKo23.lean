import Derived.Test.YtblabbpipmodgaaGreatDoorKo20
set_option maxHeartbeats 4000000
set_option linter.all false
set_option maxRecDepth 20000
namespace Go.Proofs.YtblabbpipmodgaaGreatDoor
open Go.au
variable{F:Bool}{w:ByteArray}{e:Int}{s:List UInt8}{B:List ah}{g0:List zR}{a:Nat}{c7 d t:XU}{K l:ah}{C:ar}{d0:bM}{d7:cY}
def ar.Qr(P:K∈C.l):K∈(C.add l).2.l:=by
 rcases C.gJ l with⟨-,a⟩|⟨b,-⟩
 ·rw[a];exact P
 ·rw[b];exact(cP l C.l).mem_iff.2 (QJ _ P)
def ar.um:∀(a:List ah) {S:ar} {P:ah},P∈S.l->P∈(S.ey a).l
 |[],S,P,b=>b
 |e::a,S,P,b=>ar.um a (S:=(S.add e).2) (ar.Qr b)
section
variable {D E:ak} {A:nZ} {no:Int} {l x:List ah} {k d:Nat} {V:dm} {c:cJ} {X:bM} {ref:Bool}
def uo(a:D.dead=true)(P:ak->Int×ak):D.op P=(15,D.gone):=by
 unfold ak.op ak.dies;rw[a];rfl
def GA(P:D.dead=true):Go.Proofs.YtblabbpipmodgaaGreatDoor.bu V D=(15,V,D.gone):=by
 unfold bu;have:D.create (cz (aw V.next))=(15,D.gone):=uo P _;dsimp only;rw[this,Zx sM]
def zZ(P:D.dead=true):aK V D=(15,V,D.gone):=by
 unfold aK;split
 ·exact GA P
 ·have:D.sync V.last=(15,D.gone):=uo P _
  dsimp only;rw[this,Zx sM]
def GB(P:D.dead=true)(x:List ah):(aD V D x).2.2.files=D.files/\(aD V D x).2.2.dead=true/\(x≠[]->(aD V D x).1≠0):=by
 unfold aD;split
 ·exact⟨rfl,P,λ_=>sM⟩
 split
 ·rename_i b;exact⟨rfl,P,λc=>Zz b c⟩
 dsimp only
 by_cases a:V.size<=V.bytes
 ·rw[Zx a,zZ P,Zx sM]
  exact⟨rfl,rfl,λ_=>sM⟩
 ·rw[Zq a,Zq sM]
  have:D.append V.last (az x)=(15,D.gone):=uo P _;rw[this,Zx sM];exact⟨rfl,rfl,λ_=>sM⟩
def Eg(P:D.dead=true){size:Int}:(aQ V D x size).no≠0/\(aQ V D x size).D.files=D.files/\(aQ V D x size).D.dead=true:=by
 unfold aQ;split
 ·rename_i a;exact⟨a,rfl,P⟩
 have:bA V.next (bG x).1 D=(15,D.gone):=by
  unfold bA;have:D.create (cz (aw V.next))=(15,D.gone):=uo P _;dsimp only;rw[this,Zx sM]
 rw[this,Zx sM];exact⟨sM,rfl,rfl⟩
def Mf(c:aq D.files w=some ⟨s,a,F⟩)(P:(D.sync w).1≠0):(D.sync w).1=15/\(D.sync w).2=D.gone:=by
 unfold ak.sync at P⊢;rcases zu D (ak.zv w λD b=>(0,D.fv w (b.cut b.bytes.length)))with e|e
 ·rw[e];exact⟨rfl,rfl⟩
 ·rw[e]at P
  unfold ak.zv at P;rw[eh,c]at P;exact Zz rfl P
def cH.On(h:cH D A no l k)(c:ES V A no l)(j:∀P∈x,P.Ok/\P.aJ.length<=64){size:Int}:
  ((aQ V D x size).no≠0/\cH (aQ V D x size).D A no l k)\/
  (cH (aQ V D x size).D [] V.next x x.length/\((aQ V D x size).no=0/\ES (aQ V D x size).V [] V.next x/\(aQ V D x size).V.size=size\/(aQ V D x size).no≠0/\(aQ V D x size).D.dead=true)):=by
 have r:bG x=(az x,0):=by
  unfold bG;rw[Zq];intro s;obtain⟨P,t,m⟩:=List.any_eq_true.1 s;have:=(j P t).2;unfold eD at m;simp at m;omega
 unfold aQ;rw[r,Zq sM];rcases h.bA c j with⟨d,n⟩|⟨d,n,i⟩
 ·dsimp only
  rw[Zx d];exact .inl ⟨d,n⟩
 dsimp only;rw[Zq (by simpa using d)];generalize(Go.Proofs.YtblabbpipmodgaaGreatDoor.bA V.next (az x) D).2=o at i;have u:=h.ne_next c;obtain⟨v,p⟩:=yS V.a_ i.tidy;have a:cH (iQ V.a_ o) [] V.next x x.length:=by
  refine i.same v (λe f=>?_) (p _ λe f P=>?_)
  ·obtain rfl:e=V.next:=by simpa[cT]using f
   exact p _ λw q P=>u w (by rw[c.a_]at q;exact q) P.symm
  ·rw[c.a_]at f
   exact(eV (n:=e) (.inr (by have:=h.yd e f;omega))).1 P.symm
 generalize iQ V.a_ o=b at a
 cases g:b.dead with
 |false=>
  have y:V.next<gK b:=by
   obtain⟨F,z,-⟩:=a.last;have:=a.sd;exact GC oM (by rw[z];rfl)
  have:=qs b.list;rw[Im a g];exact .inr ⟨a,.inl ⟨rfl,⟨rfl,rfl,y,this.2⟩,rfl⟩⟩
 |true=>
  obtain⟨B,C⟩:=Lz (size:=size) g;refine .inr ⟨a.files C,.inr ⟨by rw[B];simp,?_⟩⟩;have E:told b=[]:=by
   have:b.read bO=([],15):=by unfold ak.read;rw[g];rfl
   unfold told du;rw[this];rfl
  unfold aR;rw[E];unfold cM fE;rw[Zq sM,Zx (show(dE b size).a_=[]from rfl),show aK _ _=_ from zZ g]
  rfl
def GD(a:cH D A no l k)(P:Int):bS (df (D.dV P))/\Tidy (df (D.dV P)).files/\(∀b∈cT A++[no],aq (df (D.dV P)).files (ax b)=aq (D.dV P).files (ax b))/\aq (df (D.dV P)).files bO=aq (D.dV P).files bO:=by
 have h:=Gi D P;have m:=IL a.tidy P;have n:∀x∈cT A++[no],aN x:=λx p=>by have:=a.yd x p;unfold aN;omega
 have q:(cT A++[no]).length<=64:=by have:=a.many;simpa[cT]using this
 have r:du (D.dV P)=some (cT A++[no]):=by
  unfold du;rw[h.read (sK a.tidy P a.Td),Zq sM,show(dI (bJ (cT A++[no]))).bytes=bJ (cT A++[no])from rfl,mS n q]
 have o:∀d∈Dx (D.dV P),(∀b∈cT A++[no],ax b≠d)/\bO≠d:=λd f=>by
  have c:=(List.mem_filter.1 f).2;unfold iP at c;rw[r]at c;refine⟨λb i e=>?_,λe=>?_⟩
  ·have n:=a.yd b i
   subst e;rw[vS oM,Xv (eV (n:=b) (.inr oM)).2]at c;simp only[Option.getD_some,Zy i]at c;simp at c
  ·subst e
   rw[Xv Ik,Nz]at c;simp at c
 have g:∀(j:List ByteArray) {D:ak},Tidy D.files->Tidy (Ij D j).files:=by
  intro j
  induction j with
  |nil=>intro D a;exact a
  |cons d j s=>
   intro D a;refine s (D:=(D.delete d).2) ?_;rcases iO D d with e|e
   ·rw[e];exact a
   ·rw[e];exact a.bI _
 refine⟨yL _ h,g _ m,λb i=>?_,?_⟩
 ·unfold df
  rw[yM _ h m,Zq λf=>(o _ f).1 b i rfl]
 ·unfold df
  rw[yM _ h m,Zq λf=>(o _ f).2 rfl]
def Jo{size keep:Int}(P:cH D A no l k):∃a,k<=a/\a<=l.length/\(aR (df (D.dV keep)) size).no=0/\(aR (df (D.dV keep)) size).out=cj A (l.take a)/\ES (aR (df (D.dV keep)) size).V A no (l.take a)/\(aR (df (D.dV keep)) size).V.size=size/\
  cH (aR (df (D.dV keep)) size).D A no (l.take a) a/\bS (aR (df (D.dV keep)) size).D:=by
 obtain⟨h,i,e,j⟩:=GD P keep;obtain⟨m,n,z,o⟩:=P.last;obtain⟨b,B,C,p⟩:=Cg keep (az l) o;have f:aq (D.dV keep).files (ax no)=some ⟨(az l).take b,((az l).take b).length,true⟩:=by
  rw[Cf P.tidy,n];show(if true then some (qU keep ⟨az l,m,true⟩)else none)=_;rw[p];rfl
 have q:((az l).take b).length=b:=by simp;omega
 rw[q]at f;obtain⟨a,r,s,E,t,u,v,w,F,H,c,d,y⟩:=Mg (size:=size) (n:=b) h i P (λx g=>by rw[e x.1 (ZV _ (Xk.2 ⟨x,g,rfl⟩))];exact sK P.tidy keep (P.full x g)) (by rw[j];exact sK P.tidy keep P.Td) (by rw[e no sM];exact f) oM oM;exact⟨a,r,s,t,u,v,w,d oM,c⟩
structure fN (c:cJ) (X:bM) (ref:Bool):Prop where
 log:∃V A no l k d,X.log=some V/\cH X.D A no l k/\(X.D.dead=true\/ES V A no l/\V.size=c.bh)/\TI c.bh A/\X.S=(⟨c.bT.toNat,[]⟩:ar).ey ((cj A l).take d)/\d<=GF A k/\(d<(cj A l).length->X.D.dead=true/\ref=true)
def qt(A:nZ)(l:List ah):(cj A l).length=GF A l.length:=by unfold cj GF;simp
def fN.same{Y:bM}(e:fN c X ref)(f:Y.S=X.S)(P:Y.D=X.D)(g:Y.log=X.log){r2:Bool}(h:ref=true->r2=true):fN c Y r2:=by
 obtain⟨V,A,no,l,k,d,i,j,m,n,o,p,a⟩:=e.log;exact⟨V,A,no,l,k,d,by rw[g];exact i,by rw[P];exact j,by rw[P];exact m,n,by rw[f];exact o,p,λb=>⟨by rw[P];exact(a b).1,h (a b).2⟩⟩
def fN.IP(P:fN c X ref)(a:Int):fN c {X with D:=X.D.IP a} ref:=by
 obtain⟨V,A,no,l,k,d,b,e,f,g,h,i,j⟩:=P.log;exact⟨V,A,no,l,k,d,b,e.files rfl,f,g,h,i,j⟩
def fN.take(L:fN c X ref)(y:X.S.Cl)(z:X.S.n=c.bT.toNat)(M:X.D.Ok)(N:∀O∈x,O.Ok)(Q:x.length<=20000000):
  ((dh c X x).1=0/\(dh c X x).2.S=X.S.ey x/\∀B,fN c (dh c X x).2 B)\/
  ((dh c X x).1≠0/\(dh c X x).2.S=X.S/\fN c (dh c X x).2 (ref||(dh c X x).1==15)):=by
 obtain⟨V,A,no,l,k,d,R,m,S,o,f,C,p⟩:=L.log;have P:dh c X x=(if(aD V X.D x).1≠0 then((aD V X.D x).1,{X with log:=some (aD V X.D x).2.1,D:=(aD V X.D x).2.2})else
   if((aD V X.D x).2.2.sync (aD V X.D x).2.1.last).1≠0 then(((aD V X.D x).2.2.sync (aD V X.D x).2.1.last).1,{X with log:=some (aD V X.D x).2.1,D:=((aD V X.D x).2.2.sync (aD V X.D x).2.1.last).2})else
   (0,{X with log:=some (aD V X.D x).2.1,D:=((aD V X.D x).2.2.sync (aD V X.D x).2.1.last).2,S:=eJ c X.S x})):=by
  unfold dh;rw[R]
 by_cases q:X.D.dead=true
 ·obtain⟨E,r,e3⟩:=GB (V:=V) q x
  generalize aD V X.D x=a at*
  by_cases b:a.1≠0
  ·rw[Zx b]at P
   rw[P];exact .inr ⟨b,rfl,a.2.1,A,no,l,k,d,rfl,m.files E,.inl r,o,f,C,λe=>⟨r,by rw[(p e).2];rfl⟩⟩
  ·rw[Zq b]at P
   have T:a.2.2.sync a.2.1.last=(15,a.2.2.gone):=uo r _;rw[T,Zx sM]at P;rw[P];exact .inr ⟨sM,rfl,a.2.1,A,no,l,k,d,rfl,m.files E,.inl rfl,o,f,C,λe=>⟨rfl,by rw[(p e).2];rfl⟩⟩
 obtain⟨U,F⟩:=S.resolve_left q;have W:(cj A l).length<=d:=Nat.le_of_not_lt λY=>q (p Y).1;rw[Qz W]at f;have H:(cj A l).length=GF A k:=by
  have:=qt A l;have:=m.kl;unfold GF at*;omega
 obtain⟨i,s,g,I,t,u,J,h,v,n,f7⟩:=GH (x:=x) m U N Q M (by rw[F];exact o);rw[F]at v n;generalize aD V X.D x=a at*
 by_cases b:a.1≠0
 ·rw[Zx b]at P
  rw[Zq b]at h;rw[P];exact .inr ⟨b,rfl,a.2.1,i,s,g,I,(cj i g).length,rfl,t,.inr ⟨u,v⟩,n,by rw[List.take_length,h];exact f,by rw[h,H];exact J,λe=>Zz e (Nat.lt_irrefl _)⟩
 rw[Zq b]at P;have b:a.1=0:=Classical.not_not.1 b;rw[Zx b]at h;rw[cH.Jp u]at P;obtain⟨a0,Z,s2,s3⟩:=t.last;rcases Ct t with⟨j,w⟩|⟨j,w⟩
 ·rw[Zq (by rw[j];simp)]at P
  rw[P];refine .inl ⟨rfl,uq y z x,λB=>⟨a.2.1,i,s,g,g.length,(cj i g).length,rfl,w,.inr ⟨u,v⟩,n,?_,by rw[qt];exact Q4 _,λe=>Zz e (Nat.lt_irrefl _)⟩⟩;rw[List.take_length,h,ar.yO,<-f];exact uq y z x
 ·obtain⟨z1,K⟩:=Mf Z j
  rw[Zx j]at P;rw[P];refine .inr ⟨j,rfl,a.2.1,i,s,g,I,(cj A l).length,rfl,w,.inl (by rw[K];rfl),n,?_,by rw[H];exact J,λ_=>⟨by rw[K];rfl,by rw[z1];simp⟩⟩;rw[h,List.take_left];exact f
def fN.dV(f:fN c X ref)(keep:Int):(iV c X keep).1=0/\(∀a∈X.S.l,a∈(iV c X keep).2.S.l)/\(ref=false->(iV c X keep).2.S=X.S)/\fN c (iV c X keep).2 false:=by
 obtain⟨V,A,no,l,k,d,B,g,C,h,b,i,j⟩:=f.log;obtain⟨P,E,m,n,o,p,q,r,F⟩:=Jo (size:=c.bh) (keep:=keep) g;have s:iV c X keep=(0,{X with D:=(aR (df (X.D.dV keep)) c.bh).D,waits:=[],fM:=⟨X.fM.cZ,[],[]⟩,log:=some (aR (df (X.D.dV keep)) c.bh).V,S:=(⟨c.bT.toNat,[]⟩:ar).ey (cj A (l.take P))}):=by
  unfold iV e_;dsimp only;rw[Zq (by rw[n];simp),o]
 have t:(cj A l).take d=(cj A (l.take P)).take d:=by
  have e:d<=((A.map (·.2)).flatten).length+P:=by unfold GF at i;omega
  unfold cj;rw[List.take_append,List.take_append,List.take_take,X2 oM]
 have u:(⟨c.bT.toNat,[]⟩:ar).ey (cj A (l.take P))=X.S.ey ((cj A (l.take P)).drop d):=by
  rw[b,t,<-ar.yO,ZX]
 rw[s];refine⟨rfl,λa v=>?_,λw=>?_,_,A,no,l.take P,P,(cj A (l.take P)).length,rfl,r,.inr ⟨p,q⟩,h,by rw[List.take_length],?_,λe=>Zz e (Nat.lt_irrefl _)⟩
 ·show a∈((⟨c.bT.toNat,[]⟩:ar).ey (cj A (l.take P))).l
  rw[u];exact ar.um _ v
 ·show(⟨c.bT.toNat,[]⟩:ar).ey (cj A (l.take P))=X.S
  have x:(cj A l).length<=d:=Nat.le_of_not_lt λy=>by have:=(j y).2;rw[w]at this;cases this
  have:=qt A l;have z:P=l.length:=by unfold GF at*;omega
  rw[z,List.take_length,b,Qz x]
 ·rw[qt];unfold GF;rw[Qy,X2 m];exact Q4 _
def fN.Qs(w:fN c X ref)(f:X.S.Cl)(x:X.S.n=c.bT.toNat):(ej c X).2.S=X.S/\fN c (ej c X).2 ref:=by
 obtain⟨V,A,no,l,k,d,g,n,y,o,p,q,r⟩:=w.log;have P:ej c X=(if(aQ V X.D X.S.l c.bh).no≠0 then((aQ V X.D X.S.l c.bh).no,{X with D:=(aQ V X.D X.S.l c.bh).D})else(0,{X with D:=(aQ V X.D X.S.l c.bh).D,log:=some (aQ V X.D X.S.l c.bh).V})):=by
  unfold ej;rw[g]
 refine⟨by rw[P];split<;>rfl,?_⟩
 by_cases i:X.D.dead=true
 ·obtain⟨z,B,s⟩:=Eg (V:=V) (x:=X.S.l) (size:=c.bh) i
  rw[Zx z]at P;rw[P];exact⟨V,A,no,l,k,d,g,n.files B,.inl s,o,p,q,λa=>⟨s,(r a).2⟩⟩
 obtain⟨t,C⟩:=y.resolve_left i;have J:(cj A l).length<=d:=Nat.le_of_not_lt λE=>i (r E).1;have F:∀b∈X.S.l,b.Ok/\b.aJ.length<=64:=λb u=>⟨f.ok.ok b u,by
  obtain⟨-,-,-,-,-,-,K,-⟩:=lX (f.ok.Ui b u);have:=f.ok.n;omega⟩
 have v:X.S=(⟨c.bT.toNat,[]⟩:ar).ey X.S.l:=by rw[<-x];exact f.Sa.symm
 rcases n.On t F (size:=c.bh)with⟨h,e⟩|⟨h,⟨e,j,H⟩|⟨e,j⟩⟩
 ·rw[Zx h]at P
  rw[P];exact⟨V,A,no,l,k,d,g,e,.inr ⟨t,C⟩,o,p,q,λa=>Zz a oM⟩
 ·rw[Zq (by rw[e];simp)]at P
  rw[P];exact⟨_,[],V.next,X.S.l,X.S.l.length,X.S.l.length,rfl,h,.inr ⟨j,H⟩,λI m=>by simp at m,by rw[show(cj [] X.S.l)=X.S.l from rfl,List.take_length];exact v,by unfold GF;simp,λa=>Zz a (by rw[show(cj [] X.S.l)=X.S.l from rfl];exact Nat.lt_irrefl _)⟩
 ·rw[Zx e]at P
  rw[P];exact⟨V,[],V.next,X.S.l,X.S.l.length,X.S.l.length,g,h,.inl j,λI m=>by simp at m,by rw[show(cj [] X.S.l)=X.S.l from rfl,List.take_length];exact v,by unfold GF;simp,λa=>Zz a (by rw[show(cj [] X.S.l)=X.S.l from rfl];exact Nat.lt_irrefl _)⟩
def Mh(P:(cf c e).1=0):fN c (cf c e).2 false/\(cf c e).2.waits=[]:=by
 have d:cf c e=z_ c:=by
  unfold cf at P⊢;split
  ·rename_i a;rw[Zx a]at P;exact Zz P a
  rename_i a;rw[Zq a]at P;split
  ·rename_i f;rw[Zx f]at P;simp at P
  ·rfl
 rw[d]at P⊢;unfold z_ e_ at P⊢;dsimp only at P⊢;rcases Oo c.sO.toNat c.bh with b|⟨b,g,h,i,j,m,n,o⟩
 ·rw[Zx oM]at P
  exact Zz P be
 ·rw[Zq (by rw[b];simp)]
  exact⟨⟨_,[],1,[],0,0,rfl,h,.inr ⟨i,j⟩,λp k=>by simp at k,by rw[g];rfl,Qj _,λl=>by simp[cj]at l⟩,rfl⟩
def Jq{b x:ah}(P:x∈(eG a B b).2):x=b\/x∈B:=by
 unfold eG at P;split at P
 ·exact .inr P
 ·exact Q2.1 ((cP b B).mem_iff.1 P)
def ur(P:Nat)(b:ah->Prop):∀(l:List ah) (h:ar) (a d:List ah),(∀e∈l,b e)->(∀e∈a,b e)->(∀e∈d,b e)->(∀e∈(fZ P l h a d).2.1,b e)/\∀e∈(fZ P l h a d).2.2,b e
 |[],h,a,d,_,f,g=>⟨f,g⟩
 |e::l,h,a,d,j,f,g=>by
  have k:=j e (QV ..);have i:∀x∈l,b x:=λx c=>j x (QJ _ c);unfold fZ;split
  ·exact ur P b l _ _ _ i (λx c=>(Q6.1 c).elim (f x) λc=>by rw[List.mem_singleton.1 c];exact k) g
  split
  ·exact ur P b l _ _ _ i f g
  ·exact ur P b l _ _ _ i f λx c=>(Jq c).elim (λm=>by rw[m];exact k) (g x)
def pM(a:ah->Prop):∀(l:List ah) (d:ar) (P:List ah),(∀e∈l,a e)->(∀e∈P,a e)->∀e∈(ep l d P).2,a e
 |[],d,P,_,c=>c
 |e::l,d,P,f,c=>by
  have g:∀x∈l,a x:=λx b=>f x (QJ _ b);unfold ep;split
  ·exact pM a l _ _ g λx b=>(Q6.1 b).elim (c x) λb=>by rw[List.mem_singleton.1 b];exact f e (QV ..)
  ·exact pM a l _ _ g c
def uu(d:ah->Prop):∀(l:List ah) (a:ar) {b:ah×ar×List ah},dB a l=some b->(∀e∈l,d e)->d b.1/\∀e∈b.2.2,d e
 |[],a,b,P,_=>by cases P
 |e::l,a,b,P,f=>by
  unfold dB at P;split at P
  ·cases P;exact⟨f e (QV ..),λx c=>f x (QJ _ c)⟩
  ·cases g:dB a l with
   |none=>rw[g]at P;cases P
   |some k=>
    rw[g]at P
    cases P
    obtain⟨h,i⟩:=uu d l a g λx c=>f x (QJ _ c);exact⟨h,λx c=>(Q2.1 c).elim (λj=>by rw[j];exact f e (QV ..)) (i x)⟩
def uv(b:ah->Prop):∀(k:Nat) (c:ar) (l P:List ah),(∀a∈l,b a)->(∀a∈P,b a)->(∀a∈(de k c l P).1,b a)/\∀a∈(de k c l P).2,b a
 |0,c,l,P,d,e=>⟨e,d⟩
 |k+1,c,l,P,d,e=>by
  unfold de
  cases g:dB c l with
  |none=>exact⟨e,d⟩
  |some j=>
   obtain⟨h,i⟩:=uu b l c g d;exact uv b k _ _ _ i λx f=>(Q6.1 f).elim (e x) λf=>by rw[List.mem_singleton.1 f];exact h
def GI(d:ah->Prop):∀(k:Nat) (a:ar) (b c:List ah),(∀P∈b,d P)->(∀P∈c,d P)->(∀P∈(nP k a b c).1,d P)/\∀P∈(nP k a b c).2,d P
 |0,a,b,c,e,g=>⟨e,g⟩
 |k+1,a,b,c,e,g=>by
  unfold nP;have f:=uv d ((c.filter λP=>(a.get (aX P)).isNone).length+1) a (c.filter λP=>(a.get (aX P)).isNone) [] (λx h=>g x (List.mem_filter.1 h).1) sM;have P:bE a c=de ((c.filter λP=>(a.get (aX P)).isNone).length+1) a (c.filter λP=>(a.get (aX P)).isNone) []:=rfl;rw[<-P]at f;dsimp only;split
  ·exact⟨e,f.2⟩
  ·exact GI d k _ _ _ (pM d _ _ _ f.1 e) f.2
def Mi{c:cJ}{X:bM}{l:List ah}(a:ah->Prop)(b:∀P∈l,a P)(d:∀P∈X.waits,a P):(∀P∈(im c X l).1,a P)/\∀P∈(im c X l).2,a P:=by
 obtain⟨e,f⟩:=ur c.buffer.toNat a l (eJ c X.S []) [] X.waits b sM d;exact GI a _ _ _ _ e f
def Aa(c:cJ)(X:bM)(x:List ah):(dh c X x).2.waits=X.waits:=by
 unfold dh
 cases X.log with
 |none=>rfl
 |some V=>
  dsimp only;split
  ·rfl
  split<;>rfl
def Ab(ref:Bool)(kind no:Int):Bool:=ref&&kind !=4||(kind==0||kind==2)&&(no==15||no==12)
structure nQ (c:cJ) (X:bM) (ref:Bool) (kind:Int) (r:Int×bM):Prop where
 Tb:∀e∈X.S.l,e∈r.2.S.l
 UL:fN c r.2 (Ab ref kind r.1)
 idle:kind≠0->kind≠2->kind≠4->r.2.S=X.S
 no:kind=0\/kind=2->r.1≠0->r.2.S=X.S
 cr:kind=4->ref=false->r.2.S=X.S
 wait:∀e∈r.2.waits,e.Ok
def mB{ref:Bool}{P no:Int}(a:P≠4)(b:ref=true):Ab ref P no=true:=by unfold Ab;rw[b];simp[a]
def nQ.still{no:Int}(a:fN c X ref)(b:e≠4)(P:d0.S=X.S)(f:d0.D=X.D)(g:d0.log=X.log)(h:∀d∈d0.waits,d.Ok):nQ c X ref e (no,d0):=
 ⟨λd i=>by rw[P];exact i,a.same P f g (mB b),λ_ _ _=>P,λ_ _=>P,λa=>Zz a b,h⟩
def Mj(P:eK d7 a e=0)(c:d7.kind=3)(d:e<=32):d7.events.length<=32:=by
 rcases Nat.lt_or_ge 32 d7.events.length with b|b
 ·exfalso
  unfold eK at P;rw[Zx c]at P;split at P
  ·cases P
  ·unfold eL at P
   split at P
   ·cases P
   ·rw[Zx (.inr oM)]at P;cases P
 ·exact b
def fN.call{self:Int}{a:zR}(b:fN c X ref)(e:∀h∈X.waits,h.Ok)(u:X.S.Cl)(v:X.S.n=c.bT.toNat)(z:X.D.Ok)(C:a.cmd.Ok)(E:∀h∈a.m.events,h.Ok)(F:aN self)(H:aN c.start)(I:X.S.l.length<=20000000)(R:X.waits.length<=256)(J:c.chunk<=32):
  nQ c X ref a.kind (zU c self X a):=by
 unfold zU;split
 ·rename_i i
  have g:a.kind≠4:=oM
  obtain⟨V,A,no,l,k,d,s,-⟩:=b.log;unfold dW;rw[s];dsimp only;split
  ·exact nQ.still b g rfl rfl rfl e
  split
  ·have K:=KA (d:=c.decl) (V:=cN c.decl X.S.l) C u.ok F H I
   have q:=b.take (x:=[(kZ c.decl X.S (cN c.decl X.S.l) self c.start a.cmd).1]) u v z (λh f=>by rw[List.mem_singleton.1 f];exact K) sM;have n:=Aa c X [(kZ c.decl X.S (cN c.decl X.S.l) self c.start a.cmd).1];generalize dh c X [(kZ c.decl X.S (cN c.decl X.S.l) self c.start a.cmd).1]=w at q n;rcases q with⟨o,m,p⟩|⟨o,m,p⟩
   ·rw[Zq (by rw[o];simp)]
    exact⟨λh f=>by dsimp only;rw[m];exact ar.um _ f,p _,λP=>Zz i P,λ_ P=>Zz rfl P,λP=>Zz P g,by dsimp only;rw[n];exact e⟩
   ·rw[Zx o]
    refine⟨λh f=>by dsimp only;rw[m];exact f,p.same rfl rfl rfl λj=>?_,λP=>Zz i P,λ_ _=>m,λP=>Zz P g,by dsimp only;rw[n];exact e⟩;rcases Bool.or_eq_true .. ▸j with j|j
    ·exact mB g j
    ·unfold Ab;dsimp only;rw[j,i];simp
  ·exact nQ.still b g rfl rfl rfl e
 split
 ·rename_i i
  unfold f_;split<;>exact nQ.still b oM rfl rfl rfl e
 split
 ·rename_i i
  have g:a.kind≠4:=oM
  obtain⟨V,A,no,l,k,d,s,-⟩:=b.log;unfold cd;rw[s];dsimp only;split
  ·exact nQ.still b g rfl rfl rfl e
  rename_i L;split
  ·exact nQ.still b g rfl rfl rfl e
  split
  ·rename_i M
   have S:=Mj (Classical.not_not.1 L) M J;unfold lF;obtain⟨B,x⟩:=Mi (c:=c) (X:=X) ah.Ok E e;have N:=Ac c X a.m.events;generalize im c X a.m.events=r at B x N;dsimp only;split
   ·exact nQ.still b g rfl rfl rfl x
   have q:=(b.same (Y:={X with waits:=r.2}) rfl rfl rfl id).take (x:=r.1) u v z B oM;have n:=Aa c {X with waits:=r.2} r.1;generalize dh c {X with waits:=r.2} r.1=w at q n;dsimp only at q n;rcases q with⟨o,m,p⟩|⟨o,m,p⟩
   ·rw[Zq (by rw[o];simp)]
    exact⟨λh f=>by dsimp only;rw[m];exact ar.um _ f,p _,λ_ P=>Zz i P,λ_ P=>Zz rfl P,λP=>Zz P g,by dsimp only;rw[n];exact x⟩
   ·rw[Zx o]
    refine⟨λh f=>by dsimp only;rw[m];exact f,p.same (Y:={w.2 with waits:=[]}) (r2:=Ab ref a.kind w.1) rfl rfl rfl λj=>?_,λ_ P=>Zz i P,λ_ _=>m,λP=>Zz P g,sM⟩;rcases Bool.or_eq_true .. ▸j with j|j
    ·exact mB g j
    ·unfold Ab;rw[j,i];simp
  split
  ·exact nQ.still b g rfl rfl s.symm e
  split<;>exact nQ.still b g rfl rfl s.symm e
 split
 ·exact nQ.still b oM rfl rfl rfl e
 split
 ·rename_i i
  obtain⟨t,y,O,Q⟩:=b.dV a.n;have h:Ab ref a.kind (iV c X a.n).1=false:=by unfold Ab;rw[i];simp
  refine⟨y,by rw[h];exact Q,λ_ _ P=>Zz i P,λP=>oM,λ_ P=>O P,?_⟩;unfold iV e_;dsimp only;split<;>simp
 split
 ·rename_i i
  exact⟨λh f=>f,(b.IP a.n).same rfl rfl rfl (mB oM),λ_ _ _=>rfl,λ_ _=>rfl,λ_ _=>rfl,e⟩
 split
 ·rename_i i
  obtain⟨t,y⟩:=b.Qs u v;refine⟨λh f=>by rw[t];exact f,y.same rfl rfl rfl (mB oM),λ_ _ _=>t,λ_ _=>t,λ_ _=>t,?_⟩;unfold ej
  cases X.log with
  |none=>exact e
  |some V=>
   dsimp only;split<;>exact e
 ·exact⟨λh f=>f,b.same rfl rfl rfl (mB oM),λ_ _ _=>rfl,λ_ _=>rfl,λ_ _=>rfl,e⟩
end
section
variable {w w' w0:World} {p q:Nat} {F G D E:XM} {c e:cJ} {self other:Int} {X Y:bM}
set_option maxHeartbeats 2000000 in
def sW{tn tc Q pc m lc:Nat}(I:eP w)(J:Laid w)(hd:bl w D c.decl d tn t Q)(hD:∀P,D P->P<w.heap.size)(R:Row Ql 152 w E c7 m g0)(hE:∀P,E P->P<w.heap.size)(hs:aN c.bh)(e2:aN c.every)(c3:aN c.start):
  ZH 4 #[nk c d tn tc t Q pc,QH self,.slice c7 m lc] w (Ok λa1 w'=>a1= .bool true/\ai w w'):=by
 have i4:=R.len;have e3:=R.ef;unfold aS at e3;refine oA (PA.mk λz k1 s1 g1=>ay (wG c d tn tc t Q pc) g1 (PC.ok (Jl (hd.af k1) (R.af k1)) ?_));rintro _ w3 ⟨⟨b3,rfl,e4⟩,k3⟩;have K:=k1.then k3;have e5:=k3.get g1 id;refine⟨_,rfl,al.mk (λ_=>OX I J K) (λe6=>?_)⟩;obtain⟨e7,e8⟩:=e4 e6;refine ay (wG c d tn tc t Q pc) e5 (SU I J K (hd.af K) hs e2 c3 (λo w5 S r=>⟨_,_,rfl,al.dQ (λ_=>OX I J (K.then S)) (λh=>Zz h r)⟩) ?_);intro p F w5 hz S T hF e9;have f2:=K.then S;obtain⟨c4,c5⟩:=Mh hz;refine⟨_,_,rfl,al.dQ (λh=>Zz rfl h) (λ_=>PC.ok (AG T oM) ?_)⟩;rintro _ w6 ⟨c6,n6,f0,F6,rfl,b6,k6,f3⟩;have a9:=b6.aE;have f5:=T.aE;have c8:=T.af k6;have b7:=f2.then k6;have a4:(cf c self).2.fM.asked=[]:=JU c self;generalize(cf c self).2=X0 at T e9 a4 c4 c5 b6 c8;have z1:w.heap.size<z.heap.size:=oM
 have z3:=k3.size;have z5:=S.size;have z6:=k6.size;obtain⟨s,hI⟩:∃s:Nat->XU->Nat->Nat->Bool->Int->XT,∀C ha n hc f o w',s C ha n hc f o w'↔(∃(a:Nat) (L a2:XM) (u:bM),o=a/\a<=m/\C=m-a/\bP w' p L c self u/\aj (λP=>z.heap.size<=P) w6 w'/\(∀P,L P->z.heap.size<=P)/\u.S.l.length<=16777216+300*a/\u.fM.asked.length<=a/\fN c u f/\(∀e∈u.waits,e.Ok)/\Row iC 96 w' a2 ha n u.S.l/\∀P,a2 P->P<w'.heap.size/\¬L P):=⟨_,λ_ _ _ _ _ _ _=>Iff.rfl⟩
 refine⟨_,_,_,rfl,s,⟨_,by rw[hI];exact⟨0,F,F6,X0,rfl,Qj _,rfl,c8,aj.refl _,λP b=>by have:=hF P b;omega,oM,by rw[a4];exact Qj _,c4,by rw[c5];simp,b6.row dC ba,λP b=>⟨a9 P b,λh=>by have:=f3 P b;have:=f5 P h;omega⟩⟩⟩,?_⟩;intro C ha n hc f o _ U c9;rw[hI]at c9;obtain⟨a,L,a2,u,rfl,hj,rfl,M,V,b8,i5,i6,d0,f6,a5,hH⟩:=c9;have kE:aj (λP=>z.heap.size<=P) w U:=(ai.keep b7).then V;have d1:ai w U:=b7.new V λP b=>.inr (by have b:z.heap.size<=P:=b;omega);have f7:Env w U L:=⟨I,J,d1,λP b=>by have:=b8 P b;omega⟩
 have z8:=V.size;have i7:=b7.size;refine al.dec (λi8=>?_) (λi9=>OX I J d1);have b0:=R.keep kE λP b h=>by have:=hE P b;omega
 obtain⟨P,a3,g,es,rfl,g2,g4,g5,d2,va,vn,vc,ea,en,ec,rfl,hv,he,b4⟩:=b0.BR (i:=a) oM;have d3:=e8 g (QZ g5);refine⟨P,a3,rfl,oM,oM,bW (es:=pI g va vn vc ea en ec) (k:=15) (TF _ _ _ _ _ _ _) rfl (λo ht=>by rw[Qx];exact d2 o ht) (PC.ok (Jm M f7 b4 hv he d3 oM oM) ?_)⟩;rintro _ w9 ⟨F9,rfl,N,W,X⟩;obtain⟨d4,g6⟩:=M.cl;have b9:=M.ok;obtain⟨j0,j1⟩:=b9.RR;obtain⟨j2,j3,j4⟩:=b9.bT;have g7:=M.waits;have x:=d0.call (a:=g) (self:=self) f6 d4 g6 M.VK b4.cmd (JN he) bb c3 oM g7 b9.zV.2;generalize zU c self u g=q at x N X;have z9:=W.keep.size;have g8:∀P,F9 P->z.heap.size<=P:=λP b=>(W.new P b).elim (b8 P) λh=>by omega
 have i1:q.2.S.l.length<=18000000:=by rcases X.evs with h|h<;>omega
 refine⟨_,rfl,PC.ok (AG N oM) ?_⟩;rintro _ c0 ⟨A,v,H,d5,rfl,a7,c1,d6⟩;have d7:=a7.len dC;have c2:=a7.aE;have d8:=N.aE;have a6:Row iC 96 c0 d5 A v q.2.S.l:=a7.row dC ba;have j5:=a5.len;have i2:=d4.ok.sub x.Tb;have d9:=N.cl;have b1:=(a5.keep W.keep λP b=>(hH P b).2).af c1;have e0:aj (λP=>z.heap.size<=P) U c0:=(W.keep.mono λP _ b=>b8 P b).af c1;refine⟨_,_,_,rfl,al.dec (λh=>oM) (λ_=>?_)⟩;refine⟨λC o w'=>∃i:Nat,o=i/\i<=n/\C=n-i/\ai c0 w',⟨_,0,rfl,Qj _,rfl,aj.refl _⟩,?_⟩;rintro C _ _ k ⟨i,rfl,hi,rfl,B⟩;refine al.dec (λi3=>?_) (λ_=>?_)
 ·obtain⟨b2,o2,e,j6,rfl,j7,-,g9,h5,q1,q2,q3,rfl,h6,-⟩:=(b1.af B).BR (i:=i) oM
  refine⟨b2,o2,rfl,oM,oM,bW (es:=aF e q1 q2 q3) (k:=10) (bf _ _ _ _) rfl (λo ht=>by rw[Qx];exact h5 o ht) (PC.ok (EU (a6.af B) h6 d9.1.ok.ids (x.Tb e (QZ g9))) ?_)⟩;rintro _ j8 ⟨rfl,h7⟩;exact⟨_,rfl,al.ff rfl ⟨_,oM,i+1,an oM,oM,rfl,B.then h7⟩⟩
 have b5:=e0.af B;have h8:k.cell? ⟨P,a3+a*15+0,none⟩=some (QH g.kind):=by
  rw[b5.cell (a:=⟨P,_,none⟩) g2 (by have:=hE P g4;show¬_<=P;omega)];exact d2 0 dC
 have l:∀rr,rr=Ab f g.kind q.1->∃j,j<m-a/\s j A v H rr (IntKind.wrap .i64 ((a:Int)+1)) k:=λrr h9=>
  ⟨m-(a+1),oM,by rw[hI];exact⟨a+1,F9,d5,q.2,an oM,oM,rfl,(N.af c1).af B,V.then b5,g8,by rcases X.evs with h|h<;>omega,by have:=X.asked;omega,h9▸x.UL,x.wait,a6.af B,λP b=>⟨by have:=c2 P b;have:=B.size;omega,λh=>by have:=d6 P b;have:=d8 P h;omega⟩⟩⟩
 have Y:(v:Int)>(n:Int)->(g.kind=0\/g.kind=2->q.1=0)/\(g.kind=4->f=true)/\(g.kind=0\/g.kind=2\/g.kind=4):=λh=>by
  have r:q.2.S≠u.S:=λZ=>by rw[Z]at d7;omega
  refine⟨λh3=>Classical.byContradiction λy=>r (x.no h3 y),λh3=>?_,?_⟩
  ·cases e1:f with
   |true=>rfl
   |false=>exact Zz (x.cr h3 e1) r
  ·apply Classical.byContradiction
   intro h3;exact r (x.idle oM oM oM)
 refine⟨P,a3,rfl,oM,oM,_,by rw[Qx];exact h8,λw'=>k=w',al.dec (λh=>?_) (λ_=>rfl),?_⟩
 ·obtain⟨-,-,g3⟩:=Y h
  exact al.dQ (λh0=>al.dQ (λZ=>al.dQ (λy=>oM) (λ_=>rfl)) (λ_=>rfl)) (λ_=>rfl)
 rintro _ _ rfl;have a0:al (decide (((v:Nat):Int)>((n:Nat):Int))) (al (g.kind==4) (al (!f) (Ok (λa1 w'=>a1= .bool true/\ai w w') (.returned (.bool false)) k) (k=k)) (k=k)) (k=k):=
  al.dec (λh=>al.dU (λy=>al.not (al.mk (λ_=>rfl) (λhf=>by rw[(Y h).2.1 y]at hf;cases hf))) (λ_=>rfl)) (λ_=>rfl)
 refine⟨λw'=>k=w',al.dec (λh=>al.dU (λh0=>al.dQ (λr=>Zz ((Y h).1 (.inl h0)) r) (λ_=>a0)) (λ_=>al.dU (λZ=>al.dQ (λr=>Zz ((Y h).1 (.inr Z)) r) (λ_=>a0)) (λ_=>a0))) (λ_=>a0),?_⟩;rintro _ _ rfl;have a8:f=false\/g.kind=4->al (g.kind==0) (al (q.1==15) (∃j,j<m-a/\s j A v H true (IntKind.wrap .i64 ((a:Int)+1)) k) (∃j,j<m-a/\s j A v H (q.1==12) (IntKind.wrap .i64 ((a:Int)+1)) k)) (al (g.kind==2) (al (q.1==15) (∃j,j<m-a/\s j A v H true (IntKind.wrap .i64 ((a:Int)+1)) k) (∃j,j<m-a/\s j A v H (q.1==12) (IntKind.wrap .i64 ((a:Int)+1)) k)) (∃j,j<m-a/\s j A v H false (IntKind.wrap .i64 ((a:Int)+1)) k)):=λO=>by
  have h0:(f&&g.kind !=4)=false:=by rcases O with h|h<;>simp[h]
  refine al.dU (λhk=>al.dU (λn=>l _ ?_) (λn=>l _ ?_)) (λhk=>al.dU (λi0=>al.dU (λn=>l _ ?_) (λn=>l _ ?_)) (λi0=>l _ ?_))<;>(unfold Ab;rw[h0];simp[*])
 exact al.mk (λO=>al.dQ (λy=>l _ (by unfold Ab;simp[O,y])) (λy=>a8 (.inr y))) (λO=>a8 (.inl O))

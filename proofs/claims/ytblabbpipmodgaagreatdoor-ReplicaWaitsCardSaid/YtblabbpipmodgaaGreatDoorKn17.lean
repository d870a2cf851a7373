import Derived.Test.YtblabbpipmodgaaGreatDoorKn16
set_option maxHeartbeats 4000000
set_option linter.all false
set_option maxRecDepth 20000
namespace Go.Proofs.YtblabbpipmodgaaGreatDoor
open Go.aw
abbrev HW:=List (Int×List aj)
def HX(P:HW):List Int:=P.map (·.1)
def PR(P:HW)(a:List aj):List aj:=(P.map (·.2)).flatten++a
structure i_ (D:al) (A:HW) (no:Int) (l:List aj) (k:Nat):Prop where
 tidy:Tidy D.files
 full:∀x∈A,az D.files (aF x.1)=some (iw (bk x.2))
 last:∃s,az D.files (aF no)=some ⟨bk l,s,true⟩/\(bk (l.take k)).length<=s/\s<=(bk l).length
 kl:k<=l.length
 TS:az D.files cQ=some (iw (cR (HX A++[no])))
 LH:∀n∈HX A++[no],1<=n/\n<1000000000000
 JR:(HX A++[no]).Pairwise (·<·)
 evs:∀e∈PR A l,e.Ok/\e.aK.length<=64
 many:A.length+1<=64
structure SG (V:dS) (A:HW) (no:Int) (l:List aj):Prop where
 bD:V.bD=HX A++[no]
 bytes:V.bytes=((bk l).length:Nat)
 next:no<V.next/\V.next<=1000000000000
def tN{n:Int}(d:cJ (aF n)=true\/0<=n/\n<1000000000000):aF n≠cQ/\aF n≠aR:=by
 have b:cQ.data.toList.take 4≠df:=by decide+kernel
 have c:aR.data.toList.take 4≠df:=by decide+kernel
 have P:(aF n).data.toList.take 4=df\/(aF n).data.toList=[]:=by
  unfold aF;rw[oY];unfold aM;split
  ·exact .inr rfl
  ·exact .inl (by simp[df])
 refine⟨λa=>?_,λa=>?_⟩
 ·rw[a]at P
  rcases P with P|P
  ·exact b P
  ·revert P;decide+kernel
 ·rw[a]at P
  rcases P with P|P
  ·exact c P
  ·revert P;decide+kernel
def Bz{a P:Int}(b:0<=a/\a<1000000000000)(c:aF P=aF a):P=a:=Ff b.1 b.2 (Jq c)
variable{e:Int}
def yR(a:0<=e):cJ (aF e)=true↔e<1000000000000:=by
 constructor
 ·intro P
  by_cases b:e<1000000000000
  ·exact b
  ·have:aF e=dV []:=by unfold aF aM;rw[Zx (.inr oM)]
   have c:cJ (dV [])=false:=by decide+kernel
   rw[this,c]at P;cases P
 ·intro P;exact Fg a P
section
variable {D E:al} {A:HW} {no:Int} {l x:List aj} {k j:Nat} {V:dS}
def i_.same(P:i_ D A no l k)(d:Tidy E.files)(a:∀b∈HX A++[no],az E.files (aF b)=az D.files (aF b))(e:az E.files cQ=az D.files cQ):i_ E A no l k:=
 ⟨d,λx c=>(a x.1 (ZV _ (Xk.2 ⟨x,c,rfl⟩))).trans (P.full x c),by
  obtain⟨f,g,h⟩:=P.last;exact⟨f,(a no (ZW _ (List.mem_singleton.2 rfl))).trans g,h⟩,P.kl,e.trans P.TS,P.LH,P.JR,P.evs,P.many⟩
def i_.files(a:i_ D A no l k)(P:E.files=D.files):i_ E A no l k:=a.same (by rw[P];exact a.tidy) (λ_ _=>by rw[P]) (by rw[P])
def i_.MU(P:i_ D A no l k):1<=no/\no<1000000000000:=P.LH no (ZW _ (List.mem_singleton.2 rfl))
def i_.Se(a:i_ D A no l k):∀P∈A,aF P.1≠aF no:=λP c d=>by
 have e:=a.MU;have:=Bz ⟨oM,e.2⟩ d;have b:=a.JR;rw[List.pairwise_append]at b;have:=b.2.2 P.1 (Xk.2 ⟨P,c,rfl⟩) no (List.mem_singleton.2 rfl);omega
def i_.put(P:i_ D A no l k){l':List aj}{s c:Nat}(a:E.files=aG D.files (aF no) ⟨bk l',s,true⟩)(f:c<=l'.length)(g:(bk (l'.take c)).length<=s)(h:s<=(bk l').length)(i:∀b∈l',b.Ok/\b.aK.length<=64):i_ E A no l' c:=
 ⟨by rw[a];exact P.tidy.aG _ _,λd e=>by rw[a,b_,Zq (by simpa using P.Se d e)];exact P.full d e,⟨s,by rw[a,b_];simp,g,h⟩,f,by
  have:=(tN (n:=no) (.inr (by have:=P.MU;omega))).1;rw[a,b_,Zq (by simpa using this.symm)];exact P.TS,P.LH,P.JR,λb a=>by
  rcases Q6.1 a with F|F
  ·exact P.evs b (ZV _ F)
  ·exact i b F,P.many⟩
def i_.Ue(a:i_ D A no l k):∀P∈l,P.Ok/\P.aK.length<=64:=λP b=>a.evs P (ZW _ b)
def i_.MV(P:SG V A no l):V.last=aF no:=by unfold dS.last;rw[P.bD];simp[aF]
def KI(P:i_ D A no l k):((D.sync (aF no)).1=0/\i_ (D.sync (aF no)).2 A no l l.length)\/((D.sync (aF no)).1≠0/\i_ (D.sync (aF no)).2 A no l k):=by
 rcases oy D (aF no)with⟨a,b⟩|⟨a,e,c,b⟩
 ·exact .inr ⟨a,P.files b⟩
 ·obtain⟨f,d,g,h⟩:=P.last
  rw[d]at c;cases c
  exact .inl ⟨a,P.put b (Q4 _) (by rw[List.take_length];exact Q4 _) (Q4 _) P.Ue⟩
def HY(n:Tidy D.files)(o:0<=V.next):((bZ V D).1≠0/\(bZ V D).2.1=V/\Tidy (bZ V D).2.2.files/\∀x,x≠aF V.next->x≠aR->az (bZ V D).2.2.files x=az D.files x)\/
  ((bZ V D).1=0/\V.next<1000000000000/\V.bD.length+1<=64/\az D.files (aF V.next)=none/\(bZ V D).2.1=⟨V.size,V.bD++[V.next],0,V.next+1⟩/\Tidy (bZ V D).2.2.files/\az (bZ V D).2.2.files (aF V.next)=some (iw [])/\
   az (bZ V D).2.2.files cQ=some (iw (cR (V.bD++[V.next])))/\∀x,x≠aF V.next->x≠aR->x≠cQ->az (bZ V D).2.2.files x=az D.files x):=by
 unfold bZ;dsimp only;rw[show dV (aM V.next)=aF V.next from rfl];rcases mr D (aF V.next)with⟨f,g⟩|⟨f,g,w,p⟩
 ·rw[Zx f]
  exact .inl ⟨f,rfl,by show Tidy (D.create _).2.files;rw[g];exact n,λx _ _=>by show az (D.create (aF V.next)).2.files x=_;rw[g]⟩
 have q:=(yR o).1 g;obtain⟨y,nt⟩:=tN (n:=V.next) (.inr ⟨o,q⟩);rw[Zq (show¬(D.create (aF V.next)).1≠0 by simpa using f)];have h:uP (aF V.next) D (D.create (aF V.next)).2:=(uP.refl n).put p;have r:az (D.create (aF V.next)).2.files (aF V.next)=some ⟨[],0,false⟩:=by rw[p,b_];simp
 generalize(D.create (aF V.next)).2=a at h r;unfold kV;dsimp only;rw[show dV (aM V.next)=aF V.next from rfl];have b:∀{F:al},Tidy F.files->(∀x,x≠aF V.next->x≠aR->az F.files x=az D.files x)->Tidy (F.delete (aF V.next)).2.files/\∀x,x≠aF V.next->x≠aR->az (F.delete (aF V.next)).2.files x=az D.files x:=by
  intro F m s;rcases yl F (aF V.next)with e|e
  ·rw[e];exact⟨m,s⟩
  ·rw[e];exact⟨m.bO _,λx P c=>by rw[jh m,Zq (by simpa using P)];exact s x P c⟩
 rcases oy a (aF V.next)with⟨i,d⟩|⟨i,E,t,d⟩
 ·rw[Zx i]
  have:=b (F:=(a.sync (aF V.next)).2) (by rw[d];exact h.1) λx P _=>by rw[d];exact h.2 x P
  exact .inl ⟨i,rfl,this⟩
 rw[r]at t;cases t
 have j:uP (aF V.next) D (a.sync (aF V.next)).2:=h.put d;have u:az (a.sync (aF V.next)).2.files (aF V.next)=some (iw []):=by rw[d,b_];simp
 rw[Zq (show¬(a.sync (aF V.next)).1≠0 by simpa using i)];generalize(a.sync (aF V.next)).2=z at j u;rcases Mc j.1 (V.bD++[V.next])with⟨k,l⟩|⟨k,l,A,B,v⟩
 ·rw[Zx k]
  have:=b (F:=(bH z (V.bD++[V.next])).2) l.1 λx P c=>(l.2 x c).trans (j.2 x P);exact .inl ⟨k,rfl,this⟩
 ·rw[Zq (by simpa using k)]
  refine .inr ⟨rfl,q,by simpa using l,w,?_,A,(v _ nt y).trans u,B,λx P c C=>(v x c C).trans (j.2 x P)⟩;rw[wrap_i64 bb]
end
end Go.Proofs.YtblabbpipmodgaaGreatDoor
namespace Go.Proofs
open Go.RowKit Go.Maps Go.Sort Go.Shelf
end Go.Proofs
namespace Go.Proofs.YtblabbpipmodgaaGreatDoor
section
open Go.aw
open Go.RowKit Go.Maps Go.Sort Go.Shelf
end
section
open Go.aw
structure AM where
 lR:Int
 asked:List (Int×Int)
 heard:List (Int×List Int)
 deriving DecidableEq
def TX(P:Value)(a:Int):Prop:=P= XH a
def Lf(e:World)(f:XN)(g:Value)(b:List Int):Prop:=
 ∃P a c,g= .slice P a c/\Own e 3 1 P a c (ints b)/\a*8<=aN/\(∀h∈b,aP h)/\∀d,aE P=some d->f d
def Lf.af{S c F':XN}{b f:World}{g:Value}{h:List Int}(d:Lf b c g h)(m:ak S b f)(n:∀P,c P->P<b.heap.size->(∃i,b.heap[P]? =some i/\∀j k,i≠.map j k)->¬S P)(o:∀P,c P->F' P):Lf f F' g h:=by
 obtain⟨p,q,r,rfl,e,a,s,l⟩:=d;refine⟨p,q,r,rfl,e.af m (fg.2 λP a=>?_),a,s,λP a=>o P (l P a)⟩;refine n P (l P a) (e.lt a) ?_;rcases e.cases with⟨rfl,_⟩|⟨v,t,rfl,u,_⟩
 ·cases a
 ·simp only[aE,Q1]at a
  subst a;exact⟨_,u,λj k d=>by cases d⟩
structure fB (w:World) (p:Nat) (F:XN) (T:AM):Prop where
 body:∃ra rh la lh,w.heap[p]? =some (.cells #[XH T.lR,.map (some ra),.map (some rh)] 150 (0,0))/\bX w ra (Value.int .i64) la/\bX w rh (Value.int .i64) lh/\
  eT TX la T.asked/\eT (Lf w F) lh T.heard/\F ra/\F rh/\ra≠rh
 self:F p
 aC:∀b,F b->b<w.heap.size
 JF:Tidy T.asked
 Bc:∀q∈T.asked,aP q.1
variable{d7:AM}{U n:Array Value}{L:Bool}{R e o:Int}{h4:List (Int×List Int)}{h3:List (Int×Value)}{a9 t:List Int}{a2 e6:List PanicEntry->XU}{b9:List aZ}{K:List aj}{c0:List di}{J a c i q:Nat}{f:XN}{H:Nat×Nat}{d r:ZH}{h:Program}{I:Prop}{j:Type}{g:TypeId}{u:Value}{b k:World}{B:aH}{c8:aV}{M l:aj}{g3 g4:aj×Bool×Int}{A:ar}{b3:dS}{c9:ir}
def fB.af{S f:XN}(P:fB b a f d7)(d:ak S b k)(e:∀c,f c->¬S c):fB k a f d7:=by
 obtain⟨j,l,m,n,o,p,q,r,s,h,i,t⟩:=P.body;exact⟨⟨j,l,m,n,d.get o (e _ P.self),p.af d (e _ h),q.af d (e _ i),r,s.mono λv w u=>u.af d (λc g _ _=>e c g) (λ_ P=>P),h,i,t⟩,
  P.self,λc g=>Qk (P.aC c g) d.size,P.JF,P.Bc⟩
def fB.ah(P:fB b a f d7)(c:ai b k):fB k a f d7:=P.af c λ_ _ P=>P
def kI:gY XP 3 (Value.int .i64):=RB Tryz.underlying3
def mA:np XP 147 3 3 (XH 0):=⟨kR,kR⟩
def mH:np XP 148 3 27 (.slice none 0 0):=⟨kR,kR⟩
def FJ:ZG 37 #[XH e] b
  (Ok λi d=>∃f g,i= XL f/\fB d f g ⟨e,[],[]⟩/\ai b d/\∀P,g P->b.heap.size<=P):=by
 refine Ac (PA.mk λj k q l=>PA.mk λm h r n=>PA.mk λo a s p=>Ok.mk ⟨m.heap.size,λP=>b.heap.size<=P/\P<o.heap.size,rfl,
  ⟨⟨b.heap.size,j.heap.size,[],[],p,bX.new (a.get (h.get l id) id),bX.new (a.get n id),trivial,trivial,oM,oM,oM⟩,oM,λP c=>c.2,by simp[Tidy],sM⟩,
  (k.ah h).ah a,λP c=>c.1⟩)
def FR(P:fB b a f d7)(t:aP e):
  ZG 111 #[XL a,XH e,XH o] b
   (Ok λp j=>p= .tuple #[]/\fB j a f {d7 with asked:=aG d7.asked e o}/\ak f b j):=by
 obtain⟨c,u,K,v,k,q,w,x,y,r,z,s⟩:=P.body;have A:∃d g,b.heap[c]? =some (.map d g):=by obtain⟨d,g,P,_⟩:=q.at';exact⟨d,g,P⟩
 obtain⟨d,g,l⟩:=A;have B:a≠c:=by rintro rfl;rw[k]at l;cases l
 refine ny ⟨a,0,rfl,some c,ae k rfl,iI mA kI q λj C h E=>Ok.mk ⟨rfl,⟨⟨c,u,_,v,h.get k B,C,w.af h (Ne.symm s),eT.aG (R:=TX) rfl x,?_,r,z,s⟩,P.self,?_,P.JF.aG _ _,?_⟩,h.mono ?_⟩⟩
 ·refine y.mono λp L F=>F.af h (λm _ _ i=>?_) (λ_ P=>P)
  rintro rfl;obtain⟨M,i,H⟩:=i;rw[l]at i;cases i;exact H _ _ rfl
 ·intro m I;rw[E];exact P.aC m I
 ·intro J n
  rcases fy n with rfl|n
  ·exact t
  ·exact P.Bc J n
 ·rintro m _ rfl;exact r
def AM.all(a:AM)(P:Int)(b:List Int):List Int:=gQ ((az a.heard P).getD []) b
def Dy(a P:List Int):Bool:=pk a P==0||pk a P==2
def AM.ends(b:AM)(P:Int)(c a:List Int):Bool:=(az b.asked P).isSome&&Dy (b.all P c) a
def AM.wT(a:AM)(P:Int)(c b:List Int):AM:=
 {a with heard:=aG a.heard P (a.all P c),asked:=if a.ends P c b then bO a.asked P else a.asked}
def zi(b:∀c∈t,aP c)(P:Int):aP (eI t P):=by
 unfold eI;split
 ·unfold aP;omega
 ·by_cases a:P.toNat<t.length
  ·have:=b t[P.toNat] (XY a)
   simp only[List.getD,Qq a,Option.getD_some];unfold aP at*;omega
  ·have:t[P.toNat]? =none:=by simp;omega
   simp only[List.getD,this,Option.getD_none];unfold aP;omega
def BH(b:∀P∈t,aP P)(c:∀P∈a9,aP P):∀P∈gQ t a9,aP P:=by
 intro P d;obtain⟨a,_,rfl⟩:=Xk.1 d;have e:=zi b a;have f:=zi c a;unfold aP at*;omega
def Dz(P a:List Int):(gQ P a).length=max P.length a.length:=qB _ _ _
def fB.Ph(j:eT (Lf b f) h3 h4)(P:Int):
  ∃a c d,(az h3 P).getD (.slice none 0 0)= .slice a c d/\Ints b a c ((az h4 P).getD [])/\c*8<=aN/\∀h,aE a=some h->f h:=by
 rcases j.az P with⟨e,g⟩|⟨n,o,e,g,a,c,d,rfl,k,i,l,m⟩
 ·rw[e,g];exact⟨none,0,0,rfl,Ints.nil b,by simp[aN],by simp[aE]⟩
 ·rw[e,g];exact⟨a,c,d,rfl,k.ints i l,i,m⟩
def FG(P:fB b a f d7)(L:Ints b d c t)(hy:Ints b r i a9)(W:a9≠[]->xr f r):
  ZG 47 #[XL a,XH e,.slice d c q,.slice r i J] b
   (Ok λs p=>∃F',s= .bool (d7.ends e t a9)/\fB p a F' (d7.wT e t a9)/\du f b F' p):=by
 obtain⟨o,v,E,lh,F,y,X,M,h5,Y,N,O⟩:=P.body;obtain⟨l,m,Q⟩:∃l m,b.heap[v]? =some (.map l m):=by obtain⟨l,m,P,_⟩:=X.at';exact⟨l,m,P⟩
 obtain⟨c8,c9,a6⟩:∃l m,b.heap[o]? =some (.map l m):=by obtain⟨l,m,P,_⟩:=y.at';exact⟨l,m,P⟩
 have b6:a≠v:=by rintro rfl;rw[F]at Q;cases Q
 have b7:a≠o:=by rintro rfl;rw[F]at a6;cases a6
 obtain⟨ha,hn,hc,hg,R,hB,hF⟩:=fB.Ph h5 e;refine nz ⟨a,0,rfl,some v,ae F rfl,wX mH kI X ⟨ha,hn,hc,hg,PC.ok (xH R L) ?_⟩⟩;rintro _ w1 ⟨w,z,S,rfl,Z,u,a7⟩;have b8:z=(d7.all e t).length:=by have:=Z.length;rw[nY,Nat.mul_one]at this;exact this.symm
 have a8:z*8<=aN:=by
  rw[b8];unfold AM.all;rw[Dz];have:=R.len;have:=R.dE;have:=L.len;have:=L.dE;unfold aN at*;omega
 have b0:∀b9∈d7.all e t,aP b9:=BH R.LH L.LH;refine⟨w,z,S,rfl,a,0,rfl,some v,ae (u.get F id) rfl,iI mH kI (X.af u id) λj b1 A c0=>?_⟩;have H:aE w≠some v:=λk=>by have:=a7 _ k;have:=ay Q;omega
 have b2:Own j 3 1 w z S (ints (d7.all e t)):=Z.af A (fg.2 λr W=>by rintro rfl;exact H W);have c1:Ints j r i a9:=(hy.ah u).DV A λc2 a0 hq=>by rintro rfl;exact W c2 a0 hq N
 refine PC.ok (JG (b2.ints a8 b0) c1) ?_;rintro _ _ ⟨rfl,rfl⟩;have T:j.heap[a]? =some (.cells #[XH d7.lR,.map (some o),.map (some v)] 150 (0,0)):=A.get (u.get F id) b6;have U:bX j o (Value.int .i64) E:=(y.af u id).af A O;refine⟨_,rfl,?_⟩
 let F':XN:=λg=>f g\/(b.heap.size<=g/\g<w1.heap.size)
 have a1:du f b F' j:=⟨(u.af (S:=f)).trans A (λ_ _ P=>P) (by rintro g _ rfl;exact N),λg n=>n.imp id (·.1)⟩
 have b3:eT (Lf j F') (aG lh e (.slice w z S)) (aG d7.heard e (d7.all e t)):=by
  refine eT.aG ⟨w,z,S,rfl,b2,a8,b0,λg n=>.inr ⟨a7 g n,Z.lt n⟩⟩ (h5.mono λs ys I=>?_);refine(I.af u (F':=f) (λ_ _ _ _ P=>P) (λ_ P=>P)).af A (λg _ _ h=>?_) (λ_ P=>.inl P);rintro rfl;obtain⟨c3,h,H⟩:=h;rw[u.get Q id]at h;cases h;exact H _ _ rfl
 have b4:∀g,F' g->g<j.heap.size:=λg n=>by
  rw[c0];rcases n with n|n
  ·exact Qk (P.aC g n) u.size
  ·exact n.2
 have c4:fB j a F' {d7 with heard:=aG d7.heard e (d7.all e t)}:=
  ⟨⟨o,v,E,_,T,U,b1,M,b3,.inl Y,.inl N,O⟩,.inl P.self,b4,P.JF,P.Bc⟩
 have a2:(az E e).isSome=(az d7.asked e).isSome:=by
  rcases M.az e with⟨B,V⟩|⟨s,b5,B,V,_⟩<;>rw[B,V]<;>rfl
 have c5:∃g:Int,(az E e).getD (XH 0)= XH g:=by
  rcases M.az e with⟨B,V⟩|⟨s,b5,B,V,I⟩
  ·rw[B];exact⟨0,rfl⟩
  ·rw[B];exact⟨b5,I⟩
 obtain⟨k0,c6⟩:=c5;have no:d7.ends e t a9=false->Ok (λs p=>∃F',s= .bool (d7.ends e t a9)/\fB p a F' (d7.wT e t a9)/\du f b F' p) (.returned (.bool false)) j:=λk=>
  Ok.mk ⟨F',by rw[k],by unfold AM.wT;rw[k];exact c4,a1⟩
 have a3:∀x,d7.ends e t a9=true->bX x o (Value.int .i64) (bO E e)->ak (·=o) j x->x.heap.size=j.heap.size->
   Ok (λs p=>∃F',s= .bool (d7.ends e t a9)/\fB p a F' (d7.wT e t a9)/\du f b F' p) (.returned (.bool true)) x:=λx k hm C a5=>by
  obtain⟨d0,d1,c7⟩:∃l m,j.heap[o]? =some (.map l m):=by obtain⟨l,m,P,_⟩:=U.at';exact⟨l,m,P⟩
  refine Ok.mk ⟨F',by rw[k],?_,a1.af.trans C (λ_ _ P=>P) (by rintro g _ rfl;exact Y),a1.new⟩;unfold AM.wT;rw[k];refine⟨⟨o,v,_,_,C.get T b7,hm,b1.af C (Ne.symm O),M.bO,?_,.inl Y,.inl N,O⟩,.inl P.self,λg n=>by rw[a5];exact b4 g n,P.JF.bO e,λa0 hq=>P.Bc a0 (fz hq)⟩;refine b3.mono λs ys I=>I.af C (λg _ _ h=>?_) (λ_ P=>P);rintro rfl;obtain⟨c3,h,H⟩:=h;rw[c7]at h;cases h;exact H _ _ rfl
 refine⟨λp=>j=p/\d7.ends e t a9=true,⟨a,0,rfl,some o,ae T rfl,lr mA kI U ?_⟩,?_⟩
 rotate_left
 ·rintro _ _ ⟨rfl,k⟩
  exact⟨a,0,rfl,some o,ae T rfl,Hr mA kI U λx hm C a5=>a3 x k hm C a5⟩
 rw[c6];refine⟨k0,_,rfl,an.mk (λh=>?_) (λh=>an.mk (λh0=>an.mk (λy=>?_) (λy=>?_)) (λh0=>?_))⟩
 ·refine no ?_
  have:(az d7.asked e).isSome=false:=by rw[<-a2];simpa using h
  simp[AM.ends,this]
 ·refine no ?_
  have w:(pk (d7.all e t) a9==0)=false:=by simpa[bne]using h0
  have K:(pk (d7.all e t) a9==2)=false:=by simpa[bne]using y
  simp[AM.ends,Dy,w,K]
 ·have k:d7.ends e t a9=true:=by
   have a4:(az d7.asked e).isSome=true:=by rw[<-a2];simpa using h
   have K:(pk (d7.all e t) a9==2)=true:=by simpa[bne]using y
   simp[AM.ends,Dy,a4,K]
  exact⟨rfl,k⟩
 ·have k:d7.ends e t a9=true:=by
   have a4:(az d7.asked e).isSome=true:=by rw[<-a2];simpa using h
   have K:(pk (d7.all e t) a9==0)=true:=by simpa[bne]using h0
   simp[AM.ends,Dy,a4,K]
  exact⟨rfl,k⟩
structure cI where
 bM:Int
 u_:Int
 dq:Int
 chunk:Int
 buffer:Int
 lR:Int
 every:Int
 start:Int
 decl:aH
structure bP where
 S:ar
 D:al
 log:Option dS
 waits:List aj
 kZ:AM
def gH(P:cI)(a:Int):Bool:=
 within P.bM 1 64&&within a 0 (P.bM-1)&&within P.u_ 64 262144&&decide (P.dq>=1)&&decide (P.every>=1)&&within P.chunk 1 32&&within P.buffer 1 256&&within P.lR 1 1048576&&decide (P.start>=0)
section
variable (c:cI) (self:Int)
def jK(a:bP):Int×bP:=
 let P:=br a.D c.dq
 if P.no≠0 then(P.no,{a with D:=P.D,log:=none,S:=⟨c.bM.toNat,[]⟩})
 else(0,{a with D:=P.D,log:=some P.V,S:=(⟨c.bM.toNat,[]⟩:ar).eV P.out})
def ze:Int×bP:=jK c ⟨⟨c.bM.toNat,[]⟩,et c.u_.toNat,none,[],⟨c.lR,[],[]⟩⟩
def dL(P:ar)(a:List aj):ar:=(⟨c.bM.toNat,[]⟩:ar).eV (P.l++a)
def cK(a:bP)(d:List aj):Int×bP:=match a.log with
 |none=>(15,a)
 |some e=>
  let P:=bd e a.D d
  if P.1≠0 then(P.1,{a with log:=some P.2.1,D:=P.2.2})else
  let b:=P.2.2.sync P.2.1.last
  if b.1≠0 then(b.1,{a with log:=some P.2.1,D:=b.2})else
  (0,{a with log:=some P.2.1,D:=b.2,S:=dL c a.S d})
def bR(P:bP)(d:ir):Int×(Int×Int)×bP:=match P.log with
 |none=>(15,(0,0),P)
 |some _=>
  let a:=lF c.decl P.S (ck c.decl P.S.l) self c.start d
  if a.2.2≠0 then(a.2.2,(0,0),P)else
  if a.2.1 then(let b:=cK c P [a.1];if b.1≠0 then(b.1,(0,0),b.2)else(0,aI a.1,b.2))
  else(0,aI a.1,P)
def gG(a:bP)(P b:Int):List di×bP:=
 if P<0\/P>=c.bM\/P=self then([],a)else([pL a.S self P],{a with kZ:={a.kZ with asked:=aG a.kZ.asked P b}})
def eH(P:Nat):List aj->ar->List aj->List aj->ar×List aj×List aj
 |[],b,a,c=>(b,a,c)
 |e::d,b,a,c=>
  if(b.add e).1=0 then eH P d (b.add e).2 (a++[e]) c
  else if(b.add e).1=16 then eH P d b a c
  else eH P d b a (dy P c e).2
def dB:List aj->ar->List aj->ar×List aj
 |[],a,P=>(a,P)
 |e::b,a,P=>if(a.add e).1=0 then dB b (a.add e).2 (P++[e])else dB b (a.add e).2 P
def pq:Nat->ar->List aj->List aj->List aj×List aj
 |0,b,P,c=>(P,c)
 |k+1,b,P,c=>
  let a:=bl b c
  if a.1=[]then(P,a.2)else
  let d:=dB a.1 b P
  pq k d.1 d.2 a.2
def gI(a:bP)(b:List aj):List aj×List aj:=
 let P:=eH c.buffer.toNat b (dL c a.S []) [] a.waits
 pq (P.2.2.length+1) P.1 P.2.1 P.2.2
def jG(P:bP)(b:di):List di×Int×bP:=
 let d:=gI c P b.events
 let P:={P with waits:=d.2}
 if d.1=[]then([wS P.S self b.bF],0,P)else
 let a:=cK c P d.1
 if a.1≠0 then([],a.1,{a.2 with waits:=[]})else([wS a.2.S self b.bF],0,a.2)
def bE(P:bP)(a:di):List di×Int×bP:=match P.log with
 |none=>([],15,P)
 |some _=>
  let no:=dZ a c.bM.toNat c.chunk
  if no≠0 then([],no,P)else
  if a.nP≠self then([],1,P)else
  if a.kind=3 then jG c self P a else
  let P:={P with kZ:=P.kZ.wT a.bF a.vec P.S.vec}
  if a.kind≠4 then(ko P.S self a c.chunk,0,P)else
  let b:=P.S.missing a.vec c.chunk
  if b=[]then([],0,P)else([⟨3,self,a.bF,[],b⟩],0,P)
end
structure DG where
 m:di
 va:ZH
 vn:Nat
 vc:Nat
 ea:ZH
 en:Nat
 ec:Nat
def OT:jf DG:=flat 5 (λP=>cM P.m P.va P.vn P.vc P.ea P.en P.ec) (λ_=>True) (λ_=>rfl) (λb c a=>by
 simp only[cM,Q2,List.not_mem_nil,or_false]at a;rcases a with rfl|rfl|rfl|rfl|rfl<;>rfl)
def DG.In(a:World)(D:XN)(P:DG):Prop:=Row aJ 8 a D P.va P.vn P.m.vec/\Row gO 96 a D P.ea P.en P.m.events
def NA:il XP 56 60 OT.k 72:=⟨kR,kR,dC⟩
def bf(c:World)(g:List di)(h:Value)(b:World):Prop:=
 ∃(a:ZH) (e f:Nat) (d:List DG) (D:XN),h= .slice a e f/\aO OT 60 (λP=>aE a=some P) b a e f d/\d.map (·.m)=g/\(∀P∈d,P.In b D)/\(∀P,D P->c.heap.size<=P/\P<b.heap.size/\aE a≠some P)/\(∀P,aE a=some P->c.heap.size<=P)/\ai c b
section
variable {w w':World} {p:Nat} {F D:XN} {S:ar} {a:ZH} {n c:Nat}
def DG.In.af{P:DG}(a:P.In w D)(b:ak f w w')(c:∀P,D P->¬f P):P.In w' D:=⟨a.1.af b c,a.2.af b c⟩
def DG.In.mono{P:DG}(a:P.In w D)(b:∀P,D P->f P):P.In w f:=⟨a.1.mono b,a.2.mono b⟩
def dO{P:jf j}{bytes:Nat}(w:World)(D:XN):Row P bytes w D none 0 []:=⟨rfl,sM,λb c a=>by simp at a⟩
def bf.nil(w:World):bf w [] (.slice none 0 0) w:=⟨none,0,0,[],λ_=>False,rfl,(aO.nil w).mono (λa P=>P.elim) (λa P=>(by cases P)),rfl,sM,λa P=>P.elim,λa P=>(by cases P),ak.refl _⟩
def bf.ah(f:bf b c0 u w)(e:ai w w'):bf b c0 u w':=by
 obtain⟨a,n,c,h,D,i,j,k,l,g,m,o⟩:=f;exact⟨a,n,c,h,D,i,j.ah e,k,λP d=>(l P d).af e λ_ _ f=>f,λP d=>⟨(g P d).1,by have:=e.size;have:=(g P d).2.1;omega,(g P d).2.2⟩,m,o.then e⟩
def bf.push{q K:TypeId}(s:bf b c0 (.slice a n c) w)(L:il h q 60 OT.k 72){m:di}{i j k l v:Nat}{E:XN}(M:(⟨m,d,i,j,r,k,l⟩:DG).In w E)(x:∀P,E P->b.heap.size<=P/\P<w.heap.size/\aE a≠some P)(N:w.heap[v]? =some (.cells (cM m d i j r k l).toArray 60 H))(V:c0.length<=1000){y O:XR}(t:∀f g w',bf b (c0++[m]) (.slice f (n+1) g) w'->ak (λP=>aE a=some P) w w'->y (.slice f (n+1) g) w'):
  aD h (Builtin.append_ #[q,q] K #[.slice a n c,.slice (XM v) 1 1]) w y O:=by
 obtain⟨W,X,Y,u,D,Q,R,z,S,A,B,C⟩:=s
 cases Q
 have Z:u.length=c0.length:=by rw[<-z,Q8]
 refine dU (c:=OT) (x:=⟨m,d,i,j,r,k,l⟩) (D:=λ_=>False) R L N ⟨rfl,trivial⟩ (λP e=>e.elim) ba (by unfold maxLen;omega) λf g w' F' o p T=>?_;have F:∀P,aE f=some P->aE a=some P\/w.heap.size<=P:=λP e=>(T P (o.self P e)).imp id λs=>s.resolve_left id;have a0:=p.size;have z7:=C.size;refine t f g w' ⟨f,n+1,g,u++[⟨m,d,i,j,r,k,l⟩],λP=>D P\/E P,rfl,(show aO OT 60 (λP=>aE f=some P) w' f (n+1) g (u++[⟨m,d,i,j,r,k,l⟩])from o.alone),by rw[Q3,z];rfl,λP e=>?_,λP e=>?_,λP e=>?_,C.new p λP e=>.inr (B P e)⟩ p
 ·rcases Q6.1 e with e|e
  ·exact((S P e).af p λP e=>(A P e).2.2).mono λP e=>.inl e
  ·simp at e;subst e
   exact(M.af p λP e=>(x P e).2.2).mono λP e=>.inr e
 ·have I:b.heap.size<=P/\P<w.heap.size/\aE a≠some P:=e.elim (A P) (x P)
  exact⟨I.1,oM,λU=>(F P U).elim I.2.2 oM⟩
 ·rcases F P e with J|J
  ·exact B P J
  ·omega
def JI(z:bf b c0 (.slice a n c) w)(O:c0.length<=1000):
  ZG 103 #[XH e,XH o,.slice a n c] w (Ok λA w'=>bf b (c0.map λm=>{m with bF:=e,nP:=o}) A w'):=by
 obtain⟨Q,R,S,d,D,B,s,x,C,p,y,E⟩:=z
 cases B
 have T:d.length=c0.length:=by rw[<-x,Q8]
 have U:=s.len dC;obtain⟨g,j⟩:∃g:DG->DG,g=λf=>{f with m:={f.m with bF:=e,nP:=o}}:=⟨_,rfl⟩
 refine Hi ⟨λm h w'=>∃P:Nat,h=P/\P<=n/\m=n-P/\aO OT 60 (λf=>aE a=some f) w' a n c ((d.take P).map g++d.drop P)/\ak (λf=>aE a=some f) w w',⟨_,0,rfl,Qj _,rfl,by simpa using s,ak.refl _⟩,?_⟩;rintro m _ _ V ⟨P,rfl,W,rfl,t,q⟩;refine an.dec (λX=>?_) (λY=>?_)
 ·have r:d[P]? =some d[P]:=Qq oM
  have k:∃l,a=XM l:=by
   obtain⟨cs,D,F,-⟩:=s.body;rcases F.cases with⟨_,Z,_,_⟩|⟨l,H,rfl,_⟩
   ·omega
   ·exact⟨l,rfl⟩
  obtain⟨l,k⟩:=k;have u:((d.take P).map g++d.drop P)[P]? =some d[P]:=by
   rw[X8 bc];simp[Qy,X2 (show P<=d.length by omega)]
  generalize d[P]=h at r u;have I:P<((d.take P).map g++d.drop P).length:=(Qv.1 u).1;refine⟨l,0,k,oM,oM,?_⟩;rw[Qx];refine aO.set (x':={h with m:={h.m with bF:=e}}) (j:=1) t u dC rfl k λa3 J K a4=>⟨l,0,k,oM,oM,?_⟩
  refine aO.set (x:={h with m:={h.m with bF:=e}}) (x':=g h) (j:=2) J (by rw[List.getElem?_set_self I]) dC (by rw[j];rfl) k λa5 v L a6=>⟨_,?_,P+1,aq oM,oM,rfl,?_,(q.then K).then L⟩
  ·omega
  ·rw[List.set_set]at v
   have M:((d.take P).map g++d.drop P).set P (g h)=(d.take (P+1)).map g++d.drop (P+1):=by
    have N:((d.take P).map g).length=P:=by simp;omega
    rw[Qw,r,Q3,XQ,List.set_append,Zq oM,N,Nat.sub_self,X4 (show P<d.length by omega)];rfl
   rw[M]at v;exact v
 ·obtain rfl:P=n:=oM
  rw[Qz oM,List.drop_eq_nil_of_le oM,List.append_nil]at t;refine Ok.mk ⟨a,P,c,d.map g,D,rfl,t,?_,λf i=>?_,λf i=>⟨(p f i).1,by have:=q.size;have:=(p f i).2.1;omega,(p f i).2.2⟩,y,E.new q λf i=>.inr (y f i)⟩
  ·rw[<-x,List.map_map,List.map_map,j];rfl
  ·obtain⟨h,r,rfl⟩:=Xk.1 i
   have:=(C h r).af q λf i=>(p f i).2.2;rw[j];exact this
end
section
variable {w w':World} {p:Nat} {F D E:XN} {S:ar} {m:di} {va ea:ZH} {vn vc en ec:Nat}
def bf.DV(e:bf b c0 u w)(c:ai w' b):bf w' c0 u w:=by
 obtain⟨f,g,h,i,D,j,k,l,m,d,n,o⟩:=e;have:=c.size;exact⟨f,g,h,i,D,j,k,l,m,λP a=>⟨by have:=(d P a).1;omega,(d P a).2⟩,λP a=>by have:=n P a;omega,c.then o⟩
def bf.len(P:bf b c0 (.slice d a c) w):a=c0.length:=by
 obtain⟨h,i,j,k,D,e,f,g,-⟩:=P
 cases e
 rw[f.len dC,<-g,Q8]
def bf.sl(P:bf b c0 u w):∃a c d,u= .slice a c d:=by
 obtain⟨f,g,h,i,D,e,-⟩:=P;exact⟨_,_,_,e⟩
def FH(h:cu w p F S)(hl:S.l.length<=20000000)(Z:Row aJ 8 w D va vn m.vec):
  ZG 49 #[XL p,XH e,mC m va vn vc ea en ec,XH o] w (Ok (bf w (ko S e m o))):=by
 have hS:=h.1;have hN:=hS.n;refine Ag (PA.mk λb n f7 x=>⟨λw'=>b=w'/\(m.kind=1\/m.kind=2),⟨_,ae x rfl,an.dR (λq=>⟨_,ae x rfl,an.dR (λd=>Ok.mk ?_) (λd=>⟨rfl,.inr d⟩)⟩) (λq=>⟨rfl,.inl q⟩)⟩,?_⟩)
 ·unfold ko;rw[Zx ⟨q,d⟩];exact(bf.nil b).DV n
 rintro _ _ ⟨rfl,hk⟩;have b9:¬(m.kind≠1/\m.kind≠2):=oM
 obtain⟨s,K⟩:∃s,s=S.missing m.vec (max 1 (min o 32)):=⟨_,rfl⟩
 have b4:(if(if 32<o then 32 else o)>1 then(if 32<o then 32 else o)else 1)=max 1 (min o 32):=by split<;>split<;>omega
 obtain⟨f,E⟩:∃f:List di,f=if 0<s.length then [⟨3,0,0,[],s⟩]else []:=⟨_,rfl⟩
 have g0:f.length<=1:=by rw[E];split<;>simp
 refine⟨λi j k w'=>bf b f (.slice i j k) w'/\ai b w',⟨_,_,_,ae x rfl,?_⟩,?_⟩
 ·refine PC.ok (by rw[b4];exact vO (h.ah n) hl (Z.ah n)) ?_
  rw[<-K];rintro _ g1 ⟨b7,n2,y,G,rfl,L,H,hG⟩;have g2:=L.len dC;have e0:=L.aC;refine⟨_,_,_,rfl,an.dec (λf5=>PA.mk λg3 M g4 e1=>?_) (λhz=>⟨?_,H⟩)⟩
  rotate_left
  ·rw[E,Zq oM]
   exact(bf.nil b).ah H
  have g5:s.length<=20000000:=by
   rw[K];unfold ar.missing;rw[Qy];have:=List.length_filter_le (λg:aj=>decide (max 0 (eI m.vec g.origin)<g.seq)) S.l;omega
  refine bf.push (m:=⟨3,0,0,[],s⟩) (E:=G) ((bf.nil b).ah (H.then M)) NA ⟨dO _ _,(L.ah M).row dC ba⟩ (λP a=>⟨by have:=hG P a;omega,by have:=e0 P a;omega,λg=>by cases g⟩) e1 sM λa' c' g6 c0 e2=>⟨_,_,_,rfl,?_,?_⟩
  ·rw[E,Zx oM];exact c0
  ·exact(H.then M).new e2 λP a=>(by cases a)
 rintro I on oc _ e3 ⟨N,O⟩;have a0:=n.then O;have e4:=O.size;refine PC.ok (jV (h.ah a0)) ?_;rintro _ u ⟨a3,n3,c3,G3,rfl,c4,c6,c7⟩;have g7:=a0.size;have c8:=c4.aC;have c9:Row aJ 8 u G3 a3 n3 S.vec:=c4.row dC (by rw[S.bJ];unfold aN;omega);obtain⟨c,v⟩:∃c:List di,c=if m.kind=1/\(pk m.vec S.vec=2\/pk m.vec S.vec=3)then [⟨2,0,0,S.vec,[]⟩]else []:=⟨_,rfl⟩
 have g8:c.length<=1:=by rw[v];split<;>simp
 have z:=O.then c6;have Q:∀P,aE I=some P->P<e3.heap.size:=λP a=>by
  obtain⟨a1,n1,t,a2,D,l,d,-⟩:=N
  cases l
  exact d.aC P a
 refine⟨_,_,_,rfl,λi j k w'=>bf b (f++c) (.slice i j k) w'/\w'.heap[w.heap.size]? =some (.cells (cM m va vn vc ea en ec).toArray 60 (0,0))/\ai b w',⟨_,_,_,ae (z.get x id) rfl,PC.ok (JG ((Z.ah (n.then z)).qZ) c9.qZ) ?_⟩,?_⟩
 ·rintro _ _ ⟨rfl,rfl⟩
  have R:=z.get x id;have a4:=N.ah c6;have r:∀P,aE I=some P->b.heap.size<=P:=λP a=>by
   obtain⟨a1,n1,t,a2,D,l,d,A,h4,h5,T,h7⟩:=N
   cases l
   exact T P a
  have no:c=[]->bf b (f++c) (.slice I on oc) u/\u.heap[w.heap.size]? =some (.cells (cM m va vn vc ea en ec).toArray 60 (0,0))/\ai b u:=λa=>⟨by rw[a,List.append_nil];exact a4,R,z⟩
  have B:∀{ε:XR} {U:ZH->Nat->Nat->XU},c=[⟨2,0,0,S.vec,[]⟩]->(∀i j k w',bf b (f++c) (.slice i j k) w'/\w'.heap[w.heap.size]? =some (.cells (cM m va vn vc ea en ec).toArray 60 (0,0))/\ai b w'->U i j k w')->
    PA u (.cells #[XH 2,XH 0,XH 0,.slice a3 n3 c3,.slice none 0 0] 60) λd0=>aD XP (Builtin.append_ #[56,56] 56 #[.slice I on oc,.slice (XM u.heap.size) 1 1]) d0 (λe5 d1=>∃(a5:ZH) (a6:Nat) (a7:Nat),e5= .slice a5 a6 a7/\U a5 a6 a7 d1) ε:=λ{ε U} a V=>by
   refine PA.mk λd0 J g9 e6=>bf.push (m:=⟨2,0,0,S.vec,[]⟩) (E:=G3) (a4.ah J) NA ⟨c9.ah J,dO _ _⟩ (λP a=>⟨by have:=c7 P a;omega,by have:=c8 P a;omega,λg=>by have:=Q P g;have:=c7 P a;omega⟩) e6 oM λa' c' d1 d2 d3=>⟨_,_,_,rfl,V _ _ _ _ ⟨by rw[a];exact d2,d3.get (J.get R id) λg=>?_,?_⟩⟩
   ·have:=r _ g;omega
   ·exact(z.then J).new d3 λP a=>.inr (r P a)
  refine⟨_,rfl,_,ae R rfl,an.eB (λq=>an.eB (λd=>B (by rw[v,Zx ⟨q,.inl d⟩]) λi j k w' h=>h) (λd=>an.eB (λA=>B (by rw[v,Zx ⟨q,.inr A⟩]) λi j k w' h=>h) (λA=>no (by rw[v,Zq];rintro⟨-,h|h⟩;exact d h;exact A h)))) (λq=>no (by rw[v,Zq λh=>q h.1]))⟩
 rintro e7 h8 h9 _ e8 ⟨C,W,a8⟩;have d4:=n.then a8;have e9:=a8.size;have a9:=C.len;have f6:(f++c).length<=2:=by rw[QX];omega
 have b0:∀{X:List di},(if(f++c).isEmpty then [wS S e m.bF]else(f++c).map λb5=>{b5 with bF:=e,nP:=m.bF})=X->ko S e m o=X:=λ{X} hq=>by
  rw[<-hq];unfold ko;rw[Zq b9,<-K];rw[E,v];have p1:(decide (pk m.vec S.vec=2\/pk m.vec S.vec=3))=decide (pk m.vec S.vec=2\/pk m.vec S.vec=3):=rfl
  by_cases t:0<s.length<;>by_cases y:m.kind=1/\(pk m.vec S.vec=2\/pk m.vec S.vec=3)
  ·simp[t,y]
  ·simp[t,y]
  ·simp[t,y]
  ·simp[t,y]
 refine an.eB (λh0=>⟨_,ae W rfl,PC.ok (Fw (h.ah d4)) ?_⟩) (λh0=>⟨_,ae W rfl,PC.ok (JI C oM) ?_⟩)
 ·have l:f++c=[]:=QW oM
  rintro _ i0 ⟨b8,n5,c5,G5,rfl,d5,d6,d7⟩;have d8:=d5.aC;rw[l]at C;refine⟨_,_,_,_,_,_,_,_,_,rfl,PA.mk λi1 Y i2 f2=>?_⟩;have b1:∀P,aE e7=some P->b.heap.size<=P/\P<e8.heap.size:=λP a=>by
   obtain⟨a1,n1,t,a2,D,l,d,A,h4,h5,T,h7⟩:=C
   cases l
   exact⟨T P a,d.aC P a⟩
  refine bf.push (m:=wS S e m.bF) (E:=G5) (C.ah (d7.then Y)) NA ⟨(d5.ah Y).row dC (by show S.vec.length*8<=aN;rw[S.bJ];unfold aN;omega),dO _ _⟩ (λP a=>⟨by have:=d6 P a;have:=d4.size;omega,by have:=d8 P a;omega,λg=>by have:=(b1 P g).2;have:=d6 P a;omega⟩) f2 sM λa' c' i3 d9 f4=>⟨_,_,_,rfl,_,ae (f4.get ((d7.then Y).get W id) λg=>by have:=(b1 _ g).1;omega) rfl,?_⟩
  refine PC.ok (JI d9 sM) ?_;rintro b6 i4 b2;obtain⟨i,j,k,rfl⟩:=b2.sl;refine⟨_,_,_,rfl,Ok.mk ?_⟩;rw[b0 (Zx (by rw[l];rfl))];exact b2.DV n
 ·rintro b6 i5 b3
  obtain⟨i,j,k,rfl⟩:=b3.sl;refine⟨_,_,_,rfl,Ok.mk ?_⟩;rw[b0 (Zq (by
   intro l;have:f++c=[]:=by simpa using l
   rw[this]at a9;simp at a9;omega))]
  exact b3.DV n
end
section
variable {w w':World} {D Fs Fv:XN} {s v:Nat} {S:ar} {V:aV} {d:aH} {c:ir} {origin start:Int}
def tP(w:World)(P:aj×Bool×Int)(d:Value)(w':World):Prop:=∃b c e G,d= .tuple #[iP P.1 b c e,.bool P.2.1,XH P.2.2]/\Row aJ 8 w' G b c P.1.aK/\(∀a,G a->w.heap.size<=a/\a<w'.heap.size)/\ai w w'
def lG(d:aH)(s:ar)(v:aV)(origin start:Int)(c:ir):lF d s v origin start c=if eD d c≠0 then(pW,false,eD d c)else
  match s.keyed c.key with
  |some P=>(P,false,0)
  |none=>if¬(c.expect= -1\/c.expect=((v.state c.aT c.agg).getD ⟨0,[]⟩).version)then(pW,false,11)else
   if uh (d.at c.aT) (match v.state c.aT c.agg with|some a=>a.cells|none=>cW (d.at c.aT)) c.field c.op c.arg≠0 then(pW,false,10)else
   ((aQ c origin s.vec (max s.top start)).2,decide ((aQ c origin s.vec (max s.top start)).1=0),(aQ c origin s.vec (max s.top start)).1):=rfl
def AL{ta pa:ZH}{tn tc pn pc:Nat}(hT:eh w)(hd:aW w D d ta tn pa pn)(hD:∀P,D P->P<w.heap.size)(j0:cy d=0)(hs:cu w s Fs S)(j1:S.l.length<=20000000)(hv:cg w v Fv V)(j2:V.decl=d)(o4:start<=9223372036854775807)(o1:S.top<=9223372036854775807):
  ZG 42 #[.agg #[.slice ta tn tc,.slice pa pn pc],XL s,XL v,XH origin,XH start,qY c] w (Ok (tP w (lF d S V origin start c))):=by
 refine wi (PA.mk λw1 k1 s1 g1=>PA.mk λw2 k2 s2 g2=>PA.mk λw3 k3 s3 g3=>?_);have q:=(k1.then k2).then k3;have gd:=k3.get (k2.get g1 id) id;have gc:=k3.get g2 id;have y:∀{z:World} {no:Int},ai w3 z->lF d S V origin start c=(pW,false,no)->vm XP 55 (XL w2.heap.size) (iP pW none 0 0) z λt=>mW XP 55 (XL w2.heap.size) t λr=>Ok (tP w (lF d S V origin start c)) (.returned (.tuple #[r,.bool false,XH no])) t:=λ{z no} h4 R=>
  aA (aU pW none 0 0) (h4.get g3 id) rfl λt k5 s5 g5=>au (aU pW none 0 0) g5 (Ok.mk ⟨none,0,0,λ_=>False,by rw[R],by rw[R];exact Row.nil _ _,λP a=>a.elim,(q.then h4).new k5 λP a=>.inr oM⟩)
 refine⟨_,_,_,_,_,_,ae gd rfl,ae gd rfl,au (AZ c) gc (PC.ok (zY (hT.ah q) (hd.ah q) λP a=>by have:=hD P a;omega) ?_)⟩;rintro _ z ⟨rfl,T⟩;refine⟨_,rfl,an.dR (λU=>y T (by rw[lG,Zx U])) (λe5=>⟨_,ae (T.get gc id) rfl,PC.ok (Lg (hs.ah (q.then T)) j1) ?_⟩)⟩;rintro _ t ⟨W,X,Y,G5,rfl,e6,e7,k5⟩;have b6:=T.then k5;have o5:=b6.size;have A:∀{r:aj×Bool×Int},(match S.keyed c.key with
  |some l=>(l,false,0)
  |none=>if¬(c.expect= -1\/c.expect=((V.state c.aT c.agg).getD ⟨0,[]⟩).version)then(pW,false,11)else
   if uh (d.at c.aT) (match V.state c.aT c.agg with|some B=>B.cells|none=>cW (d.at c.aT)) c.field c.op c.arg≠0 then(pW,false,10)else
   ((aQ c origin S.vec (max S.top start)).2,decide ((aQ c origin S.vec (max S.top start)).1=0),(aQ c origin S.vec (max S.top start)).1))=r->lF d S V origin start c=r:=λ{r} hr=>by
  rw[lG,Zq (by simpa using e5)];exact hr
 refine bN (pT _ W X Y) ⟨_,rfl,PA.mk λw6 k6 s6 g6=>aA (aU _ W X Y) g6 rfl λm k7 s7 g7=>an.mk (λhk=>?_) (λhk=>?_)⟩
 ·obtain⟨l,R⟩:=Option.isSome_iff_exists.1 hk
  rw[R]at e6 g7 A;have b2:ai t m:=k6.new k7 λP a=>.inr oM;refine au (aU _ W X Y) g7 (aA (aU _ W X Y) (b2.get (b6.get g3 id) id) rfl λw8 k8 s8 g8=>au (aU _ W X Y) g8 (Ok.mk ⟨W,X,Y,G5,?_,?_,λP a=>?_,?_⟩))
  ·rw[A rfl];rfl
  ·rw[A rfl]
   exact(e6.ah b2).af k8 λP a l=>by have:=e7 P a;have:=q.size;have:=T.size;omega
  ·have:=e7 P a;have:=q.size;have:=T.size;omega
  ·exact((q.then b6).then b2).new k8 λP a=>.inr oM
 have d2:S.keyed c.key=none:=by simpa using hk
 rw[d2]at A;have b2:ai t m:=k6.new k7 λP a=>.inr oM;have L:=b6.then b2;have o6:=L.size;have b7:=q.then L;have e8:iB d c.aT c.field c.op c.arg=0:=by
  have:=e5;unfold eD at this;split at this
  ·simp at this
  ·exact this
 have j3:V.decl.at c.aT=d.at c.aT:=by rw[j2]
 obtain⟨hV,b0,hq⟩:=hv;have a6:(match V.state c.aT c.agg with|some B=>B.cells|none=>cW (d.at c.aT)).length=(d.at c.aT).length:=by
  unfold aV.state
  cases hs:az V.dW (c.aT,c.agg)with
  |none=>simp[cW]
  |some s=>rw[<-j3];exact hV.st _ (cx hs)
 obtain⟨c4,t0,t1,o7⟩:=CM j0 e8 a6;obtain⟨C,e9⟩:∃C:Nat,c.aT=C:=⟨c.aT.toNat,oM⟩
 have j4:d.at c.aT=d.types.getD C []:=by
  unfold aH.at;rw[Zx (bh.2 ⟨t0,oM⟩),e9,Qx]
 obtain⟨tb,nP,es,j5,o8,o2,j6,fa,fn,fc,rfl,b3⟩:=(hd.ah b7).aT.el C d.types[C] sM;have b3:Row nq 48 m D fa fn (d.at c.aT):=by
  rw[j4];have:d.types.getD C []=d.types[C]:=by simp[QQ,show C<d.types.length by omega]
  rw[this];exact b3
 have o9:=(hd.ah b7).aT.len;have c7:=j6 0 dC;have f2:jk.k=1:=rfl;rw[f2,Nat.mul_one]at c7;have j7:=L.get gd id;have f4:=L.get gc id;refine⟨_,_,_,ae j7 rfl,_,ae f4 rfl,tb,nP,j5,t0,oM,fa,fn,fc,by rw[e9,Qx];exact c7,PA.mk λw8 k8 s8 g8=>PS.mk g8 sM λw9 k9 s9 g9=>?_⟩;have Z:ai m w9:=k8.new k9 λP a=>.inr oM;have d3:=Z.get f4 id;have d4:cg w v Fv V:=⟨hV,b0,hq⟩
 refine⟨_,ae d3 rfl,_,ae d3 rfl,PC.ok (lU (d4.ah (b7.then Z))) ?_⟩;rintro _ d5 ⟨ca,cn,cc,j8,rfl,f5,o3,M⟩;have b4:=Z.then M;have f6:=b7.then b4;have p0:=b4.size;obtain⟨E,hX⟩:∃E,E=(match V.state c.aT c.agg with|some B=>B.cells|none=>cW (d.at c.aT)):=⟨_,rfl⟩
 rw[<-hX]at c4 a6 A;refine⟨_,_,_,_,_,rfl,PA.mk λp1 j9 p2 k0=>PS.mk k0 sM λp3 l0 p4 l3=>PS.mk l3 sM λf7 l4 p5 g0=>?_⟩;have a5:ai d5 f7:=(j9.new l0 λP a=>.inr oM).new l4 λP a=>.inr oM;have l5:f7.heap[m.heap.size]? =some (.cells #[.slice fa fn fc] 130 (0,0)):=a5.get (M.get g9 id) id;have c8:=f5.ah a5;refine⟨λw'=>ai d5 w'/\∃ca cn cc G,w'.heap[d5.heap.size]? =some (.cells #[XH ((V.state c.aT c.agg).getD DF).version,.slice ca cn cc] 42 (0,0))/\Row eN 32 w' G ca cn E,?_,?_⟩
 ·refine an.not (an.mk (λl6=>⟨a5,ca,cn,cc,j8,g0,?_⟩) (λl7=>⟨_,_,_,ae l5 rfl,PC.ok (Eh (t:=d.at c.aT) rfl b3.len (by rw[b3.len];omega)) ?_⟩))
  ·obtain⟨B,hx⟩:=Option.isSome_iff_exists.1 l6
   rw[hx]at c8 hX;have b8:E=B.cells:=hX;rw[b8];exact c8.row dC (by show B.cells.length*32<=aN;rw[<-b8,a6];unfold aN;omega)
  ·rintro _ p6 ⟨b1,n6,c6,G6,rfl,l8,d6,l9⟩
   have p7:=d6.size;refine⟨_,_,_,rfl,PS.mk (d6.get g0 id) sM λp8 g4 p9 m0=>⟨(a5.then d6).new g4 λP a=>.inr oM,b1,n6,c6,G6,m0,?_⟩⟩;have hn:V.state c.aT c.agg=none:=by simpa using l7
   rw[hn]at hX;have b8:E=cW (d.at c.aT):=hX;rw[b8];exact(l8.af g4 λP a l=>by have:=l9 P a;omega).row dC (by unfold aN cW;simp;omega)
 rintro _ m1 ⟨m2,q0,q1,q2,G2,h3,h5⟩;refine PA.mk λh8 d7 q3 m3=>?_;have F:=m2.then d7;have m4:=F.size;have c9:=f6.then F;have h9:=d7.get h3 id;have i0:=F.get (M.get d3 id) id;have i1:=F.get (M.get g9 id) id;have i2:=(((L.then Z).then M).then F).get g3 id;have n:∀{z:World} {no:Int},ai h8 z->lF d S V origin start c=(pW,false,no)->vm XP 55 (XL w2.heap.size) (iP pW none 0 0) z λt=>mW XP 55 (XL w2.heap.size) t λr=>Ok (tP w (lF d S V origin start c)) (.returned (.tuple #[r,.bool false,XH no])) t:=λ{z no} h4 R=>y (((L.then Z).then M).then (F.then h4)) R;refine⟨λa9 c5 w'=>∃H:Nat,c5=H/\H<=2/\a9=2-H/\ai h8 w'/\(1<=H->c.expect= -1\/c.expect=((V.state c.aT c.agg).getD ⟨0,[]⟩).version)/\(2<=H->uh (d.at c.aT) E c.field c.op c.arg=0),⟨_,0,rfl,oM,rfl,ak.refl _,λh=>oM,λh=>oM⟩,?_⟩;rintro a9 _ _ I ⟨H,rfl,hj,rfl,j,d8,m5⟩;have d0:=j.get h9 id;have a0:=j.get i0 id;have i3:=j.get i1 id;have d1:=j.get m3 id;refine an.dec (λq4=>⟨m1.heap.size,0,rfl,oM,oM,?_⟩) (λq5=>?_)
 ·have m6:H=0\/H=1:=oM
  rcases m6 with rfl|rfl
  ·refine⟨_,ae d1 rfl,_,_,_,rfl,kR,PC.ok (φ:=λv w'=>v= XH (if c.expect= -1\/c.expect=((V.state c.aT c.agg).getD ⟨0,[]⟩).version then 0 else 11)/\I=w') (sx ⟨_,ae a0 rfl,an.eB (λh1=>Ok.mk ⟨by rw[Zx (.inl h1)],rfl⟩) (λh1=>⟨_,ae a0 rfl,_,ae d0 rfl,an.eB (λh2=>Ok.mk ⟨by rw[Zx (.inr h2)],rfl⟩) (λh2=>Ok.mk ⟨by rw[Zq (by rintro(h|h);exact h1 h;exact h2 h)],rfl⟩)⟩)⟩) ?_⟩
   rintro _ _ ⟨rfl,rfl⟩
   by_cases hx:c.expect= -1\/c.expect=((V.state c.aT c.agg).getD ⟨0,[]⟩).version
   ·rw[Zx hx]
    exact⟨_,rfl,an.ff rfl ⟨_,oM,1,rfl,oM,rfl,j,λ_=>hx,λh=>oM⟩⟩
   ·rw[Zq hx]
    exact⟨_,rfl,an.tt rfl (n j (A (by rw[Zx hx])))⟩
  ·refine⟨_,ae d1 rfl,_,_,_,rfl,kR,PC.ok (φ:=λv w'=>v= XH (uh (d.at c.aT) E c.field c.op c.arg)/\ai I w') (sC ⟨_,_,_,ae i3 rfl,_,_,_,ae d0 rfl,_,ae a0 rfl,_,ae a0 rfl,_,ae a0 rfl,PC.ok (Eg c4 ((b3.ah (b4.then F)).ah j) ((h5.ah d7).ah j)) ?_⟩) ?_⟩
   ·rintro _ m7 ⟨rfl,b9⟩
    exact⟨_,rfl,Ok.mk ⟨rfl,b9⟩⟩
   ·rintro _ m7 ⟨rfl,b9⟩
    refine⟨_,rfl,an.dR (λU=>n (j.then b9) (A ?_)) (λh0=>⟨_,oM,2,rfl,oM,rfl,j.then b9,λ_=>d8 oM,λ_=>h0⟩)⟩;have m8:uh (d.at c.aT) E c.field c.op c.arg=10:=by
     rw[Cf]at U⊢;split at U
     ·simp at U
     ·rename_i hq;rw[Zq hq]
    rw[Zq (λh=>h (d8 oM)),Zx U,m8]
 have i4:=A (r:=((aQ c origin S.vec (max S.top start)).2,decide ((aQ c origin S.vec (max S.top start)).1=0),(aQ c origin S.vec (max S.top start)).1)) (by rw[Zq (λh=>h (d8 oM)),Zq (by rw[m5 oM];simp)]);have J:(if start>S.top then start else S.top)=max S.top start:=by split<;>omega
 have c0:(if start>S.top then start else S.top)<=9223372036854775807:=by split<;>omega
 refine⟨λeb eo no w'=>eo=0/\no=(aQ c origin S.vec (max S.top start)).1/\ai I w'/\∃a2 a3 a7 G,w'.heap[eb]? =some (.cells (aB (aQ c origin S.vec (max S.top start)).2 a2 a3 a7).toArray 55 (0,0))/\Row aJ 8 w' G a2 a3 (aQ c origin S.vec (max S.top start)).2.aK/\∀P,G P->I.heap.size<=P/\P<w'.heap.size,?_,?_⟩
 rotate_left
 ·rintro eb _ no _ q6 ⟨rfl,rfl,d9,b,e,f,p,ge,u,g⟩
  have i5:=d9.get (j.get i2 id) id;have zk:=j.size;have q7:=d9.size;have zw:=q.size;refine au (aU _ b e f) ge (aA (aU _ b e f) i5 rfl λq8 i6 q9 m9=>au (aU _ b e f) m9 (Ok.mk ⟨b,e,f,p,?_,?_,λP a=>?_,?_⟩))
  ·rw[i4];rfl
  ·rw[i4];exact u.af i6 λP a l=>by have:=g P a;omega
  ·have:=g P a;omega
  ·exact(((c9.then j).then d9)).new i6 λP a=>.inr oM
 ·intro N i7
  have e0:ai I N:=i7.af;have r0:N.heap.size=I.heap.size:=by rw[i7.heap]
  have i8:=e0.get a0 id;have a4:=hs.ah ((c9.then j).then e0);have zk:=j.size;have hn:=hs.1.n;have c1:S.vec.length<=20000000:=by rw[S.bJ];omega
  have c2:S.vec.length*8<=aN:=by unfold aN;omega
  have x:∀{wE w6 m:World} {a1:Nat} {b:ZH} {e f:Nat} {p:XN},ai N wE->Row aJ 8 wE p b e (aQ c origin S.vec (max S.top start)).2.aK->(∀P,p P->N.heap.size<=P/\P<wE.heap.size/\P≠a1)->ai wE w6->N.heap.size<=a1->ak (λP=>P=a1) w6 m->m.heap.size=w6.heap.size->m.heap[a1]? =some (.cells (aB (aQ c origin S.vec (max S.top start)).2 b e f).toArray 55 (0,0))->
    (λ(eb eo:Nat) (no:Int) (w':World)=>eo=0/\no=(aQ c origin S.vec (max S.top start)).1/\ai I w'/\∃a2 a3 a7 G,w'.heap[eb]? =some (.cells (aB (aQ c origin S.vec (max S.top start)).2 a2 a3 a7).toArray 55 (0,0))/\Row aJ 8 w' G a2 a3 (aQ c origin S.vec (max S.top start)).2.aK/\∀P,G P->I.heap.size<=P/\P<w'.heap.size) a1 0 (aQ c origin S.vec (max S.top start)).1 m:=λ{wE w6 m a1 b e f p} hE hr hG h6 hg h7 r3 n0=>by
   have z6:=h6.size;exact⟨rfl,rfl,((e0.then hE).then h6).new h7 λP a=>.inr oM,b,e,f,p,n0,(hr.ah h6).af h7 λP a l=>(hG P a).2.2 l,λP a=>by have:=hG P a;omega⟩
  have zc:¬(N.heap.size<=w1.heap.size):=by
   have h1:=((((k3.then L).then Z).then M).then F).size;omega
  refine⟨λP=>N.heap.size<=P,zc,au (AZ c) i8 ⟨PC.ok (jV a4) ?_,PA.mk λr4 c3 r5 n1=>⟨ai.af c3,PC.ok (jV (a4.ah c3)) ?_⟩⟩⟩
  ·rintro _ n2 ⟨av,nv,cv,a8,rfl,b5,k,n3⟩
   have n4:=k.size;refine⟨_,_,_,rfl,ai.af k,PC.ok (DA (a4.ah k)) ?_,PA.mk λn8 K n9 e1=>⟨ai.af K,PC.ok (DA ((a4.ah k).ah K)) ?_⟩⟩
   ·rintro _ _ ⟨rfl,rfl⟩
    refine⟨_,rfl,ak.refl _,?_,?_⟩
    ·rw[J]
     refine PC.ok (ig (b5.row dC c2) (by rw[<-J];exact c0) c1) ?_;rintro _ e2 ⟨b,e,f,p,rfl,u,g,i⟩;have e3:=i.size;exact bN (pT _ b e f) ⟨_,rfl,ai.af i,PA.mk λr6 i9 r7 o0=>⟨ai.af i9,aA (aU _ b e f) o0 rfl λe4 o O Q=>⟨o.mono λP _ l=>oM,x (k.then i) u (λP a=>⟨by have:=g P a;omega,(g P a).2,by have:=g P a;omega⟩) i9 oM o O Q⟩⟩⟩
    ·refine PA.mk λn8 K n9 e1=>⟨ai.af K,?_⟩
     rw[J];refine PC.ok (ig ((b5.ah K).row dC c2) (by rw[<-J];exact c0) c1) ?_;rintro _ e2 ⟨b,e,f,p,rfl,u,g,i⟩;have e3:=i.size;exact bN (pT _ b e f) ⟨_,rfl,ai.af i,aA (aU _ b e f) (i.get e1 id) rfl λe4 o O Q=>⟨o.mono λP _ l=>oM,x ((k.then K).then i) u (λP a=>⟨by have:=g P a;omega,(g P a).2,by have:=g P a;omega⟩) (ak.refl _) oM o O Q⟩⟩
   ·rintro _ _ ⟨rfl,rfl⟩
    refine⟨_,rfl,ak.refl _,?_⟩;refine PC.ok (by rw[J];exact ig ((b5.ah K).row dC c2) (by rw[<-J];exact c0) c1) ?_;rintro _ e2 ⟨b,e,f,p,rfl,u,g,i⟩;have e3:=i.size;exact bN (pT _ b e f) ⟨_,rfl,ai.af i,aA (aU _ b e f) (i.get e1 id) rfl λe4 o O Q=>⟨o.mono λP _ l=>oM,x ((k.then K).then i) u (λP a=>⟨by have:=g P a;omega,(g P a).2,by have:=g P a;omega⟩) (ak.refl _) oM o O Q⟩⟩
  ·rintro _ n2 ⟨av,nv,cv,a8,rfl,b5,k,n3⟩
   have n4:=k.size;refine⟨_,_,_,rfl,ai.af k,PC.ok (DA ((a4.ah c3).ah k)) ?_⟩;rintro _ _ ⟨rfl,rfl⟩;refine⟨_,rfl,ak.refl _,?_⟩;refine PC.ok (by rw[J];exact ig (b5.row dC c2) (by rw[<-J];exact c0) c1) ?_;rintro _ e2 ⟨b,e,f,p,rfl,u,g,i⟩;have e3:=i.size;exact bN (pT _ b e f) ⟨_,rfl,ai.af i,aA (aU _ b e f) ((k.then i).get n1 id) rfl λe4 o O Q=>⟨o.mono λP _ l=>oM,x ((c3.then k).then i) u (λP a=>⟨by have:=g P a;omega,(g P a).2,by have:=g P a;omega⟩) (ak.refl _) oM o O Q⟩⟩
end
structure iO where
 ta:ZH
 tn:Nat
 tc:Nat
 pa:ZH
 pn:Nat
 pc:Nat
 dp:Nat
 lp:ZH
 sp:Nat
 bp:Nat
 wp:Nat
 tp:Nat
abbrev iO.cells(P:iO)(a:cI)(b:Int):Array Value:= #[XH a.bM,XH a.u_,XH a.dq,XH a.chunk,XH a.buffer,XH a.lR,XH a.every,XH a.start,.slice P.ta P.tn P.tc,.slice P.pa P.pn P.pc,XH b,
 XL P.dp,.pointer P.lp,XL P.sp,XL P.bp,XL P.wp,XL P.tp]
def DL(c:World)(G:XN)(d:Nat)(e:ZH)(D:al)(a:Option dS):Prop:=
 ∃b,aS c d b D/\(∀P,b P->G P)/\match a with
  |none=>e=none
  |some f=>f.bD≠[]/\∃g h,e=some ⟨g,0,none⟩/\oW c d g h f/\∀P,h P->G P/\¬b P
def Kw(c:World)(G:XN)(d:Nat)(P:Nat)(e:List aj):Prop:=∃b D,fO c d b D P e/\(∀a,b a->G a)/\∀a,D a->G a
def lS(d:Nat)(e:Array Value)(a:iO)(c:cI)(b:bP)(f:List aj):Nat->World->(XN)->Prop
 |0=>λP G=>G d/\P.heap[d]? =some (.cells e 99 (0,0))
 |1=>λP G=>aW P G c.decl a.ta a.tn a.pa a.pn
 |2=>λP G=>DL P G a.dp a.lp b.D b.log
 |3=>λP G=>cu P a.sp G b.S/\b.S.Cl/\b.S.n=c.bM.toNat
 |4=>λP G=>cU P a.bp G c.decl c.every.toNat f
 |5=>λP G=>Kw P G a.wp c.buffer.toNat b.waits
 |6=>λP G=>fB P a.tp G b.kZ
 |_=>λ_ _=>True
section
variable {w w' w0:World} {p:Nat} {F G T:XN} {cls:Nat->Nat} {h:iO} {c:cI} {self:Int} {X:bP} {dp:Nat} {lp:ZH} {D:al} {log:Option dS}
def DL.af(h:DL w G dp lp D log)(b:ak T w w')(c:∀P,G P->¬T P):DL w' G dp lp D log:=by
 obtain⟨g,i,d,e⟩:=h;refine⟨g,i.af b λP a=>c P (d P a),d,?_⟩
 cases log with
 |none=>exact e
 |some o=>
  obtain⟨j,k,l,m,n,f⟩:=e;exact⟨j,k,l,m,n.af b λP a=>c P (f P a).1,f⟩
def cf:se (lS p n h c X K):=by
 intro k w w' G T P b a
 match k,P with
 |0,P=>exact⟨P.1,b.get P.2 (a p P.1)⟩
 |1,P=>exact aW.af P b a
 |2,P=>exact DL.af P b a
 |3,P=>exact⟨cu.af P.1 b a,P.2⟩
 |4,P=>exact cU.af P b a
 |5,P=>obtain⟨i,D,j,f,g⟩:=P;exact⟨i,D,j.af b (λd e=>a d (f d e)) λd e=>a d (g d e),f,g⟩
 |6,P=>exact fB.af P b a
 |k+7,P=>trivial
structure jC (c:cI) (me:Int):Prop where
 right:gH c me=true
 decl:cy c.decl=0
 Ur:aP c.dq
 every:aP c.every
 start:aP c.start
structure Env (w0 w:World) (F:XN):Prop where
 oX:eh w0
 laid:Laid w0
 gr:ai w0 w
 aC:∀b,F b->w0.heap.size<=b
def Env.GD(h:Env w0 w F)(b:du F w f w'):Env w0 w' f:=⟨h.oX,h.laid,h.gr.new b.af λP a=>.inr (h.aC P a),λP a=>(b.new P a).elim (h.aC P) λc=>by have:=h.gr.size;omega⟩
def Env.ah(h:Env w0 w F)(P:ai w w'):Env w0 w' F:=⟨h.oX,h.laid,h.gr.then P,h.aC⟩
abbrev cT(w:World)(F:XN)(cls:Nat->Nat)(p:Nat)(h:iO)(c:cI)(self:Int)(X:bP):Prop:=bB w F cls (lS p (h.cells c self) h c X X.S.l)
def bU(w:World)(p:Nat)(F:XN)(c:cI)(self:Int)(X:bP):Prop:=jC c self/\∃h cls,cT w F cls p h c self X
def cT.ah(P:cT w F cls p h c self X)(a:ai w w'):cT w' F cls p h c self X:=bB.ah P cf a
def cT.bu(P:cT w F cls p h c self X):w.heap[p]? =some (.cells (h.cells c self) 99 (0,0)):=(P.at' 0).2
def cT.Nf(P:cT w F cls p h c self X):F p/\cls p=0:=(P.at' 0).1
def bU.af(a:bU w p F c self X)(b:ak T w w')(d:∀P,F P->¬T P):bU w' p F c self X:=by
 obtain⟨e,h,cls,f⟩:=a;exact⟨e,h,cls,bB.af f cf b d⟩
def bU.ah(P:bU w p F c self X)(a:ai w w'):bU w' p F c self X:=P.af a λ_ _ h=>h
def bU.aC(a:bU w p F c self X):∀P,F P->P<w.heap.size:=by obtain⟨d,h,cls,b⟩:=a;exact b.aC
def cT.store{b:iO}(P:bB w F cls (lS p n b c X K))(e:ak (·=p) w w')(f:w'.heap[p]? =some (.cells U 99 (0,0))):bB w' F cls (lS p U b c X K):=by
 refine bB.same P cf (k:=0) (e.mono λg _ a=>by have a:g=p:=a;exact a▸(P.at' 0).1) ⟨(P.at' 0).1,f⟩ λd G h i=>?_;rcases d with _|_|_|_|_|_|_|d<;>first|exact i|exact Zz rfl h
def DL.OW(h:DL w G dp lp D (some b3))(d:Env w0 w G)(m:∀P,G P->P<w.heap.size):∃c,lp=XM c/\b3.bD≠[]/\cw w0 w dp c b3 D (λP=>P<w.heap.size/\¬G P):=by
 obtain⟨i,j,f,k,c,l,rfl,g,e⟩:=h;refine⟨c,rfl,k,l,⟨i,j,d.gr,λP a=>⟨d.aC P (f P a),λb=>?_⟩,λP a=>?_⟩,g,λP a=>⟨d.aC P (e P a).1,λb=>b.2 (e P a).1⟩⟩
 ·rcases b with b|b
  ·exact b.2 (f P a)
  ·exact(e P b).2 a
 ·rcases a with a|a
  ·exact a.1
  ·exact g.aC P a
def DL.u_(d:DL w G dp lp D log)(b:Env w0 w G):bC w0 w dp D (λP=>P<w.heap.size/\¬G P):=by
 obtain⟨e,f,c,-⟩:=d;exact⟨e,f,b.gr,λP a=>⟨b.aC P (c P a),λg=>g.2 (c P a)⟩,λP a=>a.1⟩
def DL.Ip{Y:XN}(m:cw w0 w' dp a b3 D (λP=>(P<w.heap.size/\¬G P)\/Y P))(n:ak (fA λP=>P<w.heap.size/\¬G P) w w')(o:b3.bD≠[]):∃d,DL w' d dp (XM a) D (some b3)/\du G w d w'/\(∀P,d P->P<w'.heap.size)/\∀P,d P->¬Y P:=by
 obtain⟨g,⟨h,i,r,e,s⟩,j,k⟩:=m;have f:∀P,¬(P<w.heap.size/\¬G P)->G P\/w.heap.size<=P:=λP b=>by
  rcases Nat.lt_or_ge P w.heap.size with c|c
  ·exact .inl (Classical.byContradiction λp=>b ⟨c,p⟩)
  ·exact .inr c
 refine⟨λP=>h P\/g P,⟨h,i,λP b=>.inl b,o,a,g,rfl,j,λP b=>⟨.inr b,λq=>(e P q).2 (.inr b)⟩⟩,⟨n.mono λP t b=>(f P b).resolve_right oM,λP b=>?_⟩,λP b=>?_,λP b l=>?_⟩
 ·rcases b with b|b
  ·exact f P λc=>(e P b).2 (.inl (.inl c))
  ·exact f P λc=>(k P b).2 (.inl c)
 ·exact b.elim (i.aC P) (j.aC P)
 ·rcases b with b|b
  ·exact(e P b).2 (.inl (.inr l))
  ·exact(k P b).2 (.inr l)
def DL.OX{Y:XN}(h:bC w0 w' dp D (λP=>(P<w.heap.size/\¬G P)\/Y P))(i:ak (fA λP=>P<w.heap.size/\¬G P) w w'):∃c,DL w' c dp none D none/\du G w c w'/\(∀P,c P->P<w'.heap.size)/\∀P,c P->¬Y P:=by
 obtain⟨d,e,l,f,m⟩:=h;have g:∀P,¬(P<w.heap.size/\¬G P)->G P\/w.heap.size<=P:=λP a=>by
  rcases Nat.lt_or_ge P w.heap.size with b|b
  ·exact .inl (Classical.byContradiction λj=>a ⟨b,j⟩)
  ·exact .inr b
 exact⟨d,⟨d,e,λP a=>a,rfl⟩,⟨i.mono λP n a=>(g P a).resolve_right oM,λP a=>g P λb=>(f P a).2 (.inl b)⟩,λP a=>e.aC P a,λP a k=>(f P a).2 (.inr k)⟩
end
def FN{D:al}(a:b3.bD≠[]):(aX b3 D).2.1.bD≠[]:=by
 have c:∀P:al,(kV b3 P).2.1.bD≠[]:=by
  intro P;unfold kV;dsimp only;split
  ·exact a
  ·split
   ·exact a
   ·simp
 have b:∀P:al,(bZ b3 P).2.1.bD≠[]:=by
  intro P;unfold bZ;dsimp only;split
  ·exact a
  ·exact c _
 unfold aX;dsimp only;split
 ·exact b D
 ·split
  ·exact a
  ·exact b _
def Dq{D:al}{l:List aj}(P:b3.bD≠[]):(bd b3 D l).2.1.bD≠[]:=by
 unfold bd;dsimp only;have a:(if b3.size<=b3.bytes then aX b3 D else(0,b3,D)).2.1.bD≠[]:=by
  split
  ·exact FN P
  ·exact P
 generalize(if b3.size<=b3.bytes then aX b3 D else(0,b3,D))=b at a⊢;split
 ·exact P
 split
 ·exact P
 split
 ·exact a
 split
 ·exact a
 ·exact a
def Ni(e:Row gO 96 b f d a K):∀P∈K,P.Ok:=λP g=>by
 obtain⟨c,h,rfl⟩:=List.getElem_of_mem g;obtain⟨j,k,l,-,-,-,-,m,n,o,-,-,i⟩:=e.el c K[c] (Qq h);exact i
def ar.FO:∀{l:List aj} {S:ar} {P:aj},P∈S.l->P∈(S.eV l).l
 |[],S,P,a=>a
 |e::l,S,P,a=>ar.FO (l:=l) (S:=(S.add e).2) (by
  rcases S.fQ e with⟨-,b⟩|⟨c,-⟩
  ·rw[b];exact a
  ·rw[c];exact(cO e S.l).mem_iff.2 (QJ _ a))
variable{d8:cI}
def tr(a:A.Cl)(b:A.n=d8.bM.toNat)(P:List aj):dL d8 A P=A.eV P:=by
 unfold dL;rw[ar.LW,<-b,a.RA]
section
variable {w w' w0:World} {p:Nat} {F E T:XN} {cls:Nat->Nat} {h:iO} {c:cI} {self:Int} {X:bP} {evs:List aj} {ea:ZH} {en ec:Nat}
def jC.bM(P:jC c self):c.bM=(c.bM.toNat:Int)/\c.bM.toNat<=64/\1<=c.bM.toNat:=by
 have:=P.right;unfold gH within at this;simp only[QK,Zk]at this;omega
def FP(s:cT w F cls p h c self X)(b0:jC c self)(hr:Row gO 96 w E ea en evs)(t:∀P,E P->P<w.heap.size)(hl:X.S.l.length+evs.length<=20000000):
  ZG 93 #[XL p,.slice ea en ec] w (Ok λa0 w'=>∃L d,a0= XL L/\cu w' L d (dL c X.S evs)/\(∀P,d P->w.heap.size<=P)/\ai w w'):=by
 obtain⟨b1,b2,c5⟩:=b0.bM;have eQ:=(s.at' 3).1;refine mh ⟨p,0,rfl,_,ae s.bu rfl,?_⟩;rw[b1];refine PC.ok (Cb b2) ?_;rintro _ w7 ⟨u,k,rfl,M,v,l⟩;have g:=cT.ah s l;refine⟨_,rfl,p,0,rfl,_,ae g.bu rfl,PC.ok (sj (eQ.ah l) oM) ?_⟩;rintro _ c6 ⟨a2,x,c1,G,rfl,i,y,m⟩;have N:=M.aC;have c7:=i.aC;have z7:=l.size;have c8:=y.size;have O:=l.then y;refine⟨_,_,_,rfl,wY i zQ (hr.ah O) (λP a=>⟨by have:=t P a;omega,λz=>by have:=t P a;have:=m P (i.self P z);omega⟩) ba (by unfold maxLen;omega) λa' c' n Q A B b3 _=>⟨_,_,_,rfl,?_⟩⟩;have b4:=A.len dC;have c9:=B.size;rw[QX]at b4;have a3:Row gO 96 n Q a' (x+en) (X.S.l++evs):=A.row dC (by rw[QX];unfold aN;omega);have R:=A.aC;have S:∀P,Q P->¬k P:=λP a o=>by
  have e:=v P o;have h6:=N P o;rcases b3 P a with g|g|g
  ·have:=m P g;omega
  ·have:=t P g;omega
  ·omega
 have a4:ai w n:=O.new B λP a=>.inr (by have:=m P (i.self P a);omega);have a5:=(M.ah y).af B λP a z=>by have:=N P a;have:=m P (i.self P z);omega
 refine⟨λT C w'=>∃(b:Nat) (d:XN),C=b/\b<=x+en/\T=x+en-b/\cu w' u d ((⟨c.bM.toNat,[]⟩:ar).eV ((X.S.l++evs).take b))/\(∀P,d P->k P\/n.heap.size<=P)/\ak k n w',⟨_,0,k,rfl,Qj _,rfl,a5,λP a=>.inl a,ak.refl _⟩,?_⟩;rintro T _ _ U ⟨b,d,rfl,hj,rfl,H,q,r⟩;have d0:=r.size;refine an.dec (λd1=>?_) (λd2=>?_)
 ·obtain⟨f,V⟩:∃f,(X.S.l++evs)[b]? =some f:=⟨_,Qq (by rw[QX];omega)⟩
  obtain⟨P,a1,es,ha,d3,d4,b5,I,J,K,rfl,b6,a7⟩:=(a3.af r S).el b f V;refine⟨P,a1,ha,oM,oM,bq (es:=aB f I J K) (k:=10) (aU _ _ _ _) rfl (λC ht=>by rw[Qx];exact b5 C ht) (PA.mk λd5 b7 d6 b8=>aA (aU f I J K) b8 rfl λb9 c0 d7 c2=>au (aU f I J K) c2 ?_)⟩;have j:ai U b9:=b7.new c0 λP a=>.inr (by have a:P=U.heap.size:=a;omega);have W:=ar.lj ((X.S.l++evs).take b) ⟨c.bM.toNat,[]⟩;rw[Qy,QX]at W;simp only[ZQ]at W;refine PC.ok (si (H.ah j) (b6.ah j) (λP a=>⟨by have:=R P a;have:=j.size;omega,λo=>?_⟩) a7 oM) ?_
  ·rcases q P o with e|e
   ·exact S P a e
   ·have:=R P a;omega
  rintro _ c3 ⟨rfl,Y,c4,Z⟩;refine⟨_,rfl,_,oM,b+1,Y,aq oM,oM,rfl,?_,λP a=>?_,(r.ah j).new Z.af λP a=>q P a⟩
  ·rw[Qw,V]
   show cu c3 u Y (ar.eV _ ((X.S.l++evs).take b++[f]));rw[ar.lk];exact c4
  ·rcases Z.new P a with e|e
   ·exact q P e
   ·have:=j.size;exact .inr oM
 ·rw[Qz (by rw[QX];omega)]at H
  exact Ok.mk ⟨u,d,rfl,H,λP a=>(q P a).elim (v P) λe=>oM,a4.new r λP a=>.inr (v P a)⟩
end
section
variable {w w' w0:World} {p:Nat} {F E T:XN} {cls:Nat->Nat} {h:iO} {c:cI} {self:Int} {X:bP} {evs lB:List aj} {ea:ZH} {en ec:Nat}
def Env.sub(a:Env w0 w F)(b:∀P,f P->F P):Env w0 w f:=⟨a.oX,a.laid,a.gr,λP c=>a.aC P (b P c)⟩
def Nj(P:A.OK)(b:l∈A.l)(c:M∈A.l)(d:aI l=aI M):l=M:=by
 have a:=P.get b;have e:=P.get c;rw[d,e]at a;exact(XJ a).symm
def zh(v:bB w F cls (lS p (h.cells c self) h c X lB))(l:Env w0 w F)(R:∀(x:Nat) (m n:aj),lB[x]? =some m->X.S.l[x]? =some n->aI m=aI n->m=n)(y:X.S.l.length<=20000000){κ:XR}(o:∀w' g a,cT w' g a p h c self X->du F w g w'->κ (XH 0) w'):
  ∀lq,bG w lq->∃q:XN,(∃r z,(XM p:ZH)=some ⟨r,z,none⟩/\(¬q r/\(∃(A:ZH),lq.cell? ⟨r,z+14,none⟩=some (.pointer A)/\(∃B C,(XM p:ZH)=some ⟨B,C,none⟩/\(∃(E:ZH),lq.cell? ⟨B,C+13,none⟩=some (.pointer E)/\
   PC XP 41 #[.pointer E] lq (λS d=>∃(H:ZH) (I:Nat) (J:Nat),S= .slice H I J/\(ak q lq d/\PC XP 76 #[.pointer A,.slice H I J] d (λT i=>∃(U:Int),T= XH U/\(ak q d i/\κ (XH 0) i)) a2)) e6))))):=by
 intro lq V;have s:ai w lq:=V.af;have j:=bB.ah v cf s;have K:=(j.at' 0).2;refine⟨λP=>F P/\cls P=4,p,0,rfl,λW=>?_,_,ae K rfl,p,0,rfl,_,ae K rfl,PC.ok (sj (show cu lq h.sp (λP=>F P/\cls P=3) X.S from(j.at' 3).1) y) ?_⟩
 ·have:=W.2
  have Y:=(show(F p/\cls p=0)/\_ from v.at' 0).1.2;rw[Y]at this;cases this
 rintro _ d ⟨a1,a3,cc,G,rfl,t,f,Z⟩;have b5:=f.size;have a6:=j.aC;have L:=bB.ah j cf f;have a8:=t.iG;have a0:cU d h.bp (λP=>F P/\cls P=4) c.decl c.every.toNat lB:=L.at' 4;refine⟨_,_,_,rfl,ai.af f,PC.ok (DO a0 l.oX ((l.gr.then s).then f) (λP e=>l.aC P e.1) (t.row dC ba) a8 (λP e=>⟨t.aC P e,λhf=>by have:=a6 P hf.1;have:=Z P e;omega⟩) y R) ?_⟩;rintro _ i ⟨k,rfl,G4,M,N⟩;obtain⟨g,a,u,b,-,-⟩:=L.GD cf (k:=4) (G':=G4) (C2:=lS p (h.cells c self) h c X X.S.l) N M.aC M λO G hj hc=>by
  rcases O with _|_|_|_|_|_|_|O<;>first|exact hc|exact Zz rfl hj
 have Q:ai w d:=s.then f;exact⟨_,rfl,N.af,o i g a u ⟨(ai.af Q).then b.af,λP e=>(b.new P e).imp id λh1=>by have:=Q.size;omega⟩⟩
def FE(x:cT w F cls p h c self X)(c1:jC c self)(y:Env w0 w F){V:dS}(b3:X.log=some V)(Y:Row gO 96 w E ea en evs)(Z:∀a,E a->a<w.heap.size/\¬(F a/\cls a=2))(hl:X.S.l.length+evs.length<=20000000):
  ZG 43 #[XL p,.slice ea en ec] w (Ok λz w'=>z= XH (cK c X evs).1/\∃A r e,cT w' r e p A c self (cK c X evs).2/\du F w r w'/\A.wp=h.wp):=by
 obtain⟨d,D,c2,P,j⟩:=X;simp only at b3 hl;subst b3;obtain⟨hS,B,hn⟩:=(show cu w h.sp (λa=>F a/\cls a=3) d/\d.Cl/\d.n=c.bM.toNat from x.at' 3)
 have c3:=x.aC;obtain⟨e1,C,H,a0⟩:=DL.OW (show DL w (λa=>F a/\cls a=2) h.dp h.lp D (some V)from x.at' 2) (y.sub λa b=>b.1) λa b=>c3 a b.1;have c4:=Ni Y;have a2:∀a,E a->a<w.heap.size:=λa b=>(Z a b).1;refine l_ ⟨p,0,rfl,_,ae x.bu rfl,?_⟩;rw[C];refine PC.ok (HV y.laid a0 H Y a2 oM) ?_;rintro _ w7 ⟨rfl,a1,k7⟩;have I:=Dq (D:=D) (l:=evs) H;have s:∀{a3},(if(bd V D evs).1≠0 then((bd V D evs).1,({S:=d,D:=(bd V D evs).2.2,log:=some (bd V D evs).2.1,waits:=P,kZ:=j}:bP))else
   if((bd V D evs).2.2.sync (bd V D evs).2.1.last).1≠0 then(((bd V D evs).2.2.sync (bd V D evs).2.1.last).1,{S:=d,D:=((bd V D evs).2.2.sync (bd V D evs).2.1.last).2,log:=some (bd V D evs).2.1,waits:=P,kZ:=j})else
   (0,{S:=dL c d evs,D:=((bd V D evs).2.2.sync (bd V D evs).2.1.last).2,log:=some (bd V D evs).2.1,waits:=P,kZ:=j}))=a3->cK c ⟨d,D,some V,P,j⟩ evs=a3:=λ{a3} hq=>hq
 generalize e2:bd V D evs=ap at a1 I s;obtain⟨e3,t,D7⟩:=ap;simp only at a1 I s;obtain⟨G7,J,a4,a5,-⟩:=DL.Ip (Y:=λ_=>False) (a1.mono λa b=>b.elim id False.elim) k7 I;obtain⟨F7,l,K,f,-,-,c5⟩:=x.GD cf (k:=2) (G':=G7) (C2:=lS p (h.cells c self) h c ⟨d,D7,some t,P,j⟩ d.l) a4 a5 (by rw[<-C]at J;exact J) λm G L M=>by
  rcases m with _|_|_|_|_|_|_|m<;>first|exact M|exact Zz rfl L
 refine⟨_,rfl,an.dR (λa6=>Ok.mk ?_) (λh0=>?_)⟩
 ·rw[s (Zx a6)]
  exact⟨rfl,h,F7,l,K,f,rfl⟩
 simp only at h0;have c6:=y.GD f;obtain⟨q2,n,-,u⟩:=DL.OW (show DL w7 (λa=>F7 a/\l a=2) h.dp h.lp D7 (some t)from K.at' 2) (c6.sub λa b=>b.1) λa b=>K.aC a b.1;refine⟨p,0,rfl,_,ae (K.at' 0).2 rfl,?_⟩;rw[n];refine PC.ok (Fc y.laid u I) ?_;rintro _ b4 ⟨rfl,a7,c7⟩;generalize e4:D7.sync t.last=sy at a7 s;obtain⟨s1,S⟩:=sy;simp only at a7 s;obtain⟨a8,o,i,N,-⟩:=DL.Ip (Y:=λ_=>False) (a7.mono λa b=>b.elim id False.elim) c7 I;obtain⟨O,v,g,k,-,a9,T⟩:=K.GD cf (k:=2) (G':=a8) (C2:=lS p (h.cells c self) h c ⟨d,S,some t,P,j⟩ d.l) i N (by rw[<-n]at o;exact o) λm G L M=>by
  rcases m with _|_|_|_|_|_|_|m<;>first|exact M|exact Zz rfl L
 have b0:=f.trans k;refine⟨_,rfl,an.dR (λa6=>Ok.mk ?_) (λh1=>?_)⟩
 ·rw[s ((Zq (by simpa using h0)).trans (Zx a6))]
  exact⟨rfl,h,O,v,g,b0,rfl⟩
 simp only at h1;have c8:=s ((Zq (by simpa using h0)).trans (Zq (by simpa using h1)));rw[c8];have c9:Row gO 96 b4 E ea en evs:=by
  refine(Y.af a4.af λa b=>(Z a b).2).af i.af λa b hf=>?_;rcases a4.new a (c5▸hf)with h5|h5
  ·exact(Z a b).2 h5
  ·have:=a2 a b;omega
 refine PC.ok (FP g c1 c9 (λa b=>by have:=a2 a b;have:=b0.af.size;omega) hl) ?_;rintro _ d0 ⟨U,F2,rfl,b5,d1,d2⟩;have d3:(dL c d evs).n=c.bM.toNat:=ar.LX _ _;have b1:=tr B hn evs;have b6:(dL c d evs).Cl:=by rw[b1];exact ar.Cl.eV B c4
 obtain⟨F3,Q,b7,q,d4,-⟩:=g.ft cf (k:=3) (w':=d0) (G':=F2) (C2:=lS p (h.cells c self) {h with sp:=U} c ⟨dL c d evs,S,some t,P,j⟩ d.l) (ai.af d2) (λa b=>.inr (d1 a b)) b5.aC ⟨b5,b6,d3⟩ λm G L M=>by
  rcases m with _|_|_|_|_|_|_|m<;>first|exact M|exact Zz rfl L
 refine⟨_,rfl,p,0,rfl,PS.mk (b7.at' 0).2 sM λb8 b9 e5 d5=>?_⟩;have d6:bB b8 F3 Q (lS p (({h with sp:=U}:iO).cells c self) {h with sp:=U} c ⟨dL c d evs,S,some t,P,j⟩ d.l):=cT.store b7 b9 d5;have d7:du O b4 F3 b8:=⟨q.af.then (b9.mono λa _ R=>by have R:a=p:=R;rw[R];exact(g.at' 0).1.1),q.new⟩
 have c0:=b0.trans d7;have d8:∀W∈d.l,W∈(dL c d evs).l:=λW hx=>by rw[b1];exact ar.FO hx
 have d9:(dL c d evs).l.length<=20000000:=by rw[b1];exact Xx (ar.lj _ _) hl
 exact zh d6 (y.GD c0) (λe6 W e7 hx hy R=>Nj b6.ok (d8 W (QZ hx)) (QZ hy) R) d9 (κ:=λz w'=>Ok (λz w'=>z= XH 0/\∃A r e,cT w' r e p A c self ⟨dL c d evs,S,some t,P,j⟩/\du F w r w'/\A.wp=h.wp) (.returned z) w')
  λw' r e b2 e0=>Ok.mk ⟨rfl,{h with sp:=U},r,e,b2,c0.trans e0,rfl⟩
end
def It{D:al}{size:Int}(P:(br D size).no=0):(br D size).V.bD≠[]:=by
 revert P
 unfold br;generalize ie (told D) [] (lM D size) D=c;unfold ki;split
 ·rename_i b;intro P;exact Zz P b
 split
 ·intro P;exact qJ P
 rename_i a;split
 ·intro _;exact a
 ·intro _;exact a
abbrev FK(P:iO)(a:cI)(b:Int)(c d e:ZH):Array Value:= #[XH a.bM,XH a.u_,XH a.dq,XH a.chunk,XH a.buffer,XH a.lR,XH a.every,XH a.start,.slice P.ta P.tn P.tc,.slice P.pa P.pn P.pc,XH b,
 XL P.dp,.pointer c,.pointer d,.pointer e,XL P.wp,XL P.tp]
def recC(d:Nat)(e:Array Value)(a:iO)(c:cI)(b:bP)(f:Bool):Nat->World->(XN)->Prop
 |0=>λP G=>G d/\P.heap[d]? =some (.cells e 99 (0,0))
 |1=>λP G=>aW P G c.decl a.ta a.tn a.pa a.pn
 |2=>λP G=>DL P G a.dp a.lp b.D b.log
 |3=>λP G=>f=true->cu P a.sp G b.S/\b.S.Cl/\b.S.n=c.bM.toNat
 |5=>λP G=>Kw P G a.wp c.buffer.toNat b.waits
 |6=>λP G=>fB P a.tp G b.kZ
 |_=>λ_ _=>True
section
variable {w w' w0:World} {p:Nat} {F E T:XN} {cls:Nat->Nat} {h:iO} {c:cI} {self:Int} {X:bP} {evs lB:List aj} {ea:ZH} {en ec:Nat}
def pN:se (recC p n h c X L):=by
 intro k w w' G T P b a
 match k,P with
 |0,P=>exact⟨P.1,b.get P.2 (a p P.1)⟩
 |1,P=>exact aW.af P b a
 |2,P=>exact DL.af P b a
 |3,P=>exact λf=>⟨cu.af (P f).1 b a,(P f).2⟩
 |4,P=>trivial
 |5,P=>obtain⟨j,D,l,g,i⟩:=P;exact⟨j,D,l.af b (λd e=>a d (g d e)) λd e=>a d (i d e),g,i⟩
 |6,P=>exact fB.af P b a
 |k+7,P=>trivial
def FL{z1 z2 z3:ZH}(T:bB w F cls (recC p (FK h c self z1 z2 z3) h c X false))(L:jC c self)(A:Env w0 w F):
  ZG 38 #[XL p] w (Ok λB w'=>B= XH (jK c X).1/\(jK c X).2.S.l.length<=16777216/\∃U q e,cT w' q e p U c self (jK c X).2/\du F w q w'):=by
 obtain⟨f7,d1,j4⟩:=L.bM;have g0:=T.aC;have V:F p/\cls p=0:=(T.at' 0).1;have i9:1<=c.every:=by
  have:=L.right;unfold gH at this;simp only[QK,Zk]at this;omega
 refine jQ λw3 d3=>?_;have W:ai w w3:=d3.af;have M:=bB.ah T pN W;have N:=(M.at' 0).2;refine⟨λ_=>False,p,0,rfl,_,ae N rfl,p,0,rfl,id,_,_,_,_,_,_,ae N rfl,ae N rfl,p,0,rfl,id,_,ae N rfl,?_⟩;rw[f7];refine PC.ok (Cb d1) ?_;rintro _ d2 ⟨f,F2,rfl,Y,d4,C⟩;have a9:=W.then C;have d5:=bB.ah M pN C;refine⟨_,rfl,C,PC.ok (LC L.decl L.every ((A.oX.ah A.gr).ah a9) (show aW d2 (λP=>F P/\cls P=1) c.decl h.ta h.tn h.pa h.pn from d5.at' 1) λP a=>d5.aC P a.1) ?_⟩;rintro _ g1 ⟨i,F4,rfl,Z,d6,b7⟩;have y3:=W.size;have j5:=C.size;have j6:=b7.size;rw[show(max 1 c.every).toNat=c.every.toNat by congr 1;omega]at Z;have j0:=Y.aC;obtain⟨Fa,d7,E,b0,g2,-⟩:=M.DN pN (k:=3) (w':=d2) (G':=F2) (C2:=recC p (FK h c self z1 z2 z3) {h with sp:=f} c {X with S:=⟨c.bM.toNat,[]⟩} true) (ai.af C) (λP a m=>by have:=d4 P a;have:=g0 P m;omega) Y.aC (λ_=>⟨Y,ar.Cl.new d1,rfl⟩) λb G j k=>by
  rcases b with _|_|_|_|_|_|_|b<;>first|exact k|exact Zz rfl j
 obtain⟨u,r,b8,b1,g4,-⟩:=E.DN pN (k:=4) (w':=g1) (G':=F4) (C2:=lS p (FK h c self z1 z2 z3) {h with sp:=f,bp:=i} c {X with S:=⟨c.bM.toNat,[]⟩} []) (ai.af b7) (λP a m=>by have:=d6 P a;have:=E.aC P m;omega) Z.aC Z λb G j k=>by
  rcases b with _|_|_|_|_|_|_|b<;>first|exact k|exact k rfl|exact Zz rfl j
 have e1:∀P,u P->F P\/w.heap.size<=P:=λP a=>by
  rcases g4 P a with l|l
  ·rcases g2 P l.1 with h6|h6
   ·exact .inl h6.1
   ·exact .inr (by have:=d4 P h6;omega)
  ·exact .inr (by have:=d6 P l;omega)
 refine⟨_,rfl,p,0,rfl,PS.mk (b8.at' 0).2 sM λj7 d8 j8 g5=>⟨p,0,rfl,PS.mk g5 sM λb9 d9 j9 g6=>λc0 g7=>?_⟩⟩;have j1:u p/\r p=0:=(b8.at' 0).1;have e0:ai b9 c0:=g7.af;have g8:bB b9 u r (lS p (FK h c self z1 (XM f) (XM i)) {h with sp:=f,bp:=i} c {X with S:=⟨c.bM.toNat,[]⟩} []):=cT.store b8 (d8.then d9) g6;have b2:du F w u b9:=⟨((ai.af a9).ah b7).then ((d8.then d9).mono λP _ g=>by have g:P=p:=g;rw[g];exact V.1),e1⟩
 have H:=bB.ah g8 cf e0;have O:du F w u c0:=⟨b2.af.ah e0,b2.new⟩
 have e4:=A.GD O;have e2:=(H.at' 0).2;have g9:=DL.u_ (show DL c0 (λP=>u P/\r P=2) h.dp h.lp X.D X.log from H.at' 2) (e4.sub λP a=>a.1);refine⟨p,0,rfl,_,ae e2 rfl,p,0,rfl,_,ae e2 rfl,PC.ok (MT A.laid g9) ?_⟩;have a0:∀{d},(if(br X.D c.dq).no≠0 then((br X.D c.dq).no,{X with D:=(br X.D c.dq).D,log:=none,S:=⟨c.bM.toNat,[]⟩})
   else(0,{X with D:=(br X.D c.dq).D,log:=some (br X.D c.dq).V,S:=(⟨c.bM.toNat,[]⟩:ar).eV (br X.D c.dq).out}))=d->jK c X=d:=λ{d} hq=>hq
 have b3:=It (D:=X.D) (size:=c.dq);generalize br X.D c.dq=d at a0 b3;rintro _ h4 (⟨I,rfl,e8,c2⟩|⟨I,s,e9,a1,cc,G,rfl,c3,h7,c2,hG,hq,j2⟩)
 ·obtain⟨G2,c4,a2,c5,-⟩:=DL.OX (Y:=λ_=>False) (e8.mono λP a=>a.elim id False.elim) c2
  obtain⟨t,Q,v,a3,-,-⟩:=H.GD cf (k:=2) (G':=G2) (C2:=lS p (FK h c self z1 (XM f) (XM i)) {h with sp:=f,bp:=i,lp:=none} c {X with S:=⟨c.bM.toNat,[]⟩,D:=d.D,log:=none} []) a2 c5 (by
    obtain⟨Fd,h1,h2,M⟩:=c4;exact⟨Fd,h1,h2,rfl⟩) λb G j k=>by
   rcases b with _|_|_|_|_|_|_|b<;>first|exact k|exact Zz rfl j
  refine⟨_,_,_,_,_,rfl,p,0,rfl,PS.mk (v.at' 0).2 sM λx y e3 c6=>an.dR (λ_=>Ok.mk ?_) (λh0=>Zz h0 I)⟩;rw[a0 (Zx I)];refine⟨rfl,Qj _,{h with sp:=f,bp:=i,lp:=none},t,Q,cT.store v y c6,?_⟩;have J:=O.trans a3;exact⟨J.af.then (y.mono λP _ g=>by have g:P=p:=g;rw[g];exact V.1),J.new⟩
 ·obtain⟨G2,c4,a2,c5,hY⟩:=DL.Ip h7 c2 (b3 I)
  obtain⟨t,Q,v,a3,h8,-⟩:=H.GD cf (k:=2) (G':=G2) (C2:=lS p (FK h c self z1 (XM f) (XM i)) {h with sp:=f,bp:=i,lp:=XM s} c {X with S:=⟨c.bM.toNat,[]⟩,D:=d.D,log:=some d.V} []) a2 c5 c4 λb G j k=>by
   rcases b with _|_|_|_|_|_|_|b<;>first|exact k|exact Zz rfl j
  refine⟨_,_,_,_,_,rfl,p,0,rfl,PS.mk (v.at' 0).2 sM λx y e3 c6=>an.dR (λh0=>Zz rfl h0) (λ_=>?_)⟩;have f0:bB x t Q (lS p (({h with sp:=f,bp:=i,lp:=XM s}:iO).cells c self) {h with sp:=f,bp:=i,lp:=XM s} c {X with S:=⟨c.bM.toNat,[]⟩,D:=d.D,log:=some d.V} []):=cT.store v y c6;have J:=O.trans a3;have b4:du F w t x:=⟨J.af.then (y.mono λP _ g=>by have g:P=p:=g;rw[g];exact V.1),J.new⟩
  have j3:=O.af.size;have c7:∀P,G P->¬t P:=λP a m=>by
   rcases h8 P m with l|l
   ·have:=H.aC P l.1;have:=hG P a;omega
   ·exact hY P l a
  have h9:∀P,G P->P≠p:=λP a g=>c7 P a (g▸(v.at' 0).1.1);have b5:=c3.aC;have k0:=c3.len dC;have b6:Row gO 96 x G e9 a1 d.out:=oA.row (((c3.af y λP a g=>h9 P a g)).row dC ba);have k1:x.heap.size=h4.heap.size:=e3;rw[a0 (Zq (by simpa using I))];have f9:=Ni b6;refine⟨λc1 a4 w'=>∃(b:Nat) (R:XN) (e5:Nat->Nat),a4=b/\b<=a1/\c1=a1-b/\bB w' R e5 (lS p (({h with sp:=f,bp:=i,lp:=XM s}:iO).cells c self) {h with sp:=f,bp:=i,lp:=XM s} c {X with S:=(⟨c.bM.toNat,[]⟩:ar).eV (d.out.take b),D:=d.D,log:=some d.V} [])/\du t x R w',
   ⟨_,0,t,Q,rfl,Qj _,rfl,f0,du.refl _ _⟩,?_⟩
  rintro c1 _ _ e6 ⟨b,R,e5,rfl,j,rfl,c8,z⟩;have i0:∀P,G P->¬R P:=λP a m=>by
   rcases z.new P m with l|l
   ·exact c7 P a l
   ·have:=b5 P a;omega
  have c9:=ar.lj (d.out.take b) ⟨c.bM.toNat,[]⟩;rw[Qy]at c9;simp only[ZQ]at c9;refine an.dec (λk2=>?_) (λk4=>?_)
  ·obtain⟨n,S⟩:∃n,d.out[b]? =some n:=⟨_,Qq oM⟩
   obtain⟨P,f1,es,ha,k5,k6,i1,xa,xn,xc,rfl,i2,d0⟩:=(b6.af z.af c7).el b n S;refine⟨P,f1,ha,oM,oM,bq (es:=aB n xa xn xc) (k:=10) (aU _ _ _ _) rfl (λa4 ht=>by rw[Qx];exact i1 a4 ht) (PA.mk λk7 i3 k8 i4=>aA (aU n xa xn xc) i4 rfl λk9 i5 l0 i6=>λi7 e7=>?_)⟩;have K:ai e6 i7:=(i3.new i5 λP a=>.inr (by have a:P=e6.heap.size:=a;omega)).then e7.af;have a5:=bB.ah c8 cf K;have l3:=z.af.size;obtain⟨f3,f4,f5⟩:=a5.at' 3;refine⟨p,0,rfl,_,ae (a5.at' 0).2 rfl,au (aU n xa xn xc) ((e7.af (S:=λ_=>False)).get i6 id) (PC.ok (si f3 (i2.ah K) (λP a=>⟨by have:=b5 P a;have:=K.size;omega,λm=>i0 P a m.1⟩) d0 (by show((⟨c.bM.toNat,[]⟩:ar).eV (d.out.take b)).l.length<_;omega)) ?_)⟩;rintro _ l4 ⟨rfl,F8,f2,f6⟩;have i8:((⟨c.bM.toNat,[]⟩:ar).eV (d.out.take (b+1)))=(((⟨c.bM.toNat,[]⟩:ar).eV (d.out.take b)).add n).2:=by
    rw[Qw,S];exact ar.lk ..
   obtain⟨F9,a6,a7,o,-⟩:=a5.GD cf (k:=3) (G':=F8) (C2:=lS p (({h with sp:=f,bp:=i,lp:=XM s}:iO).cells c self) {h with sp:=f,bp:=i,lp:=XM s} c {X with S:=(⟨c.bM.toNat,[]⟩:ar).eV (d.out.take (b+1)),D:=d.D,log:=some d.V} []) f6 f2.aC (by rw[i8];exact⟨f2,f4.add d0,(ar.Pv _ _).trans f5⟩) λb G j k=>by
    rcases b with _|_|_|_|_|_|_|b<;>first|exact k|exact Zz rfl j
   exact⟨_,rfl,_,oM,b+1,F9,a6,aq oM,oM,rfl,a7,z.trans ⟨(ai.af K).then o.af,λP a=>(o.new P a).imp id λh1=>by have:=K.size;omega⟩⟩
  ·rw[Qz oM]at c8 c9
   exact zh c8 (A.GD (b4.trans z)) (λg3 n h3 S=>by simp at S) (by show((⟨c.bM.toNat,[]⟩:ar).eV d.out).l.length<=_;omega) (κ:=λB w'=>Ok (λB w'=>B= XH 0/\((⟨c.bM.toNat,[]⟩:ar).eV d.out).l.length<=16777216/\∃U q e,cT w' q e p U c self {X with S:=(⟨c.bM.toNat,[]⟩:ar).eV d.out,D:=d.D,log:=some d.V}/\du F w q w') (.returned B) w')
    λw' q e a8 f8=>Ok.mk ⟨rfl,oM,_,q,e,a8,(b4.trans z).trans f8⟩
end
structure rL where
 code:Int
 id:Int×Int
 st:kN
 Rf:List cz
 rows:List dv
 more:Bool
def lH(P:rL)(a:ZH)(b c:Nat)(d:ZH)(e f:Nat)(g:ZH)(h i:Nat):List Value:=
 [XH P.code,XH P.id.1,XH P.id.2,XH P.st.version,.slice a b c,.slice d e f,.slice g h i,.bool P.more]
def jL(P:rL)(a:ZH)(b c:Nat)(d:ZH)(e f:Nat)(g:ZH)(h i:Nat):im XP 46 (lH P a b c d e f g h i)=true:=kR
def gU(i:World)(P:rL)(j:Value)(a:World):Prop:=∃(c:ZH) (d k:Nat) (e:ZH) (f l:Nat) (g:ZH) (h m:Nat) (G:XN),j= .agg (lH P c d k e f l g h m).toArray/\
 Row eN 32 a G c d P.st.cells/\Row vY 120 a G e f P.Rf/\Row DT 24 a G g h P.rows/\∀b,G b->i.heap.size<=b/\b<a.heap.size
abbrev m_(P:Int):rL:=⟨P,(0,0),⟨0,[]⟩,[],[],false⟩
abbrev Jz(id:Int×Int):rL:=⟨0,id,⟨0,[]⟩,[],[],false⟩
structure ir.Ok (x:ir):Prop where
 aT:aP x.aT
 agg:aP x.agg
 field:aP x.field
 op:aP x.op
 arg:aP x.arg
 key:aP x.key
variable{e7:rL}
section
variable {w w' w0:World} {p:Nat} {F E T:XN} {cls:Nat->Nat} {h:iO} {c:cI} {self:Int} {X:bP} {evs lB:List aj} {ea:ZH} {en ec:Nat}
def gU.plain(P:e7.st.cells=[])(a:e7.Rf=[])(b:e7.rows=[]):gU w e7 (.agg (lH e7 none 0 0 none 0 0 none 0 0).toArray) w':=
 ⟨none,0,0,none,0,0,none,0,0,λ_=>False,rfl,by rw[P];exact dO _ _,by rw[a];exact dO _ _,by rw[b];exact dO _ _,λd c=>c.elim⟩
def row_one{P:jf j}{bytes a:Nat}{w:World}{e:j}{D:XN}(f:w.heap[a]? =some (.cells n g H))(h:P.rep w D e n.toList)(i:bytes<=1000):Row P bytes w (λb=>b=a\/D b) (XM a) 1 [e]:=by
 have o:=P.len h;refine⟨rfl,by unfold aN;omega,λc p d=>?_⟩;obtain rfl:c=0:=by
  rcases c with _|c
  ·rfl
  ·simp at d
 simp at d;subst d;refine⟨a,0,n.toList,rfl,ay f,.inl rfl,λk l=>?_,P.mono h λb i=>.inr i⟩;have m:k<n.size:=by rw[<-o]at l;simpa using l
 rw[ae f (v:=n[k]) (by simp[m])];simp[m]
def Rg(j:A.OK){M:Int}(e:0<=M)(f:∀P∈A.l,P.ax<=M):A.top<=M:=by
 have:∀(b:List aj) (a:Int),a<=M->(∀P∈b,P.ax<=M)->b.foldl (λa P=>max a P.ax) a<=M:=by
  intro b
  induction b with
  |nil=>intro a c _;exact c
  |cons P b g=>
   intro a c d;refine g _ ?_ λh i=>d h (QJ _ i);have:=d P (QV ..);show max a P.ax<=M;omega
 exact this A.l 0 e f
def Iu[Decidable I](P:g3.1.Ok)(a:g4.1.Ok):(if I then g3 else g4).1.Ok:=by
 split
 ·exact P
 ·exact a
def FQ(P:c9.Ok)(d:aP e)(g:aP o)(a:∀f∈t,aP f):(aQ c9 e t o).2.Ok:=by
 have h:=zi a e;unfold aQ;dsimp only
 by_cases b:e<0\/(t.length:Int)<=e\/o<0
 ·rw[Zx b];exact zj
 rw[Zq b]
 by_cases c:eI t e=9223372036854775807\/o=9223372036854775807
 ·rw[Zx c];exact zj
 rw[Zq c];refine⟨d,?_,?_,BH a sM,P.aT,P.agg,P.field,P.op,P.arg,P.key⟩
 ·show aP (eI t e+1);unfold aP at*;omega
 ·show aP (o+1);unfold aP at*;omega
def OY(e:A.l.length<=20000000):∀a∈A.vec,aP a:=λa c=>by
 obtain⟨d,P,rfl⟩:=List.getElem_of_mem c;rw[A.bJ]at P;have b:=A.ke P;rw[Qq (by rw[A.bJ];exact P)]at b;rw[XJ b];have:=A.HG d;unfold aP;omega
def JA(P:A.OK):aP A.top:=by
 have c:=Rg P (M:=9223372036854775807) oM λa b=>by have:=(P.ok a b).ax;unfold aP at this;omega
 have d:=A.yC;unfold aP;omega
def OZ(a:c9.Ok)(P:A.OK)(b:aP e)(h:aP o)(c:A.l.length<=20000000):(lF B A c8 e o c9).1.Ok:=by
 have d:aP (max A.top o):=by
  have i:=JA P;unfold aP at*;omega
 rw[lG];refine Iu zj ?_
 cases f:A.keyed c9.key with
 |some g=>exact P.ok g (List.mem_of_find?_eq_some f)
 |none=>exact Iu zj (Iu zj (FQ a b d (OY c)))
end
section
variable {w w' w0:World} {p:Nat} {F E T:XN} {cls:Nat->Nat} {h:iO} {c:cI} {self:Int} {X:bP}
def jC.PL(P:jC c self):0<=self/\self<c.bM:=by
 have:=P.right;unfold gH within at this;simp only[QK,Zk]at this;omega
def vP(hr:bU w p F c self X)(J:Env w0 w F)(hx:c9.Ok)(hl:X.S.l.length+1<=20000000):
  ZG 13 #[XL p,qY c9] w (Ok λa3 w'=>∃e,gU w (if(bR c self X c9).1≠0 then m_ (bR c self X c9).1 else Jz (bR c self X c9).2.1) a3 w'/\bU w' p e c self (bR c self X c9).2.2/\du F w e w'):=by
 have b8:=hr;obtain⟨q,h,cls,m⟩:=hr;have u:=m.aC;have e2:=(m.Nf)
 have g6:=u p e2.1;have d4:aP self:=by have:=q.PL;have:=q.bM;unfold aP;omega
 refine jP (PA.mk λC e3 g7 e4=>PA.mk λb2 c1 g8 d5=>?_);have a1:=e3.then c1;have e5:=cT.ah m a1;have E:∀{g:World} {e:XN} {l:bP} {y:rL},y.st.cells=[]->y.Rf=[]->y.rows=[]->(∃r,g.heap[C.heap.size]? =some (.cells r 46 (0,0))/\r.size=8)->bU g p e c self l->(∀P,e P->F P\/b2.heap.size<=P)->du F w e g->(bR c self X c9).2.2=l->(if(bR c self X c9).1≠0 then m_ (bR c self X c9).1 else Jz (bR c self X c9).2.1)=y->
   vm XP 46 (XL C.heap.size) (.agg (lH y none 0 0 none 0 0 none 0 0).toArray) g λc2=>mW XP 46 (XL C.heap.size) c2 λb=>Ok (λa3 w'=>∃e,gU w (if(bR c self X c9).1≠0 then m_ (bR c self X c9).1 else Jz (bR c self X c9).2.1) a3 w'/\bU w' p e c self (bR c self X c9).2.2/\du F w e w') (.returned b) c2:=λ{g e l y} y1 y2 y3 hz b3 b4 Q hX hy=>by
  obtain⟨r,hg,e6⟩:=hz;refine aA (jL y none 0 0 none 0 0 none 0 0) hg (by rw[e6];rfl) λc2 d6 g9 e7=>au (jL y none 0 0 none 0 0 none 0 0) e7 (Ok.mk ⟨e,by rw[hy];exact gU.plain y1 y2 y3,?_,Q.af.new d6 λP a=>.inr (by have a:P=C.heap.size:=a;omega),Q.new⟩);rw[hX];refine b3.af d6 λP a f=>?_;have f:P=C.heap.size:=f;rcases b4 P a with h1|h1
  ·have:=u P h1;omega
  ·omega
 refine⟨p,0,rfl,_,ae e5.bu rfl,gW Tryz.underlying95 ⟨_,rfl,?_⟩⟩;have d7:DL w (λP=>F P/\cls P=2) h.dp h.lp X.D X.log:=m.at' 2;obtain⟨hS,R,hn⟩:=(show cu w h.sp (λP=>F P/\cls P=3) X.S/\X.S.Cl/\X.S.n=c.bM.toNat from m.at' 3)
 cases S:X.log with
 |none=>
  obtain⟨Fd,-,-,h3⟩:=d7;rw[S]at h3;have h3:h.lp=none:=h3;rw[h3];refine an.tt rfl ?_;have n:bR c self X c9=(15,(0,0),X):=by unfold bR;rw[S]
  exact E (y:=m_ 15) rfl rfl rfl ⟨_,d5,rfl⟩ (b8.ah a1) (λP a=>.inl a) ⟨ai.af a1,λP a=>.inl a⟩ (by rw[n]) (by rw[n];rfl)
 |some f3=>
 obtain⟨f8,a4,c3,-⟩:=DL.OW (S▸d7) (J.sub λP a=>a.1) λP a=>u P a.1;rw[a4];refine an.ff rfl λe8 e9=>⟨λ_=>False,?_⟩
 have b5:ai b2 e8:=e9.af;have a2:=a1.then b5;have c4:=cT.ah m a2;refine⟨p,0,rfl,id,_,_,_,_,_,_,ae c4.bu rfl,ae c4.bu rfl,p,0,rfl,_,ae c4.bu rfl,PC.ok (sj (hS.ah a2) oM) ?_⟩;rintro _ h2 ⟨la,ln,lc,G,rfl,c5,K,hG⟩;have h4:=c5.len dC;have f2:=c5.aC;have T:=a2.then K;have h6:=cT.ah m T;have b9:∀{g:World},ai w g->aW g (λP=>F P/\cls P=1) c.decl h.ta h.tn h.pa h.pn:=λ{g} H=>(cT.ah m H).at' 1;refine⟨_,_,_,rfl,K,PC.ok (DH q.decl (J.oX.ah (J.gr.then T)) (b9 T) (λP a=>by have:=u P a.1;have:=T.size;omega) (c5.row dC ba) (λP a=>f2 P a) oM) ?_⟩;rintro _ I ⟨vp,Fv,rfl,hv,h7,L⟩;have M:=T.then L;have c0:=((c1.then b5).then K).then L;obtain⟨g4,f4⟩:=DU q.decl X.S.l;obtain⟨b,c6⟩:∃b,b=lF c.decl X.S (ck c.decl X.S.l) self c.start c9:=⟨_,rfl⟩
 have h8:=a2.size;have h9:=K.size;have i0:=L.size;have v:∀{g:World},ai I g->ZG 42 #[.agg #[.slice h.ta h.tn h.tc,.slice h.pa h.pn h.pc],XL h.sp,XL vp,XH self,XH c.start,qY c9] g (Ok (tP g b)):=λ{g} H=>by
  rw[c6];exact AL (J.oX.ah ((J.gr.then M).then H)) (b9 (M.then H)) (λP a=>by have:=u P a.1;have:=(M.then H).size;omega) q.decl (hS.ah (M.then H)) oM (hv.ah H) f4
   (by have:=q.start;unfold aP at this;omega) (by have:=JA R.ok;unfold aP at this;omega)
 refine⟨_,rfl,L,λU eo o no w'=>eo=0/\∃i j k G,w'.heap[U]? =some (.cells (aB b.1 i j k).toArray 55 (0,0))/\Row aJ 8 w' G i j b.1.aK/\(∀P,G P->I.heap.size<=P/\P<w'.heap.size)/\I.heap.size<=U/\o=b.2.1/\no=b.2.2/\ai I w',?_,?_⟩
 ·intro x d8
  have N:ai I x:=d8.af;have i1:x.heap.size=I.heap.size:=by rw[d8.heap]
  have d9:=M.then N;have V:=cT.ah m d9;have e0:=N.get (c0.get e4 id) id;have nS:¬x.heap.size<=p:=oM
  have f5:¬x.heap.size<=w.heap.size:=by have:=b5.size;have:=K.size;have:=L.size;omega
  refine⟨λP=>x.heap.size<=P,p,0,rfl,nS,_,_,_,_,_,_,ae V.bu rfl,ae V.bu rfl,p,0,rfl,nS,_,ae V.bu rfl,p,0,rfl,nS,_,ae V.bu rfl,p,0,rfl,nS,_,ae V.bu rfl,f5,au (AZ c9) e0 ⟨PC.ok (v N) ?_,PA.mk λi2 c7 i3 f6=>⟨ai.af c7,PC.ok (v (N.then c7)) ?_⟩⟩⟩
  ·rintro _ c8 ⟨i,j,k,G,rfl,W,s,a5⟩
   have i4:=a5.size;refine bN (pT b.1 i j k) ⟨_,_,rfl,ai.af a5,PA.mk λi5 d0 i6 f7=>⟨ai.af d0,aA (aU b.1 i j k) f7 rfl λi7 d1 i8 g0=>⟨d1.mono λP _ f=>by have f:P=c8.heap.size:=f;omega,rfl,i,j,k,G,g0,?_,λP a=>⟨by have:=s P a;omega,by have:=s P a;omega⟩,oM,rfl,rfl,?_⟩⟩⟩
   ·exact(W.ah d0).af d1 λP a f=>by have f:P=c8.heap.size:=f;have:=(s P a).2;omega
   ·exact((N.then a5).then d0).new d1 λP a=>.inr (by have a:P=c8.heap.size:=a;omega)
  ·rintro _ i9 ⟨i,j,k,G,rfl,W,s,b6⟩
   have j0:=b6.size;refine bN (pT b.1 i j k) ⟨_,_,rfl,ai.af b6,aA (aU b.1 i j k) (b6.get f6 id) rfl λj1 d2 j2 g1=>⟨d2.mono λP _ f=>by have f:P=x.heap.size:=f;omega,rfl,i,j,k,G,g1,?_,λP a=>⟨by have:=s P a;omega,by have:=s P a;omega⟩,oM,rfl,rfl,?_⟩⟩
   ·exact W.af d2 λP a f=>by have f:P=x.heap.size:=f;have:=(s P a).1;omega
   ·exact((N.then c7).then b6).new d2 λP a=>.inr (by have a:P=x.heap.size:=a;omega)
 rintro U _ o no _ O ⟨rfl,i,j,k,G2,d,W,s,j3,rfl,rfl,d3⟩;have Y:=M.then d3;have j4:=cT.ah m Y;have g5:=c0.then d3;have b0:=d3.get (L.get (K.get (b5.get d5 id) id) id) id;have a6:b.1.Ok:=by rw[c6];exact OZ hx R.ok d4 q.start oM
 have a7:∀{z:Int×(Int×Int)×bP},(if b.2.2≠0 then(b.2.2,(0,0),X)else if b.2.1 then(if(cK c X [b.1]).1≠0 then((cK c X [b.1]).1,(0,0),(cK c X [b.1]).2)else(0,aI b.1,(cK c X [b.1]).2))else(0,aI b.1,X))=z->bR c self X c9=z:=λ{z} ht=>by
  rw[<-ht,c6];unfold bR;rw[S]
 have j5:=Y.size;have f0:=ay d;refine⟨λz w'=>∃e l,bU w' p e c self l/\du F w e w'/\(∀P,e P->F P\/b2.heap.size<=P)/\w'.heap[U]? =some (.cells (aB b.1 i j k).toArray 55 (0,0))/\(∃r,w'.heap[C.heap.size]? =some (.cells r 46 (0,0))/\r.size=8)/\bR c self X c9=(if z≠0 then(z,(0,0),l)else(0,aI b.1,l)),?_,?_⟩
 ·have A:bR c self X c9=(if b.2.2≠0 then(b.2.2,(0,0),X)else(0,aI b.1,X))->∃e l,bU O p e c self l/\du F w e O/\(∀P,e P->F P\/b2.heap.size<=P)/\O.heap[U]? =some (.cells (aB b.1 i j k).toArray 55 (0,0))/\(∃r,O.heap[C.heap.size]? =some (.cells r 46 (0,0))/\r.size=8)/\bR c self X c9=(if b.2.2≠0 then(b.2.2,(0,0),l)else(0,aI b.1,l)):=λn=>
   ⟨F,X,b8.ah Y,⟨ai.af Y,λP a=>.inl a⟩,λP a=>.inl a,d,⟨_,b0,rfl⟩,n⟩
  refine an.eB (λB=>an.mk (λt=>?_) (λt=>A (a7 (by rw[Zq (by simpa using B),Zq (by simpa using t),Zq (by simpa using B)])))) (λB=>A (a7 (by rw[Zx B,Zx B])));refine⟨_,_,_,_,_,_,_,_,_,_,_,_,ae d rfl,ae d rfl,ae d rfl,ae d rfl,ae d rfl,ae d rfl,ae d rfl,ae d rfl,ae d rfl,ae d rfl,PA.mk λe1 b7 j6 g2=>?_⟩;have a9:=Y.then b7;have f1:Row gO 96 e1 (λP=>P=O.heap.size\/G2 P) (XM O.heap.size) 1 [b.1]:=row_one g2 ⟨i,j,k,rfl,W.ah b7,a6⟩ dC;refine PC.ok (FE (cT.ah m a9) q (J.ah a9) S f1 (λP a=>?_) (by simpa using hl)) ?_
  ·have g3:I.heap.size<=P/\P<e1.heap.size:=a.elim (λf=>⟨oM,oM⟩) λh5=>by have:=s P h5;omega
   exact⟨g3.2,λt=>by have:=u P t.1;omega⟩
  rintro _ j7 ⟨rfl,h',e,Z,a8,a0,-⟩;refine⟨_,rfl,e,(cK c X [b.1]).2,⟨q,h',Z,a8⟩,⟨(ai.af a9).then a0.af,λP a=>(a0.new P a).imp id λh1=>oM⟩,λP a=>(a0.new P a).imp id λh1=>by have:=c1.size;omega,a0.af.get (b7.get d id) λt=>by have:=u _ t;omega,⟨_,a0.af.get (b7.get b0 id) λt=>by have:=u _ t;omega,rfl⟩,?_⟩;exact a7 (by rw[Zq (by simpa using B),Zx t])
 ·rintro z _ j8 ⟨e,l,b3,Q,b4,b1,hz,n⟩
  refine an.dR (λc3=>?_) (λB=>⟨_,_,ae b1 rfl,ae b1 rfl,?_⟩)
  ·rw[Zx c3]at n
   exact E (y:=m_ z) rfl rfl rfl hz b3 b4 Q (by rw[n]) (by rw[n];exact Zx c3)
  ·rw[Zq (by simpa using B)]at n
   exact E (y:=Jz (aI b.1)) rfl rfl rfl hz b3 b4 Q (by rw[n]) (by rw[n];rfl)
end
def eP(d:World)(e:XN)(h:List di)(i:Value)(b:World):Prop:=
 ∃(a:ZH) (f g:Nat) (c:List DG) (D:XN),i= .slice a f g/\aO OT 60 (λP=>aE a=some P) b a f g c/\c.map (·.m)=h/\(∀P∈c,P.In b D)/\(∀P,D P->d.heap.size<=P/\P<b.heap.size/\aE a≠some P/\¬e P)/\∀P,aE a=some P->d.heap.size<=P/\¬e P
section
variable {w w' w0 w1:World} {p:Nat} {F E T Z:XN} {cls:Nat->Nat} {h:iO} {c:cI} {self:Int} {X:bP} {ms:List di} {v:Value}
def bf.out(f:bf w1 ms v w')(d:∀P,Z P->P<w1.heap.size)(o:w.heap.size<=w1.heap.size):eP w Z ms v w':=by
 obtain⟨g,h,i,j,D,k,l,m,n,b,e,p⟩:=f;exact⟨g,h,i,j,D,k,l,m,n,λP a=>⟨by have:=(b P a).1;omega,(b P a).2.1,(b P a).2.2,λc=>by have:=d P c;have:=(b P a).1;omega⟩,λP a=>⟨by have:=e P a;omega,λc=>by have:=d P c;have:=e P a;omega⟩⟩
def eP.nil(w0 w:World)(Z:XN):eP w0 Z [] (.slice none 0 0) w:=⟨none,0,0,[],λ_=>False,rfl,(aO.nil w).mono (λa P=>P.elim) (λa P=>(by cases P)),rfl,sM,λa P=>P.elim,λa P=>(by cases P)⟩
def bf.one{m:di}{va c:ZH}{vn vc d e b:Nat}{D:XN}(g:w.heap[b]? =some (.cells (cM m va vn vc c d e).toArray 60 (0,0)))(i:(⟨m,va,vn,vc,c,d,e⟩:DG).In w D)(f:∀a,D a->w0.heap.size<=a/\a<w.heap.size/\a≠b)(k:w0.heap.size<=b)(j:ai w0 w):
  bf w0 [m] (.slice (XM b) 1 1) w:=by
 have l:=ay g;refine⟨XM b,1,1,[⟨m,va,vn,vc,c,d,e⟩],D,rfl,⟨⟨cM m va vn vc c d e,λ_=>False,Own.ub g rfl (by unfold maxLen;omega),bA.one ⟨rfl,trivial⟩,λa P=>P.elim⟩,λa P=>P,λa P=>?_⟩,rfl,λa P=>?_,λa P=>⟨(f a P).1,(f a P).2.1,λh=>?_⟩,λa P=>?_,j⟩
 ·simp only[aE,Q1]at P;omega
 ·simp at P;subst P;exact i
 ·simp only[aE,Q1]at h;exact(f a P).2.2 h.symm
 ·simp only[aE,Q1]at P;omega
def Dd(q:bU w p F c self X)(A:aP e):
  ZG 55 #[XL p,XH e,XH o] w (Ok λv w'=>∃P,eP w P (gG c self X e o).1 v w'/\bU w' p P c self (gG c self X e o).2/\du F w P w'):=by
 have B:=q;obtain⟨C,h,cls,d⟩:=q;have no:(e<0\/e>=c.bM\/e=self)->Ok (λv w'=>∃P,eP w P (gG c self X e o).1 v w'/\bU w' p P c self (gG c self X e o).2/\du F w P w') (.returned (.slice none 0 0)) w:=λj=>by
  have:gG c self X e o=([],X):=by unfold gG;rw[Zx j]
  rw[this];exact Ok.mk ⟨F,eP.nil _ _ _,B,du.refl _ _⟩
 refine jr (an.dec (λk=>no (.inl k)) (λk=>⟨p,0,rfl,_,ae d.bu rfl,an.dec (λl=>no (.inr (.inl l))) (λl=>⟨p,0,rfl,_,ae d.bu rfl,an.eB (λm=>no (.inr (.inr m))) (λm=>⟨p,0,rfl,_,ae d.bu rfl,?_⟩)⟩)⟩));have E:gG c self X e o=([pL X.S self e],{X with kZ:={X.kZ with asked:=aG X.kZ.asked e o}}):=by unfold gG;rw[Zq (by rintro(h|h|h);exact k h;exact l h;exact m h)]
 refine PC.ok (FR (d.at' 6) A) ?_;rintro _ r ⟨rfl,H,s⟩;have I:cT r F cls p h c self {X with kZ:={X.kZ with asked:=aG X.kZ.asked e o}}:=bB.same d cf (k:=6) s H λt G J j=>by
  rcases t with _|_|_|_|_|_|_|t<;>first|exact j|exact Zz rfl J
 refine⟨rfl,λn K=>?_⟩;have u:ai r n:=K.af;have b:=cT.ah I u;refine⟨p,0,rfl,_,ae b.bu rfl,p,0,rfl,_,ae b.bu rfl,PC.ok (Fu (b.at' 3).1) ?_⟩;rintro _ L ⟨S,T,U,G,rfl,x,M,g⟩;have y:=x.aC;have N:=g.size;refine⟨_,_,_,_,_,_,_,_,_,rfl,PA.mk λO i V Q=>?_⟩;rw[E];have R:bf n [pL X.S self e] (.slice (XM L.heap.size) 1 1) O:=bf.one (D:=G) Q ⟨(x.ah i).row dC (by show X.S.vec.length*8<=aN;rw[X.S.bJ];have:=(b.at' 3).1.1.n;have:X.S.n<=64:=this;unfold aN;omega),dO _ _⟩ (λf a=>⟨M f a,by have:=y f a;omega,by have:=y f a;omega⟩) N (g.then i);have z:ak F w n:=(s.mono λf _ a=>a.1).ah u;exact Ok.mk ⟨F,R.out b.aC z.size,⟨C,h,cls,cT.ah b (g.then i)⟩,(z.ah g).ah i,λf a=>.inl a⟩
def O_(a:bU w p F c self X):ZG 23 #[XL p] w (Ok (nX aJ 3 w X.S.vec)):=by
 obtain⟨g,h,cls,P⟩:=a;refine nw ⟨p,0,rfl,_,ae P.bu rfl,PC.ok (jV (P.at' 3).1) ?_⟩;rintro _ i ⟨b,d,e,G,rfl,f⟩;exact⟨_,_,_,rfl,Ok.mk ⟨b,d,e,G,rfl,f⟩⟩
def zl(b:bU w p F c self X)(P:X.S.l.length<=20000000):ZG 14 #[XL p] w (Ok (nX gO 55 w X.S.l)):=by
 obtain⟨g,h,cls,a⟩:=b;refine ks ⟨p,0,rfl,_,ae a.bu rfl,PC.ok (sj (a.at' 3).1 P) ?_⟩;rintro _ i ⟨d,e,f,G,rfl,P⟩;exact⟨_,_,_,rfl,Ok.mk ⟨d,e,f,G,rfl,P⟩⟩
end
def tQ{d:ar}:∀{a:List aj} {e:aj} {S':ar} {l':List aj},cV d a=some (e,S',l')->l'.length+1=a.length
 |[],e,S',l',P=>by simp[cV]at P
 |x::a,e,S',l',P=>by
  unfold cV at P;split at P
  ·simp only[Q1,Prod.mk.injEq]at P
   obtain⟨-,-,rfl⟩:=P;rfl
  ·cases b:cV d a with
   |none=>rw[b]at P;cases P
   |some c=>
    rw[b]at P;simp only[Option.map_some,Q1,Prod.mk.injEq]at P;obtain⟨rfl,rfl,rfl⟩:=P;have:=tQ (e:=c.1) (S':=c.2.1) (l':=c.2.2) b;simp only[Xq];omega
def tR:∀(k:Nat) (b:ar) (a P:List aj),(dh k b a P).1.length+(dh k b a P).2.length=P.length+a.length
 |0,b,a,P=>rfl
 |k+1,b,a,P=>by
  unfold dh
  cases f:cV b a with
  |none=>rfl
  |some g=>
   obtain⟨c,d,e⟩:=g;have i:=tQ f;have h:=tR k d e (P++[c]);show(dh k d e (P++[c])).1.length+(dh k d e (P++[c])).2.length=_;rw[h,QX,List.length_singleton];omega
def tS(a:ar)(P:List aj):(bl a P).1.length+(bl a P).2.length<=P.length:=by
 unfold bl;dsimp only;rw[tR];have:=List.length_filter_le (λb=>(a.get (aI b)).isNone) P;simp only[ZQ];omega
structure Ds (w:World) (wp most:Nat) (M0 D0 E:XN) (s:Nat) (S:ar) (b:List aj) (oa:ZH) (on oc:Nat) (Lo:List (Bx aj)) (w1:World) (M Db Fs Do:XN):Prop where
 buf:fO w1 wp M Db most b
 set:cu w1 s Fs S
 JT:∀x∈Lo,nN.In w1 Do x
 out:aO nN.iX 55 (λb=>aE oa=some b) w1 oa on oc Lo
 nM:∀b,M b->(M0 b\/w.heap.size<=b)/\¬Fs b
 nD:∀b,Db b->(D0 b\/w.heap.size<=b)/\¬Fs b
 nF:∀b,Fs b->w.heap.size<=b
 nO:∀b,Do b->(E b\/D0 b\/w.heap.size<=b)/\b<w1.heap.size/\¬M b/\¬Fs b
 nA:∀b,aE oa=some b->w.heap.size<=b/\¬M b/\¬Fs b/\¬Do b/\¬Db b
 af:ak M0 w w1
 cl:S.Cl
section
variable {w w' w0 w1 w2:World} {p wp most s on oc:Nat} {F E T Z M0 D0 M Db Fs Do:XN} {cls:Nat->Nat} {h:iO} {c:cI} {self:Int} {X:bP} {S:ar} {b:List aj} {oa:ZH} {Lo:List (Bx aj)}
def fO.Ng(P:fO w p M Db most b):∀b,M b->b<w.heap.size:=by obtain⟨-,d,e,c,f,a⟩:=P;exact a.dM
def fO.FT(P:fO w p M Db most b):∀b,Db b->b<w.heap.size/\¬M b:=by obtain⟨-,d,e,c,f,a⟩:=P;exact a.dD
def Ds.ah(P:Ds w wp most M0 D0 E s S b oa on oc Lo w1 M Db Fs Do)(a:ai w1 w2):Ds w wp most M0 D0 E s S b oa on oc Lo w2 M Db Fs Do:=
 ⟨P.buf.ah a,P.set.ah a,λd e=>(P.JT d e).af a λ_ _ h=>h,P.out.ah a,P.nM,P.nD,P.nF,λb c=>⟨(P.nO b c).1,by have:=(P.nO b c).2.1;have:=a.size;omega,(P.nO b c).2.2⟩,P.nA,P.af.ah a,P.cl⟩
def Ds.add(a:Ds w wp most M0 D0 E s S b oa on oc Lo w1 M Db Fs Do){i n:Nat}(o:Row aJ 8 w1 f d i l.aK)(p:∀b,f b->b<w1.heap.size/\¬Fs b)(j:l.Ok)(y:S.l.length<=20000000):
  ZG 75 #[XL s,iP l d i n] w1 (Ok λk w'=>k= XH (S.add l).1/\∃g,Ds w wp most M0 D0 E s (S.add l).2 b oa on oc Lo w' M Db g Do/\ak Fs w1 w'/\∀b,g b->Fs b\/w1.heap.size<=b):=by
 refine(si a.set o p j oM).mono ?_;rintro _ w2 ⟨k,rfl,rfl,m,q,c⟩;have r:=a.buf.Ng;have t:=a.buf.FT;have z:=a.af.size;have e:∀b,b<w1.heap.size->¬Fs b->¬m b:=λb A u h=>(c.new b h).elim u oM;refine Ok.mk ⟨rfl,m,⟨a.buf.af c.af (λb P=>(a.nM b P).2) λb P=>(a.nD b P).2,q,λv x=>(a.JT v x).af c.af λb P=>(a.nO b P).2.2.2,a.out.af c.af λb P=>(a.nA b P).2.2.1,λb P=>⟨(a.nM b P).1,e b (r b P) (a.nM b P).2⟩,λb P=>⟨(a.nD b P).1,e b (t b P).1 (a.nD b P).2⟩,
  λb P=>(c.new b P).elim (a.nF b) λY=>oM,λb P=>⟨(a.nO b P).1,by have:=(a.nO b P).2.1;have:=c.af.size;omega,(a.nO b P).2.2.1,e b (a.nO b P).2.1 (a.nO b P).2.2.2⟩,λb P=>⟨(a.nA b P).1,(a.nA b P).2.1,e b (a.out.aC b P) (a.nA b P).2.2.1,(a.nA b P).2.2.2⟩,a.af.new c.af λb P=>.inr (a.nF b P),a.cl.add j⟩,c.af,c.new⟩
def Ds.push{r:Program}{o x:TypeId}(c:Ds w wp most M0 D0 E s S b oa on oc Lo w1 M Db Fs Do)(y:il r o 55 nN.iX.k 96){d:Bx aj}(z:nN.In w1 f d)(e:∀b,f b->(E b\/D0 b\/w.heap.size<=b)/\b<w1.heap.size/\¬M b/\¬Fs b/\aE oa≠some b){A:Nat×Nat}(B:w1.heap[a]? =some (.cells (aB d.x d.a d.n d.c).toArray 55 A))(Q:Lo.length<=1000000){t C:XR}(p:∀k n w' q,Ds w wp most M0 D0 E s S b k (on+1) n (Lo++[d]) w' M Db Fs q->ak (λb=>aE oa=some b) w1 w'->(∀b,aE k=some b->aE oa=some b\/w1.heap.size<=b)->t (.slice k (on+1) n) w'):
  aD r (Builtin.append_ #[o,o] x #[.slice oa on oc,.slice (XM a) 1 1]) w1 t C:=by
 refine dU (c:=nN.iX) (x:=d) (D:=λ_=>False) c.out y B ⟨rfl,trivial⟩ (λb P=>P.elim) ba (by unfold maxLen;omega) λk n w2 R u g F=>?_;have I:=u.alone;have v:∀b,aE k=some b->aE oa=some b\/w1.heap.size<=b:=λb P=>(F b (u.self b P)).imp id λh=>h.resolve_left id;have T:=g.size;have z1:=c.af.size;have J:=c.buf.Ng;have K:=c.buf.FT;have L:=c.set.aC;have nA:=c.nA;refine p k n w2 (λb=>Do b\/f b) ⟨c.buf.af g (λb P i=>(nA b i).2.1 P) λb P i=>(nA b i).2.2.2.2 P,c.set.af g λb P i=>(nA b i).2.2.1 P,λN l=>?_,I,c.nM,c.nD,c.nF,λb P=>?_,λb P=>?_,c.af.new g λb P=>.inr (nA b P).1,c.cl⟩ g v
 ·rcases Q6.1 l with l|l
  ·exact((c.JT N l).af g λb P i=>(nA b i).2.2.2.1 P).mono λb P=>.inl P
  ·simp at l;subst l
   exact(z.af g λb P=>(e b P).2.2.2.2).mono λb P=>.inr P
 ·rcases P with P|P
  ·exact⟨(c.nO b P).1,by have:=(c.nO b P).2.1;omega,(c.nO b P).2.2⟩
  ·exact⟨(e b P).1,by have:=(e b P).2.1;omega,(e b P).2.2.1,(e b P).2.2.2.1⟩
 ·rcases v b P with H|H
  ·exact⟨(nA b H).1,(nA b H).2.1,(nA b H).2.2.1,λm=>m.elim (nA b H).2.2.2.1 λO=>(e b O).2.2.2.2 H,(nA b H).2.2.2.2⟩
  ·exact⟨oM,λj=>by have:=J b j;omega,λj=>by have:=L b j;omega,λj=>j.elim (λm=>by have:=(c.nO b m).2.1;omega) λm=>by have:=(e b m).2.1;omega,λj=>by have:=(K b j).1;omega⟩
def Ds.wait(P:Ds w wp most M0 D0 E s S b oa on oc Lo w1 M Db Fs Do){k p:Nat}(q:Row aJ 8 w1 f d k l.aK)(r:∀b,f b->b<w1.heap.size)(t:l.Ok):
  ZG 159 #[XL wp,iP l d k p] w1 (Ok λm w'=>∃u,m= .bool u/\∃h i,Ds w wp most M0 D0 E s S (dy most b l).2 oa on oc Lo w' h i Fs Do/\ak M w1 w'):=by
 refine(GP P.buf q r t).mono ?_;rintro _ w2 ⟨m,rfl,rfl,h,v,x,g,j,n⟩;have o:=P.set.aC;have A:=P.af.size;have B:=g.size;refine Ok.mk ⟨_,rfl,h,v,⟨x,P.set.af g λb a e=>(P.nM b e).2 a,λy z=>(P.JT y z).af g λb a=>(P.nO b a).2.2.1,P.out.af g λb a=>(P.nA b a).2.1,λb a=>?_,λb a=>?_,P.nF,λb a=>⟨(P.nO b a).1,by have:=(P.nO b a).2.1;omega,λe=>?_,(P.nO b a).2.2.2⟩,λb a=>⟨(P.nA b a).1,λe=>?_,(P.nA b a).2.2.1,(P.nA b a).2.2.2.1,λe=>?_⟩,?_,P.cl⟩,g⟩
 ·rcases j b a with c|c
  ·exact P.nM b c
  ·exact⟨.inr oM,λe=>by have:=o b e;omega⟩
 ·rcases n b a with c|c
  ·exact P.nD b c
  ·exact⟨.inr oM,λe=>by have:=o b e;omega⟩
 ·rcases j b e with c|c
  ·exact(P.nO b a).2.2.1 c
  ·have:=(P.nO b a).2.1;omega
 ·rcases j b e with c|c
  ·exact(P.nA b a).2.1 c
  ·have:=P.out.aC b a;omega
 ·rcases n b e with c|c
  ·exact(P.nA b a).2.2.2.2 c
  ·have:=P.out.aC b a;omega
 ·exact P.af.new g λb a=>(P.nM b a).1
def Ds.ready(P:Ds w wp most M0 D0 E s S b oa on oc Lo w1 M Db Fs Do)(j:S.l.length<=19000000):
  ZG 160 #[XL wp,XL s] w1 (Ok λi w'=>∃c f g e,i= .slice c f g/\aO nN.iX 55 (λb=>aE c=some b) w' c f g e/\e.map (·.x)=(bl S b).1/\(∀h∈e,nN.In w' Db h)/\(∀b,aE c=some b->w1.heap.size<=b)/\
   Ds w wp most M0 D0 E s S (bl S b).2 oa on oc Lo w' M Db Fs Do/\ak M w1 w'):=by
 refine(Ca P.buf P.set P.cl j).mono ?_;rintro _ w2 ⟨i,rfl,c,f,g,e,rfl,k,l,m,n,o,d⟩;have r:=d.size;exact Ok.mk ⟨c,f,g,e,rfl,k,l,m,n,⟨o,P.set.af d λb a p=>(P.nM b p).2 a,λh q=>(P.JT h q).af d λb a=>(P.nO b a).2.2.1,P.out.af d λb a=>(P.nA b a).2.1,P.nM,P.nD,P.nF,λb a=>⟨(P.nO b a).1,by have:=(P.nO b a).2.1;omega,(P.nO b a).2.2⟩,P.nA,P.af.new d λb a=>(P.nM b a).1,P.cl⟩,d⟩
end
section
variable {w w' w0 w1 w2:World} {p wp most s on oc:Nat} {F E T Z M0 D0 M Db Fs Do:XN} {cls:Nat->Nat} {h:iO} {c:cI} {self:Int} {X:bP} {S:ar} {b:List aj} {oa:ZH} {Lo:List (Bx aj)} {evs:List aj} {ea:ZH} {en ec:Nat}
def zn(most:Nat)(P:List aj)(a:aj):(dy most P a).2.length<=P.length+1:=by
 unfold dy;split
 ·show P.length<=_;omega
 ·show(cZ a P).length<=_
  rw[(cO a P).length_eq];simp
def KT(L:cT w F cls p h c self X)(e4:jC c self)(hr:Row gO 96 w E ea en evs)(A:∀b,E b->b<w.heap.size/\¬F b)(m3:evs.length<=1000)(hl:X.S.l.length<=18000000):
  ZG 98 #[XL p,.slice ea en ec] w (Ok λf1 w'=>∃oa on oc Lo U o Do,f1= .slice oa on oc/\aO nN.iX 55 (λb=>aE oa=some b) w' oa on oc Lo/\Lo.map (·.x)=(gI c X evs).1/\(∀P∈Lo,nN.In w' Do P)/\
   cT w' U o p h c self {X with waits:=(gI c X evs).2}/\du F w U w'/\(∀b,Do b->b<w'.heap.size/\aE oa≠some b/\¬(U b/\o b=2))/\(∀b,aE oa=some b->w.heap.size<=b/\¬U b)/\(gI c X evs).1.length<=evs.length+256):=by
 obtain⟨m8,m9,n0⟩:=e4.bM;have e5:=L.aC;have i6:=L.Nf;obtain⟨hS,a0,hn⟩:=(show cu w h.sp (λb=>F b/\cls b=3) X.S/\X.S.Cl/\X.S.n=c.bM.toNat from L.at' 3)
 obtain⟨M0,D0,t,c1,a1⟩:=(show Kw w (λb=>F b/\cls b=5) h.wp c.buffer.toNat X.waits from L.at' 5)
 have f3:X.waits.length<=256:=Xx t.1.2.le t.1.1;have n1:=hr.len;refine lC (PC.ok (FP (evs:=[]) L e4 (dO w (λ_=>False)) (λb d=>d.elim) bc) ?_);rintro _ w4 ⟨s,i7,rfl,i8,b1,k4⟩;have e6:dL c X.S []=X.S:=(tr a0 hn []).trans rfl;have z4:=k4.size;have i9:(dL c X.S []).Cl:=by rw[e6];exact a0
 have j0:(dL c X.S []).l.length=X.S.l.length:=by rw[e6]
 have j1:Ds w h.wp c.buffer.toNat M0 D0 E s (dL c X.S []) X.waits none 0 0 [] w4 M0 D0 i7 (λ_=>False):=by
  have j2:=t.Ng;have e7:=t.FT;refine⟨t.ah k4,i8,sM,(aO.nil w4).mono (λb d=>d.elim) (λb d=>(by cases d)),λb d=>⟨.inl d,λj=>by have:=j2 b d;have:=b1 b j;omega⟩,λb d=>⟨.inl d,λj=>by have:=(e7 b d).1;have:=b1 b j;omega⟩,b1,λb d=>d.elim,λb d=>(by cases d),ai.af k4,i9⟩
 have B:∀{w1:World},ak M0 w w1->w1.heap[p]? =some (.cells (h.cells c self) 99 (0,0)):=λ{w1} hk=>hk.get L.bu λl=>by
  have:=(c1 p l).2;rw[i6.2]at this;cases this
 have e8:∀b,E b->¬M0 b:=λb d l=>(A b d).2 (c1 b l).1;obtain⟨C,e9⟩:∃C,C=eH c.buffer.toNat evs (dL c X.S []) [] X.waits:=⟨_,rfl⟩
 have r:gI c X evs=pq (C.2.2.length+1) C.1 C.2.1 C.2.2:=by rw[e9];rfl
 refine⟨_,rfl,λH oa on oc I w'=>∃(e:Nat) (S:ar) (b:List aj) (Lo:List (Bx aj)) (M Db Fs Do:XN),I=e/\e<=en/\H=en-e/\Ds w h.wp c.buffer.toNat M0 D0 E s S b oa on oc Lo w' M Db Fs Do/\eH c.buffer.toNat (evs.drop e) S (Lo.map (·.x)) b=C/\S.l.length<=X.S.l.length+Lo.length/\Lo.length<=e/\b.length<=256/\Lo.length+b.length<=X.waits.length+e,
  ⟨_,0,_,_,_,_,_,_,_,rfl,Qj _,rfl,j1,e9.symm,by simp[j0],sM,f3,sM⟩,?_⟩
 rintro H oa on oc _ _ f2 ⟨e,S,b,Lo,M,Db,Fs,Do,rfl,hj,rfl,j,u,V,f4,b3,f5⟩;have j3:=j.af.size;have j4:=j.out.len dC;refine an.dec (λj5=>?_) (λj6=>?_)
 ·obtain⟨P,i⟩:∃P,evs[e]? =some P:=⟨_,Qq oM⟩
  have a8:evs.drop e=P::evs.drop (e+1):=by
   rw[X4 oM]
   congr 1
   exact(Qv.1 i).2
  rw[a8]at u;obtain⟨gb,go,es,ha,j7,n3,d2,xa,xn,xc,rfl,d3,b4⟩:=(hr.af j.af e8).el e P i;refine⟨gb,go,ha,oM,oM,bq (es:=aB P xa xn xc) (k:=10) (aU _ _ _ _) rfl (λI ht=>by rw[Qx];exact d2 I ht) (PA.mk λn4 j8 n8 j9=>aA (aU P xa xn xc) j9 rfl λk0 k1 n9 f6=>au (aU P xa xn xc) f6 ?_)⟩;have a2:ai f2 k0:=j8.new k1 λb d=>.inr (by have d:b=f2.heap.size:=d;omega);have o0:=a2.size;have d4:∀b,E b->¬Fs b:=λb d l=>by have:=j.nF b l;have:=(A b d).1;omega
  refine PC.ok ((j.ah a2).add (d3.ah a2) (λb d=>⟨by have:=(A b d).1;omega,d4 b d⟩) b4 oM) ?_;rintro _ k2 ⟨rfl,N,J,a5,m4⟩;have o1:=a5.size;have b5:=j.set.aC;have v:=a5.get f6 λl=>by have:=b5 _ l;omega
  have f7:=S.wW P;have f8:eH c.buffer.toNat (P::evs.drop (e+1)) S (Lo.map (·.x)) b=if(S.add P).1=0 then eH c.buffer.toNat (evs.drop (e+1)) (S.add P).2 (Lo.map (·.x)++[P]) b else if(S.add P).1=16 then eH c.buffer.toNat (evs.drop (e+1)) S (Lo.map (·.x)) b else eH c.buffer.toNat (evs.drop (e+1)) S (Lo.map (·.x)) (dy c.buffer.toNat b P).2:=rfl
  rw[f8]at u;have a9:(S.add P).1≠0->(S.add P).2=S:=λW=>by
   rcases S.fQ P with⟨-,f⟩|⟨f,-⟩
   ·exact f
   ·rw[f]at W;exact Zz rfl W
  refine⟨_,rfl,an.eB (λq=>?_) (λq=>an.eB (λd5=>?_) (λd5=>λk3 k5=>?_))⟩
  ·rw[Zx q]at u
   have c4:(S.add P).2.l.length<=S.l.length+1:=f7;refine⟨_,_,_,_,_,_,_,_,_,_,_,_,ae v rfl,ae v rfl,ae v rfl,ae v rfl,ae v rfl,ae v rfl,ae v rfl,ae v rfl,ae v rfl,ae v rfl,PA.mk λk6 d6 o2 k7=>?_⟩;have g0:nN.In k6 E ⟨P,xa,xn,xc⟩:=⟨((d3.ah a2).af a5 λb d=>d4 b d).ah d6,b4⟩
   have g1:=J.ah d6;refine g1.push ue g0 (λb d=>⟨.inl d,by have:=(A b d).1;have:=d6.size;omega,λl=>?_,λl=>by have:=J.nF b l;have:=(A b d).1;omega,λn=>by have:=(J.nA b n).1;have:=(A b d).1;omega⟩) k7 oM λa' c' o3 O g2 m5 _=>⟨_,_,_,rfl,_,oM,e+1,_,_,_,M,Db,N,O,aq oM,oM,rfl,g2,?_,?_,?_,b3,?_⟩
   ·rcases(J.nM b l).1 with f|f
    ·exact e8 b d f
    ·have:=(A b d).1;omega
   ·rw[Q3];exact u
   ·rw[QX,List.length_singleton];omega
   ·rw[QX,List.length_singleton];omega
   ·rw[QX,List.length_singleton];omega
  ·rw[Zq q,Zx d5]at u
   rw[a9 q]at J;exact⟨_,oM,e+1,S,b,Lo,M,Db,N,Do,aq oM,oM,rfl,J,u,V,oM,b3,oM⟩
  ·rw[Zq q,Zq d5]at u
   rw[a9 q]at J;have c5:ai k2 k3:=k5.af;have c9:=J.ah c5;refine⟨p,0,rfl,_,ae (B c9.af) rfl,au (aU P xa xn xc) (c5.get v id) (PC.ok (c9.wait (((d3.ah a2).af a5 λb d=>d4 b d).ah c5) (λb d=>by have:=(A b d).1;have:=c5.size;omega) b4) ?_)⟩;rintro _ o4 ⟨I,rfl,M',b6,b7,m6⟩;have d7:=zn c.buffer.toNat b P;have g3:(dy c.buffer.toNat b P).2.length<=256:=Xx b7.buf.1.2.le b7.buf.1.1;exact⟨_,rfl,_,oM,e+1,S,_,Lo,M',b6,N,Do,aq oM,oM,rfl,b7,u,V,oM,g3,oM⟩
 have o5:e=evs.length:=oM
 rw[List.drop_eq_nil_of_le oM]at u;have d0:C=(S,Lo.map (·.x),b):=u.symm;rw[d0]at r;have b8:Lo.length+b.length<=evs.length+256:=oM
 refine⟨λH oa on oc w'=>∃(S:ar) (b:List aj) (Lo:List (Bx aj)) (M Db Fs Do:XN) (k:Nat),H=b.length/\Ds w h.wp c.buffer.toNat M0 D0 E s S b oa on oc Lo w' M Db Fs Do/\b.length<=k/\pq (k+1) S (Lo.map (·.x)) b=gI c X evs/\S.l.length<=X.S.l.length+Lo.length/\Lo.length+b.length<=evs.length+256,
  ⟨_,S,b,Lo,M,Db,Fs,Do,b.length,rfl,j,Q4 _,r.symm,V,b8⟩,?_⟩
 clear j u V f4 b3 f5 b8 j4 j3 d0 r
 rintro H oa on oc _ o6 ⟨S,b,Lo,M,Db,Fs,Do,k,rfl,j,hk,r,V,f5⟩;have o7:=j.af.size;refine⟨p,0,rfl,_,ae (B j.af) rfl,PC.ok (j.ready oM) ?_⟩;rintro _ o8 ⟨Y,n2,f9,Z,rfl,g4,d8,k8,g5,m,g6⟩;have o9:=g4.len dC;have d7:=tS S b;have g7:Z.length=(bl S b).1.length:=by rw[<-d8,Q8]
 have k9:pq (k+1) S (Lo.map (·.x)) b=if(bl S b).1=[]then(Lo.map (·.x),(bl S b).2)else pq k (dB (bl S b).1 S (Lo.map (·.x))).1 (dB (bl S b).1 S (Lo.map (·.x))).2 (bl S b).2:=rfl
 rw[k9]at r;have p0:=g6.size;refine⟨_,_,_,rfl,an.eB (λq=>?_) (λq=>?_)⟩
 ·have g8:(bl S b).1=[]:=QW oM
  rw[Zx g8]at r;rw[<-r];have hM:=m.buf.Ng;have l0:=m.buf.FT;obtain⟨U,o,b9,a3,l3,c2,-⟩:=L.ft cf (k:=5) (G':=λb=>M b\/Db b) (C2:=lS p (h.cells c self) h c {X with waits:=(bl S b).2} X.S.l) (m.af.mono λb _ d=>c1 b d)
   (λP i=>i.elim (λf=>(m.nM P f).1.imp (c1 P) id) λf=>(m.nD P f).1.imp (a1 P) id) (λP i=>i.elim (hM P) λf=>(l0 P f).1) ⟨M,Db,m.buf,λ_ h=>.inl h,λ_ h=>.inr h⟩ λe G hj hc=>by
    rcases e with _|_|_|_|_|_|_|e<;>first|exact hc|exact Zz rfl hj
  refine Ok.mk ⟨oa,on,oc,Lo,U,o,Do,rfl,m.out,rfl,m.JT,b9,a3,λP i=>⟨(m.nO P i).2.1,λn=>(m.nA P n).2.2.2.1 i,λQ=>?_⟩,λP i=>⟨(m.nA P i).1,λQ=>?_⟩,by rw[Q8];omega⟩
  ·have d9:F P/\cls P=2:=by
    have:=congrFun (c2 2 dC) P;exact this▸Q
   rcases(m.nO P i).1 with f|f|f
   ·exact(A P f).2 d9.1
   ·have:=(a1 P f).2;rw[d9.2]at this;cases this
   ·have:=e5 P d9.1;omega
  ·rcases l3 P Q with f|f
   ·have:=e5 P f.1;have:=(m.nA P i).1;omega
   ·exact f.elim (m.nA P i).2.1 (m.nA P i).2.2.2.2
 ·have W:(bl S b).1≠[]:=λn=>by rw[n,ZQ]at g7;omega
  rw[Zq W]at r;obtain⟨k',rfl⟩:∃k',k=k'+1:=⟨k-1,by
   have:0<b.length:=by
    have:=List.length_pos_iff.2 W;omega
   omega⟩
  obtain⟨av,e0⟩:∃av,av=dB (bl S b).1 S (Lo.map (·.x)):=⟨_,rfl⟩
  rw[<-e0]at r;have g9:Lo.length+Z.length+(bl S b).2.length<=evs.length+256:=oM
  obtain⟨b2,b3⟩:∃b2,b2=(bl S b).2:=⟨_,rfl⟩
  rw[<-b3]at r m g9 d7;have e7:=m.buf.FT;obtain⟨x,hR⟩:∃x,x=(bl S b).1:=⟨_,rfl⟩
  rw[<-hR]at d8 g7 d7 e0;have h0:∀a,aE Y=some a->¬Fs a/\aE oa≠some a:=λa g=>by
   have f:=g5 a g;exact⟨λl=>by have:=j.set.aC a l;omega,λn=>by have:=j.out.aC a n;omega⟩
  have p1:∀a,aE Y=some a->¬Db a:=λa g l=>by
   have f:=g5 a g;have h6:=(j.buf.FT a l).1;omega
  refine⟨λH oa on oc I w'=>∃(e:Nat) (S:ar) (Lo:List (Bx aj)) (Fs Do:XN),I=e/\e<=n2/\H=n2-e/\Ds w h.wp c.buffer.toNat M0 D0 E s S b2 oa on oc Lo w' M Db Fs Do/\dB (x.drop e) S (Lo.map (·.x))=av/\S.l.length<=X.S.l.length+Lo.length/\Lo.length+(n2-e)+b2.length<=evs.length+256/\aO nN.iX 55 (λb=>aE Y=some b) w' Y n2 f9 Z/\(∀P∈Z,nN.In w' Db P)/\∀a,aE Y=some a->¬Fs a/\aE oa≠some a,
   ⟨_,0,S,Lo,Fs,Do,rfl,Qj _,rfl,m,e0.symm,V,oM,g4,k8,h0⟩,?_⟩
  rintro H c3 h1 h5 _ _ h2 ⟨e,y,b0,l4,h3,rfl,hj,rfl,K,R,l5,b8,c4,h4,e2⟩;have p2:=K.af.size;have m7:=K.out.len dC;refine an.dec (λj5=>?_) (λj6=>?_)
  ·obtain⟨P,i⟩:∃P,Z[e]? =some P:=⟨_,Qq oM⟩
   have h7:x[e]? =some P.x:=by rw[<-d8,Q9,i];rfl
   have a8:x.drop e=P.x::x.drop (e+1):=by
    rw[X4 (Qv.1 h7).1]
    congr 1
    exact(Qv.1 h7).2
   have h8:dB (P.x::x.drop (e+1)) y (b0.map (·.x))=if(y.add P.x).1=0 then dB (x.drop (e+1)) (y.add P.x).2 (b0.map (·.x)++[P.x])else dB (x.drop (e+1)) (y.add P.x).2 (b0.map (·.x)):=rfl
   rw[a8,h8]at R;have d1:=h4 P (QZ i);obtain⟨gb,go,es,ha,j7,p3,d2,rfl,-⟩:=(c4.row (bytes:=96) dC ba).el e P i;refine⟨gb,go,ha,oM,oM,bq (es:=aB P.x P.a P.n P.c) (k:=10) (aU _ _ _ _) rfl (λI ht=>by rw[Qx];exact d2 I ht) (PA.mk λp4 l6 p5 l7=>aA (aU P.x P.a P.n P.c) l7 rfl λl8 l9 p6 h9=>au (aU P.x P.a P.n P.c) h9 ?_)⟩;have a4:ai h2 l8:=l6.new l9 λb d=>.inr (by have d:b=h2.heap.size:=d;omega);have p7:=a4.size;have m0:=K.buf.FT;have i0:=c4.aC;refine PC.ok ((K.ah a4).add (d1.af a4 λ_ _ h=>h).1 (λa g=>⟨by have:=(m0 a g).1;omega,(K.nD a g).2⟩) d1.2 oM) ?_;rintro _ m1 ⟨rfl,e3,T,a6,i1⟩;have p8:=a6.size;have b5:=K.set.aC;have z:=a6.get h9 λl=>by have:=b5 _ l;omega
   have f7:=y.wW P.x;have c6:=(c4.ah a4).af a6 λa g=>(e2 a g).1;have c7:∀a∈Z,nN.In m1 Db a:=λa g=>((h4 a g).af a4 λ_ _ h=>h).af a6 λc8 Q=>(K.nD c8 Q).2;have a7:∀a,aE Y=some a->¬e3 a/\aE c3≠some a:=λa g=>⟨λl=>(i1 a l).elim (e2 a g).1 λf=>by have:=i0 a g;omega,(e2 a g).2⟩
   refine⟨_,rfl,an.eB (λq=>?_) (λq=>?_)⟩
   ·rw[Zx q]at R
    refine⟨_,_,_,_,_,_,_,_,_,_,_,_,ae z rfl,ae z rfl,ae z rfl,ae z rfl,ae z rfl,ae z rfl,ae z rfl,ae z rfl,ae z rfl,ae z rfl,PA.mk λp9 c0 q0 m2=>?_⟩;have i2:=T.ah c0;have e1:=T.buf.FT;have q1:=c0.size;refine i2.push ue ((c7 P (QZ i)).af c0 λ_ _ h=>h) (λa g=>⟨.inr (T.nD a g).1,by have:=(e1 a g).1;omega,(e1 a g).2,(T.nD a g).2,λn=>(T.nA a n).2.2.2.2 g⟩) m2 oM λa' c' q2 O i3 f0 i4=>⟨_,_,_,rfl,_,oM,e+1,_,_,e3,O,aq oM,oM,rfl,i3,?_,?_,?_,(c6.ah c0).af f0 λa g n=>(a7 a g).2 n,λa g=>((c7 a g).af c0 λ_ _ h=>h).af f0 λc8 Q n=>(T.nA c8 n).2.2.2.2 Q,λa g=>⟨(a7 a g).1,λn=>?_⟩⟩
    ·rw[Q3];exact R
    ·rw[QX,List.length_singleton];omega
    ·rw[QX,List.length_singleton];omega
    ·rcases i4 a n with f|f
     ·exact(a7 a g).2 f
     ·have:=c6.aC a g;omega
   ·rw[Zq q]at R
    have a9:(y.add P.x).2.l.length<=y.l.length:=by
     rcases y.fQ P.x with⟨-,f⟩|⟨f,-⟩
     ·rw[f];exact Q4 _
     ·rw[f]at q;exact Zz rfl q
    exact⟨_,oM,e+1,_,b0,e3,h3,aq oM,oM,rfl,T,R,oM,oM,c6,c7,a7⟩
  ·rw[List.drop_eq_nil_of_le oM]at R
   have i5:av=(y,b0.map (·.x)):=R.symm;rw[i5]at r;have q3:0<x.length:=by have:=List.length_pos_iff.2 W;rw[<-hR]at this;exact this
   exact⟨b2.length,oM,y,b2,b0,M,Db,l4,h3,k',rfl,K,oM,r,l5,oM⟩
end
section
variable {w w' w0 w1 w2:World} {p:Nat} {F E Dv:XN} {cls:Nat->Nat} {h:iO} {c:cI} {self:Int} {X:bP} {m:di} {va ea:ZH} {vn vc en ec:Nat}
def KS(hr:bU w p F c self X)(he:Env w0 w F){V:dS}(a6:X.log=some V)(c3:Row gO 96 w E ea en m.events)(N:∀P,E P->P<w.heap.size/\¬F P)(a7:m.events.length<=1000)(hl:X.S.l.length<=18000000):
  ZG 46 #[XL p,mC m va vn vc ea en ec] w (Ok λa5 w'=>∃O e,a5= .tuple #[O,XH (jG c self X m).2.1]/\eP w e (jG c self X m).1 O w'/\bU w' p e c self (jG c self X m).2.2/\du F w e w'):=by
 obtain⟨g,h,cls,Q⟩:=hr;have R:=Q.aC;refine lA (PA.mk λS q s8 T=>?_);obtain⟨a,U⟩:∃a,a=gI c X m.events:=⟨_,rfl⟩
 have y:∀{z},(if a.1=[]then([wS X.S self m.bF],0,{X with waits:=a.2})else
   if(cK c {X with waits:=a.2} a.1).1≠0 then([],(cK c {X with waits:=a.2} a.1).1,{(cK c {X with waits:=a.2} a.1).2 with waits:=[]})else([wS (cK c {X with waits:=a.2} a.1).2.S self m.bF],0,(cK c {X with waits:=a.2} a.1).2))=z->jG c self X m=z:=λ{z} d=>by rw[<-d,U];rfl
 refine⟨λw'=>∃e f,bU w' p e c self f/\du F w e w'/\(∀P,e P->F P\/S.heap.size<=P)/\w'.heap[w.heap.size]? =some (.cells (cM m va vn vc ea en ec).toArray 60 (0,0))/\jG c self X m=([wS f.S self m.bF],0,f),?_,?_⟩
 ·refine⟨_,_,_,ae T rfl,PC.ok (KT (cT.ah Q q) g (c3.ah q) (λP b=>⟨by have:=(N P b).1;omega,(N P b).2⟩) a7 hl) ?_⟩
  rw[<-U];rintro _ W ⟨Y,on,oc,Lo,A,b0,Do,rfl,B,Z,c4,b2,i,r,c5,e0⟩;have hn:=B.len dC;have c6:Lo.length=a.1.length:=by rw[<-Z,Q8]
  have b3:=ej.unbox B c4 λP b=>⟨(r P b).1,(r P b).2.1⟩
  rw[Ol,Z]at b3;have b4:Row gO 96 W (λP=>aE Y=some P\/Do P) Y on a.1:=b3.row dC ba;have C:du F w A W:=⟨(ai.af q).then i.af,λP b=>(i.new P b).imp id λh1=>oM⟩
  have H:∀P,A P->F P\/S.heap.size<=P:=i.new;have b5:=i.af.get T λd=>by have:=R _ d;omega
  have c7:=(he.ah q).GD i;refine⟨_,_,_,rfl,an.dec (λd9=>?_) (λhz=>?_)⟩
  rotate_left
  ·have b6:a.1=[]:=QW oM
   exact⟨A,{X with waits:=a.2},⟨g,h,b0,b2⟩,C,H,b5,y (Zx b6)⟩
  have b7:a.1≠[]:=λs=>by rw[s,ZQ]at c6;omega
  refine PC.ok (FE b2 g c7 (V:=V) a6 b4 (λP b=>b.elim (λs=>⟨B.aC P s,λd=>(c5 P s).2 d.1⟩) λd=>⟨(r P d).1,(r P d).2.2⟩) (by show X.S.l.length+_<=_;omega)) ?_;rintro _ c8 ⟨rfl,k,F2,a1,t,I,-⟩;have a0:=C.trans I;have e1:=C.af.size;refine⟨_,rfl,an.dR (λb8=>?_) (λh0=>?_)⟩
  ·obtain⟨a2,Db,b,hM,hD⟩:=(show Kw c8 (λP=>F2 P/\a1 P=5) k.wp c.buffer.toNat (cK c {X with waits:=a.2} a.1).2.waits from t.at' 5)
   refine⟨p,0,rfl,_,ae (t.at' 0).2 rfl,PC.ok (B_ b) ?_⟩;rintro _ e2 ⟨rfl,a3,c9⟩;obtain⟨F3,l,J,n,-⟩:=t.GD cf (k:=5) (G':=a2) (C2:=lS p (k.cells c self) k c {(cK c {X with waits:=a.2} a.1).2 with waits:=[]} (cK c {X with waits:=a.2} a.1).2.S.l) ⟨c9.mono λP _ b=>hM P b,λP b=>.inl (hM P b)⟩ a3.Ng ⟨a2,_,a3,λ_ h=>h,λP b=>b.elim⟩ λa4 G hj hc=>by
    rcases a4 with _|_|_|_|_|_|_|a4<;>first|exact hc|exact Zz rfl hj
   refine⟨rfl,Ok.mk ?_⟩;rw[y ((Zq b7).trans (Zx b8))];exact⟨_,F3,rfl,eP.nil _ _ _,⟨g,k,l,J⟩,a0.trans n⟩
  ·refine⟨F2,(cK c {X with waits:=a.2} a.1).2,⟨g,k,a1,t⟩,a0,λP b=>(I.new P b).elim (H P) λK=>.inr (by have:=i.af.size;omega),I.af.get b5 λd=>?_,y ((Zq b7).trans (Zq (by simpa using h0)))⟩
   rcases H _ d with K|K
   ·have:=R _ K;omega
   ·omega
 ·rintro _ d0 ⟨e,f,d1,L,e3,d2,d3⟩ b9 d4
  obtain⟨-,h',o,M⟩:=d1;have u:ai d0 b9:=d4.af;have j:=cT.ah M u;refine⟨p,0,rfl,_,ae j.bu rfl,p,0,rfl,_,ae j.bu rfl,_,ae (u.get d2 id) rfl,PC.ok (Fw (j.at' 3).1) ?_⟩;rintro _ d5 ⟨a8,n2,c2,G,rfl,c0,hG,v⟩;have c1:=c0.aC;have e4:=L.af.size;have z2:=u.size;have d6:=v.size;refine⟨_,_,_,_,_,_,_,_,_,rfl,PA.mk λd7 x e5 d8=>?_⟩;have hm:bf b9 [wS f.S self m.bF] (.slice (XM d5.heap.size) 1 1) d7:=bf.one (D:=G) d8 ⟨(c0.ah x).row dC (by show f.S.vec.length*8<=aN;rw[f.S.bJ];have:f.S.n<=64:=(j.at' 3).1.1.n;unfold aN;omega),dO _ _⟩ (λP b=>⟨hG P b,by have:=c1 P b;omega,by have:=c1 P b;omega⟩) d6 (v.then x);rw[d3];exact Ok.mk ⟨_,e,rfl,hm.out j.aC oM,⟨g,h',o,cT.ah j (v.then x)⟩,((L.af.ah u).ah v).ah x,L.new⟩
end
section
variable {w w' w0 w1 w2:World} {p:Nat} {F E Dv:XN} {cls:Nat->Nat} {h:iO} {c:cI} {self:Int} {X:bP} {m:di} {va ea:ZH} {vn vc en ec:Nat}
def jC.Ic(P:jC c self):1<=c.chunk/\c.chunk<=32:=by
 have:=P.right;unfold gH within at this;simp only[QK,Zk]at this;omega
def oZ(hr:bU w p F c self X)(he:Env w0 w F)(V:Row aJ 8 w Dv va vn m.vec)(f2:∀P,Dv P->P<w.heap.size/\¬F P)(c7:Row gO 96 w E ea en m.events)(hE:∀P,E P->P<w.heap.size/\¬F P)(hl:X.S.l.length<=18000000):
  ZG 17 #[XL p,mC m va vn vc ea en ec] w (Ok λW w'=>∃q f,W= .tuple #[q,XH (bE c self X m).2.1]/\eP w f (bE c self X m).1 q w'/\bU w' p f c self (bE c self X m).2.2/\du F w f w'):=by
 have b0:=hr;obtain⟨x,h,cls,g⟩:=hr;have I:=g.aC;obtain⟨f4,h7,h9⟩:=x.bM;have i0:=x.Ic;refine jR (PA.mk λw8 Y s8 g8=>?_);have h8:=cT.ah g Y;have no:∀{w1:World} {i:Int},ai w w1->bE c self X m=([],i,X)->Ok (λW w'=>∃q f,W= .tuple #[q,XH (bE c self X m).2.1]/\eP w f (bE c self X m).1 q w'/\bU w' p f c self (bE c self X m).2.2/\du F w f w') (.returned (.tuple #[.slice none 0 0,XH i])) w1:=λ{w1 i} J Z=>by
  rw[Z];exact Ok.mk ⟨_,F,rfl,eP.nil _ _ _,b0.ah J,ai.af J,λP a=>.inl a⟩
 refine⟨p,0,rfl,_,ae h8.bu rfl,gW Tryz.underlying95 ⟨_,rfl,?_⟩⟩;have c8:DL w (λP=>F P/\cls P=2) h.dp h.lp X.D X.log:=g.at' 2
 cases y:X.log with
 |none=>
  obtain⟨Fd,-,-,j⟩:=c8;rw[y]at j;have j:h.lp=none:=j;rw[j];exact an.tt rfl (no Y (by unfold bE;rw[y]))
 |some a8=>
 obtain⟨a9,a0,a6,-⟩:=DL.OW (y▸c8) (he.sub λP a=>a.1) λP a=>I P a.1;have K:∀{r},(if dZ m c.bM.toNat c.chunk≠0 then([],dZ m c.bM.toNat c.chunk,X)else if m.nP≠self then([],1,X)else if m.kind=3 then jG c self X m else
   if m.kind≠4 then(ko X.S self m c.chunk,0,{X with kZ:=X.kZ.wT m.bF m.vec X.S.vec})else
   if X.S.missing m.vec c.chunk=[]then([],0,{X with kZ:=X.kZ.wT m.bF m.vec X.S.vec})else([⟨3,self,m.bF,[],X.S.missing m.vec c.chunk⟩],0,{X with kZ:=X.kZ.wT m.bF m.vec X.S.vec}))=r->bE c self X m=r:=λ{r} l=>by rw[<-l];unfold bE;rw[y]
 rw[a0];refine an.ff rfl λf5 c9=>?_;have L:ai w f5:=Y.then c9.af;have d0:=cT.ah g L;have d1:=(c9.af (S:=λ_=>False)).get g8 id;refine au (lI m va vn vc ea en ec) d1 ⟨p,0,rfl,_,ae d0.bu rfl,p,0,rfl,_,ae d0.bu rfl,?_⟩;rw[f4];refine PC.ok (KM (V.ah L) (c7.ah L) oM) ?_;rintro _ i1 ⟨rfl,d2⟩;have a1:=L.then d2;have f6:=cT.ah g a1;have d3:=d2.get d1 id;refine⟨_,rfl,an.dR (λs=>no a1 (K (Zx s))) (λs=>⟨_,ae d3 rfl,p,0,rfl,_,ae f6.bu rfl,λf7 d4=>?_⟩)⟩;have k:ai w f7:=a1.then d4.af;have i2:=cT.ah g k;have b8:=(d4.af (S:=λ_=>False)).get d3 id;have b9:¬dZ m c.bM.toNat c.chunk≠0:=by simpa using s
 refine an.dR (λM=>no k (K ((Zq b9).trans (Zx M)))) (λM=>⟨_,ae b8 rfl,an.eB (λj=>?_) (λj=>λd5 d6=>?_)⟩)
 ·have Z:=K (((Zq b9).trans (Zq (by simpa using M))).trans (Zx j))
  have d7:m.events.length<=1000:=by
   have d:=s;unfold dZ at d;simp only at d;rw[Zx j]at d;split at d
   ·cases d
   ·unfold dY at d
    split at d
    ·cases d
    split at d
    ·cases d
    ·omega
  refine au (lI m va vn vc ea en ec) b8 (PC.ok (KS (b0.ah k) (he.ah k) y (c7.ah k) (λP a=>⟨by have:=(hE P a).1;have:=k.size;omega,(hE P a).2⟩) d7 hl) ?_);rintro _ i3 ⟨q,f,rfl,b1,g0,b2⟩;have g1:=b1;obtain⟨a2,n2,c2,a7,D,rfl,o2,o3,o4,o5,o6⟩:=b1;refine⟨_,_,_,_,rfl,Ok.mk ?_⟩;have f0:=k.size;rw[Z];exact⟨_,f,rfl,⟨a2,n2,c2,a7,D,rfl,o2,o3,o4,λP a=>⟨by have:=(o5 P a).1;omega,(o5 P a).2⟩,λP a=>⟨by have:=(o6 P a).1;omega,(o6 P a).2⟩⟩,g0,(ai.af k).then b2.af,λP a=>(b2.new P a).imp id λd=>oM⟩
 ·have c0:ai w d5:=k.then d6.af
  have N:=cT.ah g c0;have c1:=(d6.af (S:=λ_=>False)).get b8 id;have d8:fB d5 h.tp (λP=>F P/\cls P=6) X.kZ:=N.at' 6;have eQ:=(N.at' 3).1;have nS:¬(F p/\cls p=6):=λi=>by have:=i.2;rw[g.Nf.2]at this;cases this
  have d9:¬(F w.heap.size/\cls w.heap.size=6):=λi=>by have:=I _ i.1;omega
  refine⟨λP=>F P/\cls P=6,p,0,rfl,nS,_,ae N.bu rfl,d9,_,ae c1 rfl,d9,_,_,_,ae c1 rfl,p,0,rfl,_,ae N.bu rfl,PC.ok (jV eQ) ?_⟩;rintro _ g2 ⟨a2,n2,c2,G,rfl,e0,z,hG⟩;have hN:X.S.n<=64:=eQ.1.n;have g3:Row aJ 8 g2 G a2 n2 X.S.vec:=e0.row dC (by rw[X.S.bJ];unfold aN;omega);have i4:=c0.size;have i5:=z.size;have A:=c0.then z;refine⟨_,_,_,rfl,ai.af z,PC.ok (FG (d8.ah z) ((V.ah A).qZ) g3.qZ λ_=>fg.2 λP a l=>?_) ?_⟩
  ·have:=hG P (e0.self P a);have:=I P l.1;omega
  rintro _ c4 ⟨G6,rfl,a3,b3⟩;obtain⟨O,e,B,b,-⟩:=(cT.ah g A).GD cf (k:=6) (G':=G6) (C2:=lS p (h.cells c self) h c {X with kZ:=X.kZ.wT m.bF m.vec X.S.vec} X.S.l) b3 a3.aC a3 λa4 G hj s=>by
   rcases a4 with _|_|_|_|_|_|_|a4<;>first|exact s|exact Zz rfl hj
  have n:du F w O c4:=⟨(ai.af A).then b.af,λP a=>(b.new P a).imp id λd=>by have:=A.size;omega⟩
  have Q:=b.af.get (z.get c1 id) λl=>by have:=I _ l;omega
  have b4:=(V.ah A).af b.af λP a=>(f2 P a).2;have i6:=n.af.size;have c5:=λ{r} l=>K (r:=r) (((Zq b9).trans (Zq (by simpa using M))).trans ((Zq j).trans l));refine⟨_,rfl,b3.af,_,ae Q rfl,an.dR (λR=>λe1 g4=>?_) (λR=>λe2 g5=>?_)⟩
  ·have C:ai c4 e1:=g4.af
   have t:=cT.ah B C;have i7:=C.size;refine⟨p,0,rfl,_,ae t.bu rfl,p,0,rfl,_,ae t.bu rfl,au (lI m va vn vc ea en ec) (C.get Q id) ⟨p,0,rfl,_,ae t.bu rfl,PC.ok (FH (t.at' 3).1 (show X.S.l.length<=20000000 by omega) (b4.ah C)) ?_⟩⟩;rintro _ g6 c6;obtain⟨a5,S,c3,rfl⟩:=c6.sl;have b5:ai e1 g6:=by obtain⟨_,_,_,_,_,_,_,_,_,_,_,J⟩:=c6;exact J
   refine⟨_,_,_,rfl,Ok.mk ?_⟩;rw[c5 (Zx R)];exact⟨_,O,rfl,c6.out t.aC oM,⟨x,h,e,cT.ah t b5⟩,(n.af.ah C).ah b5,n.new⟩
  ·have o:ai c4 e2:=g5.af
   have H:=cT.ah B o;have i8:=o.size;refine⟨p,0,rfl,_,ae H.bu rfl,_,_,_,ae (o.get Q id) rfl,p,0,rfl,_,ae H.bu rfl,PC.ok (vO (H.at' 3).1 (by show X.S.l.length<=_;omega) (b4.ah o)) ?_⟩;rintro _ e3 ⟨a5,S,c3,G3,rfl,T,u,g7⟩;have e4:=T.len dC;have b6:=T.aC;have e5:=cT.ah H u;have i9:=u.size;have d7:(X.S.missing m.vec c.chunk).length<=32:=by
    unfold ar.missing;rw[Qy];omega
   change aO gO 55 G3 e3 a5 S c3 (X.S.missing m.vec c.chunk)at T
   refine⟨_,_,_,rfl,an.dec (λh6=>λe6 g9=>?_) (λhz=>Ok.mk ?_)⟩
   ·have e7:X.S.missing m.vec c.chunk≠[]:=λi=>by
     have b7:S=(X.S.missing m.vec c.chunk).length:=e4;rw[i,ZQ]at b7;omega
    have v:ai e3 e6:=g9.af;have e8:=cT.ah e5 v;have j0:=v.size;refine⟨p,0,rfl,_,ae e8.bu rfl,_,ae (v.get (u.get (o.get Q id) id) id) rfl,PA.mk λh0 U j1 h2=>Ok.mk ?_⟩;have hm:bf e2 [⟨3,self,m.bF,[],X.S.missing m.vec c.chunk⟩] (.slice (XM e6.heap.size) 1 1) h0:=bf.one (m:=⟨3,self,m.bF,[],X.S.missing m.vec c.chunk⟩) (va:=none) (vn:=0) (vc:=0) (D:=G3) h2 ⟨dO _ _,((T.ah v).ah U).row dC ba⟩ (λP a=>⟨g7 P a,by have:=b6 P a;omega,by have:=b6 P a;omega⟩) oM ((u.then v).then U);rw[c5 ((Zq (by simpa using R)).trans (Zq e7))];exact⟨_,O,rfl,hm.out H.aC oM,⟨x,h,e,cT.ah e8 U⟩,(((n.af.ah o).ah u).ah v).ah U,n.new⟩
   ·have e9:X.S.missing m.vec c.chunk=[]:=QW (by
     have b7:S=(X.S.missing m.vec c.chunk).length:=e4;omega)
    rw[c5 ((Zq (by simpa using R)).trans (Zx e9))];exact⟨_,O,rfl,eP.nil _ _ _,⟨x,h,e,e5⟩,(n.af.ah o).ah u,n.new⟩
end
section
variable {w w' w0 w1 w2:World} {p:Nat} {F E D:XN} {c:cI} {self:Int}
def dP(c:cI)(P:ZH)(tn a:Nat)(b:ZH)(d e:Nat):List Value:=[XH c.bM,XH c.u_,XH c.dq,XH c.chunk,XH c.buffer,XH c.lR,XH c.every,XH c.start,.slice P tn a,.slice b d e]
abbrev oK(c:cI)(P:ZH)(tn a:Nat)(b:ZH)(d e:Nat):Value:=.agg (dP c P tn a b d e).toArray
def oL(c:cI)(P:ZH)(tn a:Nat)(b:ZH)(d e:Nat):im XP 29 (dP c P tn a b d e)=true:=kR
def mO:ZG 70 #[XH e,XH o,XH R] w (Ok λP w'=>P= .bool (within e o R)/\w=w'):=by
 refine sv (an.dec (λa=>Ok.mk ⟨?_,rfl⟩) (λa=>Ok.mk ⟨?_,rfl⟩))
 ·simp[within];omega
 ·simp[within];omega
def KU{tn z A B:Nat}:ZG 33 #[oK c d tn z r A B,XH self] w (Ok λk w'=>k= .bool (gH c self)/\ai w w'):=by
 refine wh (PA.mk λw1 t I a=>?_);have J:∀{l m n:Int} {o:Bool->Prop} {u:List PanicEntry->XU},o (within l m n)->∃p v x,(Value.func (.func 70) #[] #[])= .func (.func p) v x/\enters XP p=true/\PC XP p (v++ #[XH l,XH m,XH n]++x) w1 (λC E=>∃(y:Bool),C= .bool y/\E=w1/\o y) u:=λ{l m n o u} q=>by
  refine⟨_,_,_,rfl,kR,PC.ok mO ?_⟩;rintro _ _ ⟨rfl,rfl⟩;exact⟨_,rfl,rfl,q⟩
 have no:gH c self=false->Ok (λk w'=>k= .bool (gH c self)/\ai w w') (.returned (.bool false)) w1:=λF=>Ok.mk ⟨by rw[F],t⟩;have b:gH c self=(within c.bM 1 64&&(within self 0 (c.bM-1)&&(within c.u_ 64 262144&&(decide (c.dq>=1)&&(decide (c.every>=1)&&(within c.chunk 1 32&&(within c.buffer 1 256&&(within c.lR 1 1048576&&decide (c.start>=0))))))))):=by
  unfold gH;simp only[Bool.and_assoc]
 refine⟨_,ae a rfl,_,_,_,rfl,kR,PC.ok mO ?_⟩;rintro _ _ ⟨rfl,rfl⟩;refine⟨_,rfl,an.mk (λP=>⟨_,ae a rfl,_,_,_,rfl,kR,PC.ok mO ?_⟩) (λP=>no (by rw[b,P];rfl))⟩;have H:IntKind.wrap .i64 (c.bM-1)=c.bM-1:=wrap_i64 (by have:=bh.1 P;unfold aP;omega);rw[H];rintro _ _ ⟨rfl,rfl⟩;refine⟨_,rfl,an.mk (λe=>⟨_,ae a rfl,_,_,_,rfl,kR,PC.ok mO ?_⟩) (λe=>no (by rw[b,P,e];rfl))⟩;rintro _ _ ⟨rfl,rfl⟩;refine⟨_,rfl,an.mk (λf=>⟨_,ae a rfl,an.mk (λg=>⟨_,ae a rfl,an.mk (λh=>⟨_,ae a rfl,_,_,_,rfl,kR,PC.ok mO ?_⟩) (λh=>no (by rw[b,P,e,f,g,h];rfl))⟩) (λg=>no (by rw[b,P,e,f,g];rfl))⟩) (λf=>no (by rw[b,P,e,f];rfl))⟩;rintro _ _ ⟨rfl,rfl⟩;refine⟨_,rfl,an.mk (λi=>⟨_,ae a rfl,_,_,_,rfl,kR,PC.ok mO ?_⟩) (λi=>no (by rw[b,P,e,f,g,h,i];rfl))⟩;rintro _ _ ⟨rfl,rfl⟩;refine⟨_,rfl,an.mk (λj=>⟨_,ae a rfl,_,_,_,rfl,kR,PC.ok mO ?_⟩) (λj=>no (by rw[b,P,e,f,g,h,i,j];rfl))⟩;rintro _ _ ⟨rfl,rfl⟩;refine⟨_,rfl,an.mk (λs=>⟨_,ae a rfl,Ok.mk ⟨by rw[b,P,e,f,g,h,i,j,s];rfl,t⟩⟩) (λs=>no (by rw[b,P,e,f,g,h,i,j,s];rfl))⟩
def Nh{P a:Nat}(b:B.types[P]? =some b9)(d:a<b9.length):B.zO (P:Int) (a:Int)=b9[a]? :=by
 have e:=(Qv.1 b).1;have c:B.at (P:Int)=b9:=by
  unfold aH.at;rw[Zx (bh.2 ⟨oM,oM⟩),Qx,QQ,b];rfl
 unfold aH.zO;rw[c,Zx (by simp only[QK,bh];exact⟨⟨oM,oM⟩,oM,oM⟩),Qx]
end
section
variable {w w' w0 w1 w2:World} {p:Nat} {F E D:XN} {c:cI} {self:Int}
def Iq{tn tc M pc:Nat}(h:aW w D B d tn r M)(hD:∀P,D P->P<w.heap.size):
  ZG 35 #[.agg #[.slice d tn tc,.slice r M pc]] w (Ok λc4 w'=>∃u Ax a2 e v k G,c4= .agg #[.slice u Ax a2,.slice e v k]/\aW w' G B u Ax e v/\(∀P,G P->w.heap.size<=P/\P<w'.heap.size)/\ai w w'):=by
 have f5:=h.aT.len;have b8:=h.aT.dE;have f6:=h.xm.len;have f7:=h.xm.dE;refine uo (PA.mk λN k4 s4 g4=>PA.mk λw5 k5 s5 g5=>⟨_,_,_,ae (k5.get g4 id) rfl,?_⟩);have x:=k4.then k5;refine wY (aO.nil (c:=tg) (e:=128) w5) Hv (h.xm.ah x) (λP a=>⟨by have:=hD P a;omega,λb=>by cases b⟩) (by rw[ZQ];unfold aN at*;omega) (by rw[ZQ];unfold aN at*;unfold maxLen;omega) λe k f Fp d1 k8 j6 d2=>⟨_,_,_,rfl,PA.mk λj7 g0 j8 g1=>PS.mk g1 sM λj9 g2 k0 g3=>PS.mk g3 sM λs g6 k1 g7=>?_⟩
 rw[List.nil_append,Xz]at d1;have a9:=d1.alone;have b9:∀P,aE e=some P->w5.heap.size<=P/\P<f.heap.size:=λP a=>⟨(d2 P a).elim False.elim id,a9.aC P a⟩
 have z8:=k8.size;have y:ai w5 f:=k8.mono λP _ b=>by cases b
 have z:ai f s:=(g0.new g2 λP a=>.inr (by have a:P=f.heap.size:=a;omega)).new g6 λP a=>.inr (by have a:P=f.heap.size:=a;omega);have b0:ai w s:=(x.then y).then z;have gp:=z.get (y.get (k5.get g4 id) id) id;have gr:=z.get (y.get g5 id) id;have b1:s.heap[f.heap.size]? =some (.cells #[.slice none 0 0,.slice e (0+M) k] 25 (0,0)):=g7;rw[Xz]at b1;have k2:=z.size;refine⟨_,_,_,ae gp rfl,λA a3 w'=>∃i:Nat,a3=i/\i<=tn/\A=tn-i/\ak (·=f.heap.size) s w'/\∃O Q oc R,w'.heap[f.heap.size]? =some (.cells #[.slice O Q oc,.slice e M k] 25 (0,0))/\aO jk 130 R w' O Q oc (B.types.take i)/\∀P,R P->s.heap.size<=P,
  ⟨_,0,rfl,Qj _,rfl,ak.refl _,none,0,0,λ_=>False,b1,aO.nil _,λ_ h=>h.elim⟩,?_⟩
 rintro A _ _ S ⟨i,rfl,hj,rfl,t,O,Q,oc,R,T,m,C⟩;have U:ai w S:=b0.new t λP a=>.inr (by have a:P=f.heap.size:=a;have:=x.size;have:=y.size;omega);have zk:=t.size;have b2:=t.get gp λb=>by have b:w.heap.size=f.heap.size:=b;have:=k4.size;omega
 refine an.dec (λk3=>?_) (λk6=>?_)
 ·have g8:i<B.types.length:=oM
  have V:B.types[i]? =some B.types[i]:=Qq g8;generalize B.types[i]=n at V;obtain⟨P,d5,es,ha,a,k7,d6,fa,fn,fc,rfl,W⟩:=(h.aT.ah U).el i n V;have c0:=d6 0 dC;have g9:jk.k=1:=rfl;rw[g9,Nat.mul_one]at c0;have h0:=W.len;have c2:=W.dE;refine⟨P,d5,ha,oM,oM,fa,fn,fc,by rw[Qx];exact c0,PA.mk λk9 h3 l0 h4=>PS.mk h4 sM λj h6 l3 h7=>PA.mk λl4 d3 l5 h8=>PS.mk h8 sM λE d4 l6 h9=>?_⟩;have p:ai S E:=((h3.new h6 λP a=>.inr (by have a:P=S.heap.size:=a;omega)).then d3).new d4 λP a=>.inr (by have a:P=j.heap.size:=a;omega);have d7:=d4.get (d3.get h7 id) oM;have e3:=p.get b2 id;have l7:=p.size;have e4:=U.then p;refine⟨_,_,_,ae d7 rfl,λA a3 w'=>∃g:Nat,a3=g/\g<=fn/\A=fn-g/\ak (·=j.heap.size) E w'/\∃F H X Y,w'.heap[j.heap.size]? =some (.cells #[.slice F H X] 130 (0,0))/\aO nq 123 Y w' F H X (n.take g)/\∀P,Y P->E.heap.size<=P,
   ⟨_,0,rfl,Qj _,rfl,ak.refl _,none,0,0,λ_=>False,h9,aO.nil _,λ_ h=>h.elim⟩,?_⟩
  rintro A _ _ d8 ⟨g,rfl,hk,rfl,q,F,H,X,Y,gx,o,I⟩;have zx:=q.size;have b3:ai w d8:=e4.new q λP a=>.inr (by have a:P=j.heap.size:=a;have:=U.size;omega);have b4:=q.get e3 λb=>by have b:w.heap.size=j.heap.size:=b;have:=ay b2;omega
  refine an.dec (λj4=>?_) (λj5=>?_)
  ·have d9:g<n.length:=oM
   have J:n[g]? =some n[g]:=Qq d9;have a4:=Nh V d9;rw[J]at a4;obtain⟨fb,fo,e6,-,-,-,-,ya,yn,yc,rfl,-,b5⟩:=(W.ah p).el g n[g] J;generalize n[g]=K at J a4 b5;refine⟨_,_,_,_,_,_,ae b4 rfl,ae b4 rfl,PC.ok (mP (h.ah b3) λP a=>by have:=hD P a;have:=b3.size;omega) ?_⟩;rw[a4];rintro _ e0 ⟨e1,Z,a0,cc,Fm,rfl,c3,e2⟩;have e8:=c3.aC;have l8:=e1.size;refine bN (FI K Z a0 cc) ⟨_,rfl,PA.mk λl9 i0 m0 i1=>aA (eF K Z a0 cc) i1 rfl λi2 i3 m1 a7=>?_⟩;have a5:ai e0 i2:=i0.new i3 λP a=>.inr (by have a:P=e0.heap.size:=a;omega);have b6:=e1.then a5;have e9:=b6.get gx id;refine⟨_,_,_,ae e9 rfl,_,_,_,_,_,_,ae a7 rfl,ae a7 rfl,ae a7 rfl,ae a7 rfl,PA.mk λi4 e5 m2 i5=>?_⟩;have a1:=b6.then e5;have f0:=(c3.ah a5).ah e5;have m3:=c3.len dC;have a8:Row fm 32 i4 Fm Z a0 K.bg:=f0.row dC (by
    obtain⟨_,_,_,_,_,_,_,_,_,_,hq,a8,_⟩:=(W.ah p).el g K J;have h1:=a8.dE;have h2:=a8.len;rw[<-h2];exact h1)
   refine dU (c:=nq) (x:=K) (o.ah a1) Mg i5 (D:=Fm) ⟨Z,a0,cc,rfl,a8,b5⟩ (λP a=>⟨by have:=e8 P a;have:=a5.size;omega,λb=>by have:=o.aC P (o.self P b);have:=e2 P a;omega⟩) (by rw[Qy];unfold aN at*;omega) (by rw[Qy];unfold aN at c2;unfold maxLen;omega) λa' c' m4 L f1 c5 c6=>⟨_,_,_,rfl,?_⟩
   have i6:¬aE F=some j.heap.size:=λb=>by have:=I _ (o.self _ b);omega
   have m5:=a1.size;have m6:=c5.size;have c:∀P,L P->E.heap.size<=P:=λP a=>by
    rcases c6 P a with l|l|l
    ·exact I P l
    ·have:=e2 P l;omega
    ·omega
   refine PS.mk (c5.get (a1.get gx id) i6) sM λm7 e7 m8 i7=>⟨_,oM,g+1,aq (by unfold aN at c2;omega),oM,rfl,((q.ah a1).new c5 λP a=>.inr (I P (o.self P a))).then e7,a',H+1,c',L,i7,?_,c⟩
   rw[Qw,J];exact f1.af e7 λP a b=>by have b:P=j.heap.size:=b;have:=c P a;omega
  ·rw[Qz oM]at o
   have i8:ak (·=j.heap.size) E d8:=q;have b7:=q.get (p.get T id) λb=>by have b:f.heap.size=j.heap.size:=b;have:=ay T;omega
   refine⟨_,_,_,ae b7 rfl,_,_,_,ae gx rfl,PA.mk λi9 c7 m9 j0=>?_⟩;have a6:ai S i9:=(p.new q λP a=>.inr (by have a:P=j.heap.size:=a;omega)).then c7;refine dU (c:=jk) (x:=n) (m.ah a6) IQ j0 (D:=Y) ⟨F,H,X,rfl,(o.ah c7).row dC (by rw[<-h0];exact c2)⟩ (λP a=>⟨by have:=o.aC P a;omega,λb=>by have:=m.aC P (m.self P b);have:=I P a;omega⟩) (by rw[Qy];unfold aN at*;omega) (by rw[Qy];unfold aN at b8;unfold maxLen;omega) λa' c' n0 L f2 c8 c6=>⟨_,_,_,rfl,?_⟩
   have j1:¬aE O=some f.heap.size:=λb=>by have:=C _ (m.self _ b);omega
   have n1:=a6.size;have n2:=c8.size;have c:∀P,L P->s.heap.size<=P:=λP a=>by
    rcases c6 P a with l|l|l
    ·exact C P l
    ·have:=I P l;omega
    ·omega
   refine PS.mk (c8.get (c7.get b7 id) j1) sM λn3 c1 n4 j2=>⟨_,oM,i+1,aq (by unfold aN at b8;omega),oM,rfl,((t.ah a6).new c8 λP a=>.inr (C P (m.self P a))).then c1,a',Q+1,c',L,j2,?_,c⟩
   rw[Qw,V];exact f2.af c1 λP a b=>by have b:P=f.heap.size:=b;have:=c P a;omega
 ·rw[Qz oM]at m
  have z5:=y.size;have f3:=t.get gr λb=>by have b:N.heap.size=f.heap.size:=b;omega
  have f8:=((a9.ah z).af t λP a b=>by have b:P=f.heap.size:=b;have:=b9 P a;omega)
  refine⟨_,_,_,_,_,_,ae T rfl,ae T rfl,PS.mk f3 sM λn8 c9 n9 j3=>PS.mk j3 sM λo0 d0 o1 f4=>⟨_,_,_,_,_,_,ae f4 rfl,ae f4 rfl,Ok.mk ⟨_,_,_,_,_,_,λP=>R P\/aE e=some P,rfl,⟨?_,?_⟩,?_,?_⟩⟩⟩
  ·exact(((m.row (bytes:=24) dC (by rw[<-f5];exact b8)).af (c9.then d0) λP a b=>by have b:P=N.heap.size:=b;have:=C P a;omega)).mono λP a=>.inl a
  ·exact(((f8.row (bytes:=40) dC (by rw[<-f6];exact f7)).af (c9.then d0) λP a b=>by have b:P=N.heap.size:=b;have:=b9 P a;omega)).mono λP a=>.inr a
  ·rintro P (a|a)
   ·have:=C P a;have:=m.aC P a;have:=x.size;have:=b0.size;omega
   ·have:=b9 P a;have:=x.size;omega
  ·exact U.new (c9.then d0) λP a=>.inr (by have a:P=N.heap.size:=a;have:=k4.size;omega)

import Derived.Test.YtjgjkeponbeekaaGreatDoorKi16
set_option maxHeartbeats 4000000
set_option linter.all false
set_option maxRecDepth 100000
open Go.IntKind renaming wrap→XG
namespace Go.Proofs
open Go.RowKit Go.Maps Go.Sort Go.Shelf
def Tryz.Uh(b:Nat):AnyZI.SortsIn Tryz.prog Tryz.xI Fence.wide b:=
 ⟨λaF P n c a d e f=>callsIn_wide.2 (AnyM.slices_Sort_int Tryz.ve aF P n c a d e f),
  λg n a=>callsIn_wide.2 (AnyM.slices_Sort_int_none Tryz.ve g n a)⟩
end Go.Proofs
namespace Go.Proofs.YtjgjkeponbeekaaGreatDoor
section
open Go.au
open Go.RowKit Go.Maps Go.Sort Go.Shelf
def ve(n:List Int):List Int:=n.mergeSort (λP a=>decide (P<=a))
variable{g2:List (Int×Value)}{a c:Nat}{C:Nat×Nat}{g:TypeId}{b:World}
def yL(w:bB b a (Value.int .i64) g2)(H:∀f∈g2,aH f.1)(x:g2.length*8<=aK)(y:b.heap[c]? =some (.cells #[.map (some a)] g C)):
  ZG 197 #[.func (.func 250) #[] #[XL c]] b
   (Ok λp z=>FY b 3 (ve (g2.map (·.1))) p z):=by
 unfold aK at x;obtain⟨d,h,I,l,J,K⟩:=w.at';have L:Tryz.prog.underlying 3=some (.int .i64):=Tryz.underlying3;have M:d.size=g2.length:=by have:=Zj List.length l;simpa using this
 have N:∀n:Int,aH n->(Lit.int .i64 n).wf=true:=λn i=>by unfold aH at i;simp[Lit.wf,IntKind.min,IntKind.max,IntKind.signed,IntKind.bits];omega
 have A:∀P∈d.toList,∃n,P.key=Value.int .i64 n/\aH n:=λP e=>by
  have O:(P.key,P.val)∈g2.map (λf=>(Value.int .i64 f.1,f.2)):=by rw[<-l];exact Xk.2 ⟨P,e,rfl⟩
  obtain⟨f,Q,R⟩:=Xk.1 O;exact⟨f.1,(Prod.mk.inj R).1.symm,H f Q⟩
 have B:∀P∈d.toList,∀n,P.key=Value.int .i64 n->aH n->WideElems.rd XP 3 (λ_=>some ((.nil:DataW Unit),[])) P=some (.int .i64 n,.nil):=λP _ n i j=>by
  simp[WideElems.rd,i,Maps.keyOf_int_mk L (N n j)]
 have S:WideElems.Fit XP 3 (λ_=>some ((.nil:DataW Unit),[])) d h:=by
  refine⟨by unfold maxLen;omega,⟨J,K,?_⟩,λP e=>?_⟩
  ·have:d.toList.map (·.key)=(g2.map (·.1)).map (Value.int .i64):=by
    have:=Zj (List.map (λq:Value×Value=>q.1)) l;simpa[Function.comp_def]using this
   rw[this];exact List.pairwise_map.2 (List.Pairwise.imp (λT=>by simpa using T) w.tidy)
  ·obtain⟨n,i,j⟩:=A P e
   exact⟨_,B P e n i j⟩
 have U:b.ownsMap XP 3 (λ_=>some ((.nil:DataW Unit),[])) a d.size (.map ((d.toList.map (WideElems.rg XP 3 (λ_=>some ((.nil:DataW Unit),[])))).foldr DataW.insert [])):=
  ⟨d,h,I,S,Q4 _,rfl⟩
 have E:Maps.size (.map ((d.toList.map (WideElems.rg XP 3 (λ_=>some ((.nil:DataW Unit),[])))).foldr DataW.insert []))=g2.length:=by
  show(List.foldr DataW.insert [] _).length=_;rw[(WideShapes.sorted_perm _).length_eq];simp[M]
 have V:(intKeys (.map ((d.toList.map (WideElems.rg XP 3 (λ_=>some ((.nil:DataW Unit),[])))).foldr DataW.insert []))).Perm (g2.map (·.1)):=by
  refine(List.Perm.map (λf:Lit×DataW Unit=>Go.intOf f.1) (WideShapes.sorted_perm _)).trans ?_;have:(d.toList.map (WideElems.rg XP 3 (λ_=>some ((.nil:DataW Unit),[])))).map (λf=>Go.intOf f.1)=g2.map (·.1):=by
   have W:d.toList.map (λP=>match P.key with| .int _ n=>n|_=>0)=g2.map (·.1):=by
    have:=Zj (List.map (λq:Value×Value=>match q.1 with| .int _ n=>n|_=>0)) l;simpa[Function.comp_def]using this
   rw[<-W,List.map_map];refine List.map_congr_left λP e=>?_;obtain⟨n,i,j⟩:=A P e;simp[WideElems.rg,B P e n i j,i,Go.intOf]
  rw[this]
 have X:SeqGives Fence.wide 1 XP 250 #[XL c] encZ (λk=>k.Perm (intKeys _)) (Maps.size _) b:=
  AnyZI.keys_gives (ρ:=Tryz.DU) {Tryz.Vn with} Fence.wide _ trivial rfl oM c a d.size _ b (ax y) (ae y rfl) U
 have Y:=AnyZI.sorted_in Tryz.Sr Fence.wide 4 trivial trivial trivial trivial rfl oM (Tryz.Uh _) (enters_of Tryz.func249 kR rfl) 250 #[XL c] trivial
  (enters_of Tryz.func250 kR rfl) _ _ (by rw[E];unfold maxLen;omega) (by rw[E];exact x) b X
 refine((callsIn_wide (n:=4)).1 Y).mono ?_;rintro P z ⟨p,k,rfl,Z,m,a5,r⟩;have F:k.mergeSort (λn a0=>decide (n<=a0))=ve (g2.map (·.1)):=mergeSort_of_perm_i (Z.trans V);have a6:k.length=(ve (g2.map (·.1))).length:=by rw[<-F];simp
 rw[F]at m;have hv:∃s t,p= .slice s k.length t:=by
  rcases m.2 with⟨rfl,h0⟩|⟨g',u,v,rfl,_⟩
  ·exact⟨none,0,by rw[h0]⟩
  ·exact⟨_,_,rfl⟩
 obtain⟨s,t,rfl⟩:=hv;refine Ok.mk ⟨s,_,t,rfl,⟨ownsRow_base_a m (Qj _)⟩,ak.Gu r,λa1 o=>?_⟩;rcases m.2 with⟨e,_⟩|⟨g',u,v,e,a7,_⟩
 ·simp only[XX]at e
  rw[e.1]at o;cases o
 ·simp only[XX]at e
  rw[e.1]at o;simp only[aF,Q1]at o;omega
end
section
open Go.au
structure jr where
 cP:Int
 asked:List (Int×Int)
 heard:List (Int×List Int)
 deriving DecidableEq
def Wz(n:Value)(P:Int):Prop:=n= XH P
def NK(d:World)(e:XN)(f:Value)(a:List Int):Prop:=
 ∃n P b,f= .slice n P b/\Own d 3 1 n P b (ints a)/\P*8<=aK/\(∀g∈a,aH g)/\∀c,aF n=some c->e c
def NK.af{S b F':XN}{a e:World}{f:Value}{g:List Int}(c:NK a b f g)(l:ak S a e)(m:∀n,b n->n<a.heap.size->(∃h,a.heap[n]? =some h/\∀i j,h≠.map i j)->¬S n)(o:∀n,b n->F' n):NK e F' f g:=by
 obtain⟨p,q,r,rfl,d,P,s,k⟩:=c;refine⟨p,q,r,rfl,d.af l (cR.2 λn P=>?_),P,s,λn P=>o n (k n P)⟩;refine m n (k n P) (d.lt P) ?_;rcases d.cases with⟨rfl,_⟩|⟨v,t,rfl,u,_⟩
 ·cases P
 ·simp only[aF,Q1]at P
  subst P;exact⟨_,u,λi j c=>by cases c⟩
structure dA (w:World) (p:Nat) (F:XN) (T:jr):Prop where
 body:∃ra rh la lh,w.heap[p]? =some (.cells #[XH T.cP,.map (some ra),.map (some rh)] 151 (0,0))/\bB w ra (Value.int .i64) la/\bB w rh (Value.int .i64) lh/\
  eW Wz la T.asked/\eW (NK w F) lh T.heard/\F ra/\F rh/\ra≠rh
 self:F p
 aB:∀b,F b->b<w.heap.size
 Iw:Tidy T.asked
 r_:∀q∈T.asked,aH q.1
variable{W l:Array Value}{K:Bool}{A:XT}{e r:Int}{h3:List (Int×List Int)}{g2:List (Int×Value)}{b0 t:List Int}{a4 h4:List PanicEntry->XU}{J:List aj}{b3:List bS}{E a c i p:Nat}{f:XN}{C:Nat×Nat}{d u:ZH}{h:Program}{L:Prop}{j:Type}{g q:TypeId}{v:Value}{b k:World}{R:aM}{d1:aU}{O o:aj}{F:aw}{b2:eu}{b5:jr}{d2:lO}
def dA.af{S e:XN}(n:dA b a e b5)(c:ak S b k)(d:∀P,e P->¬S P):dA k a e b5:=by
 obtain⟨i,j,l,m,o,p,q,r,s,g,h,t⟩:=n.body;exact⟨⟨i,j,l,m,c.get o (d _ n.self),p.af c (d _ g),q.af c (d _ h),r,s.mono λv w u=>u.af c (λP f _ _=>d P f) (λ_ n=>n),g,h,t⟩,
  n.self,λP f=>Qk (n.aB P f) c.size,n.Iw,n.r_⟩
def dA.ah(n:dA b a f b5)(P:ai b k):dA k a f b5:=n.af P λ_ _ n=>n
def kI:im XP 3 (Value.int .i64):=Uv Tryz.underlying3
def mA:lH XP 148 3 3 (XH 0):=⟨kR,kR⟩
def mH:lH XP 149 3 42 (.slice none 0 0):=⟨kR,kR⟩
def HZ:ZG 45 #[XH e] b
  (Ok λh c=>∃d f,h= XL d/\dA c d f ⟨e,[],[]⟩/\ai b c/\∀n,f n->b.heap.size<=n):=by
 refine BZ (PA.mk λi j q k=>PA.mk λl g r m=>PA.mk λo P s p=>Ok.mk ⟨l.heap.size,λn=>b.heap.size<=n/\n<o.heap.size,rfl,
  ⟨⟨b.heap.size,i.heap.size,[],[],p,bB.new (P.get (g.get k id) id),bB.new (P.get m id),trivial,trivial,oM,oM,oM⟩,oM,λn a=>a.2,by simp[Tidy],sM⟩,
  (j.ah g).ah P,λn a=>a.1⟩)
def Ih(n:dA b a f b5)(t:aH e):
  ZG 82 #[XL a,XH e,XH r] b
   (Ok λo i=>o= .tuple #[]/\dA i a f {b5 with asked:=aI b5.asked e r}/\ak f b i):=by
 obtain⟨P,u,K,v,j,p,w,x,y,q,z,s⟩:=n.body;have A:∃c d,b.heap[P]? =some (.map c d):=by obtain⟨c,d,n,_⟩:=p.at';exact⟨c,d,n⟩
 obtain⟨c,d,k⟩:=A;have B:a≠P:=by rintro rfl;rw[j]at k;cases k
 refine oT ⟨a,0,rfl,some P,ae j rfl,cV mA kI p λi C g E=>Ok.mk ⟨rfl,⟨⟨P,u,_,v,g.get j B,C,w.af g (Ne.symm s),eW.aI (R:=Wz) rfl x,?_,q,z,s⟩,n.self,?_,n.Iw.aI _ _,?_⟩,g.mono ?_⟩⟩
 ·refine y.mono λo L F=>F.af g (λl _ _ h=>?_) (λ_ n=>n)
  rintro rfl;obtain⟨M,h,H⟩:=h;rw[k]at h;cases h;exact H _ _ rfl
 ·intro l I;rw[E];exact n.aB l I
 ·intro J m
  rcases eQ m with rfl|m
  ·exact t
  ·exact n.r_ J m
 ·rintro l _ rfl;exact q
def jr.all(P:jr)(n:Int)(a:List Int):List Int:=jJ ((aE P.heard n).getD []) a
def FV(P n:List Int):Bool:=lK P n==0||lK P n==2
def jr.ends(a:jr)(n:Int)(b P:List Int):Bool:=(aE a.asked n).isSome&&FV (a.all n b) P
def jr.yK(P:jr)(n:Int)(b a:List Int):jr:=
 {P with heard:=aI P.heard n (P.all n b),asked:=if P.ends n b a then bV P.asked n else P.asked}
def Bs(a:∀b∈t,aH b)(n:Int):aH (fl t n):=by
 unfold fl;split
 ·unfold aH;omega
 ·by_cases P:n.toNat<t.length
  ·have:=a t[n.toNat] (XY P)
   simp only[List.getD,Qq P,Option.getD_some];unfold aH at*;omega
  ·have:t[n.toNat]? =none:=by simp;omega
   simp only[List.getD,this,Option.getD_none];unfold aH;omega
def DM(a:∀n∈t,aH n)(b:∀n∈b0,aH n):∀n∈jJ t b0,aH n:=by
 intro n c;obtain⟨P,_,rfl⟩:=Xk.1 c;have d:=Bs a P;have e:=Bs b P;unfold aH at*;omega
def FX(n P:List Int):(jJ n P).length=max n.length P.length:=rZ _ _ _
def dA.Sk(i:eW (NK b f) g2 h3)(n:Int):
  ∃P a c,(aE g2 n).getD (.slice none 0 0)= .slice P a c/\Ints b P a ((aE h3 n).getD [])/\a*8<=aK/\∀g,aF P=some g->f g:=by
 rcases i.aE n with⟨d,e⟩|⟨m,o,d,e,P,a,c,rfl,j,h,k,l⟩
 ·rw[d,e];exact⟨none,0,0,rfl,Ints.nil b,by simp[aK],by simp[aF]⟩
 ·rw[d,e];exact⟨P,a,c,rfl,j.ints h k,h,l⟩
def HV(n:dA b a f b5)(L:Ints b d c t)(hy:Ints b u i b0)(W:b0≠[]->oD f u):
  ZG 120 #[XL a,XH e,.slice d c p,.slice u i E] b
   (Ok λr q=>∃F',r= .bool (b5.ends e t b0)/\dA q a F' (b5.yK e t b0)/\bL f b F' q):=by
 obtain⟨o,v,F,lh,H,y,X,M,h5,Y,N,O⟩:=n.body;obtain⟨k,l,Q⟩:∃k l,b.heap[v]? =some (.map k l):=by obtain⟨k,l,n,_⟩:=X.at';exact⟨k,l,n⟩
 obtain⟨c9,d0,a6⟩:∃k l,b.heap[o]? =some (.map k l):=by obtain⟨k,l,n,_⟩:=y.at';exact⟨k,l,n⟩
 have b7:a≠v:=by rintro rfl;rw[H]at Q;cases Q
 have b8:a≠o:=by rintro rfl;rw[H]at a6;cases a6
 obtain⟨ha,hn,hc,hg,R,hB,hF⟩:=dA.Sk h5 e;refine oU ⟨a,0,rfl,some v,ae H rfl,yT mH kI X ⟨ha,hn,hc,hg,PC.ok (zY R L) ?_⟩⟩;rintro _ w1 ⟨w,z,S,rfl,Z,s,a7⟩;have b9:z=(b5.all e t).length:=by have:=Z.length;rw[iW,Nat.mul_one]at this;exact this.symm
 have a8:z*8<=aK:=by
  rw[b9];unfold jr.all;rw[FX];have:=R.len;have:=R.dP;have:=L.len;have:=L.dP;unfold aK at*;omega
 have a9:∀c0∈b5.all e t,aH c0:=DM R.Te L.Te;refine⟨w,z,S,rfl,a,0,rfl,some v,ae (s.get H id) rfl,cV mH kI (X.af s id) λh b1 A c1=>?_⟩;have I:aF w≠some v:=λj=>by have:=a7 _ j;have:=ax Q;omega
 have b2:Own h 3 1 w z S (ints (b5.all e t)):=Z.af A (cR.2 λu W=>by rintro rfl;exact I W);have c2:Ints h u i b0:=(hy.ah s).Gv A λc3 a0 hq=>by rintro rfl;exact W c3 a0 hq N
 refine PC.ok (LX (b2.ints a8 a9) c2) ?_;rintro _ _ ⟨rfl,rfl⟩;have T:h.heap[a]? =some (.cells #[XH b5.cP,.map (some o),.map (some v)] 151 (0,0)):=A.get (s.get H id) b7;have U:bB h o (Value.int .i64) F:=(y.af s id).af A O;refine⟨_,rfl,?_⟩
 let F':XN:=λP=>f P\/(b.heap.size<=P/\P<w1.heap.size)
 have a1:bL f b F' h:=⟨(s.af (S:=f)).trans A (λ_ _ n=>n) (by rintro P _ rfl;exact N),λP m=>m.imp id (·.1)⟩
 have b3:eW (NK h F') (aI lh e (.slice w z S)) (aI b5.heard e (b5.all e t)):=by
  refine eW.aI ⟨w,z,S,rfl,b2,a8,a9,λP m=>.inr ⟨a7 P m,Z.lt m⟩⟩ (h5.mono λr ys J=>?_);refine(J.af s (F':=f) (λ_ _ _ _ n=>n) (λ_ n=>n)).af A (λP _ _ g=>?_) (λ_ n=>.inl n);rintro rfl;obtain⟨c4,g,I⟩:=g;rw[s.get Q id]at g;cases g;exact I _ _ rfl
 have b4:∀P,F' P->P<h.heap.size:=λP m=>by
  rw[c1];rcases m with m|m
  ·exact Qk (n.aB P m) s.size
  ·exact m.2
 have c5:dA h a F' {b5 with heard:=aI b5.heard e (b5.all e t)}:=
  ⟨⟨o,v,F,_,T,U,b1,M,b3,.inl Y,.inl N,O⟩,.inl n.self,b4,n.Iw,n.r_⟩
 have a2:(aE F e).isSome=(aE b5.asked e).isSome:=by
  rcases M.aE e with⟨B,V⟩|⟨r,b6,B,V,_⟩<;>rw[B,V]<;>rfl
 have c6:∃P:Int,(aE F e).getD (XH 0)= XH P:=by
  rcases M.aE e with⟨B,V⟩|⟨r,b6,B,V,J⟩
  ·rw[B];exact⟨0,rfl⟩
  ·rw[B];exact⟨b6,J⟩
 obtain⟨k0,c7⟩:=c6;have no:b5.ends e t b0=false->Ok (λr q=>∃F',r= .bool (b5.ends e t b0)/\dA q a F' (b5.yK e t b0)/\bL f b F' q) (.returned (.bool false)) h:=λj=>
  Ok.mk ⟨F',by rw[j],by unfold jr.yK;rw[j];exact c5,a1⟩
 have a3:∀x,b5.ends e t b0=true->bB x o (Value.int .i64) (bV F e)->ak (·=o) h x->x.heap.size=h.heap.size->
   Ok (λr q=>∃F',r= .bool (b5.ends e t b0)/\dA q a F' (b5.yK e t b0)/\bL f b F' q) (.returned (.bool true)) x:=λx j hm C a5=>by
  obtain⟨d1,d2,c8⟩:∃k l,h.heap[o]? =some (.map k l):=by obtain⟨k,l,n,_⟩:=U.at';exact⟨k,l,n⟩
  refine Ok.mk ⟨F',by rw[j],?_,a1.af.trans C (λ_ _ n=>n) (by rintro P _ rfl;exact Y),a1.new⟩;unfold jr.yK;rw[j];refine⟨⟨o,v,_,_,C.get T b8,hm,b1.af C (Ne.symm O),M.bV,?_,.inl Y,.inl N,O⟩,.inl n.self,λP m=>by rw[a5];exact b4 P m,n.Iw.bV e,λa0 hq=>n.r_ a0 (fP hq)⟩;refine b3.mono λr ys J=>J.af C (λP _ _ g=>?_) (λ_ n=>n);rintro rfl;obtain⟨c4,g,I⟩:=g;rw[c8]at g;cases g;exact I _ _ rfl
 refine⟨λq=>h=q/\b5.ends e t b0=true,⟨a,0,rfl,some o,ae T rfl,iJ mA kI U ?_⟩,?_⟩
 rotate_left
 ·rintro _ _ ⟨rfl,j⟩
  exact⟨a,0,rfl,some o,ae T rfl,JZ mA kI U λx hm C a5=>a3 x j hm C a5⟩
 rw[c7];refine⟨k0,_,rfl,an.mk (λg=>?_) (λg=>an.mk (λh0=>an.mk (λy=>?_) (λy=>?_)) (λh0=>?_))⟩
 ·refine no ?_
  have:(aE b5.asked e).isSome=false:=by rw[<-a2];simpa using g
  simp[jr.ends,this]
 ·refine no ?_
  have w:(lK (b5.all e t) b0==0)=false:=by simpa[bne]using h0
  have K:(lK (b5.all e t) b0==2)=false:=by simpa[bne]using y
  simp[jr.ends,FV,w,K]
 ·have j:b5.ends e t b0=true:=by
   have a4:(aE b5.asked e).isSome=true:=by rw[<-a2];simpa using g
   have K:(lK (b5.all e t) b0==2)=true:=by simpa[bne]using y
   simp[jr.ends,FV,a4,K]
  exact⟨rfl,j⟩
 ·have j:b5.ends e t b0=true:=by
   have a4:(aE b5.asked e).isSome=true:=by rw[<-a2];simpa using g
   have K:(lK (b5.all e t) b0==0)=true:=by simpa[bne]using h0
   simp[jr.ends,FV,a4,K]
  exact⟨rfl,j⟩
def jr.open(n:jr):List Int:=ve (n.asked.map (·.1))
def KP(i:dA b a f b5)(c:b5.asked.length*8<=aK):
  ZG 123 #[XL a] b (Ok (FY b 3 b5.open)):=by
 obtain⟨j,C,p,E,q,r,F,d,H,I,J,K⟩:=i.body;refine pQ ⟨a,0,rfl,some j,ae q rfl,PC.ok (φ:=λs e=>s= .func (.func 250) #[] #[XL b.heap.size]/\ai b e/\e.heap.size=b.heap.size+1/\
  e.heap[b.heap.size]? =some (.cells #[.map (some j)] 148 (0,0))) (ir (PA.mk λt n k g=>Ok.mk ⟨rfl,n,k,g⟩)) ?_⟩
 rintro _ t ⟨rfl,n,k,g⟩;have u:∀P∈p,aH P.1:=by
  intro P v;have:P.1∈b5.asked.map (·.1):=by rw[<-d.keys];exact Xk.2 ⟨P,v,rfl⟩
  obtain⟨w,h,x⟩:=Xk.1 this;rw[<-x];exact i.r_ w h
 refine⟨_,rfl,PC.ok (yL (r.ah n) u (by rw[d.length];exact c) g) ?_⟩;rintro _ L ⟨l,m,o,rfl,y,z,A⟩;refine⟨l,m,o,rfl,Ok.mk ⟨l,m,o,rfl,?_,n.ah z,λB c=>by have:=A B c;omega⟩⟩;unfold jr.open;rw[<-d.keys];exact y
def HX(c:dA b a f b5):
  ZG 85 #[XL a] b (Ok λt k=>t= .tuple #[]/\dA k a f ⟨b5.cP,[],[]⟩/\ak f b k):=by
 obtain⟨e,g,C,E,d,l,m,F,H,o,p,i⟩:=c.body;obtain⟨n,P,q⟩:∃n P,b.heap[g]? =some (.map n P):=by obtain⟨n,P,c,_⟩:=m.at';exact⟨n,P,c⟩
 obtain⟨I,J,r⟩:∃n P,b.heap[e]? =some (.map n P):=by obtain⟨n,P,c,_⟩:=l.at';exact⟨n,P,c⟩
 have u:a≠g:=by rintro rfl;rw[d]at q;cases q
 have s:a≠e:=by rintro rfl;rw[d]at r;cases r
 refine oV ⟨a,0,rfl,some e,ae d rfl,HK mA l λK v h w=>⟨a,0,rfl,some g,ae (h.get d s) rfl,HK mH (m.af h (Ne.symm i)) λL x j y=>Ok.mk ⟨rfl,
  ⟨⟨e,g,[],[],j.get (h.get d s) u,v.af j i,x,trivial,trivial,o,p,i⟩,c.self,λz A=>by rw[y,w];exact c.aB z A,by simp[Tidy],sM⟩,?_⟩⟩⟩
 exact h.trans j (by rintro B _ rfl;exact o) (by rintro B _ rfl;exact p)
def fB(b P:Int)(a:List Int×List (Int×Int))(n:Int):List Int×List (Int×Int):=
 if XG .i64 (P-(aE a.2 n).getD 0)>=b then(a.1++[n],aI a.2 n P)else a
def jr.iE(n:jr)(P:Int)(a:Nat):List Int×List (Int×Int):=(n.open.take a).foldl (fB n.cP P) ([],n.asked)
def jr.due(P:jr)(n:Int):List Int:=(P.iE n P.open.length).1
def jr.Qg(n:jr)(P:Int):jr:={n with asked:=(n.iE P n.open.length).2}
def jr.KQ(P:jr)(n:Int)(b:P.open[a]? =some e):P.iE n (a+1)=fB P.cP n (P.iE n a) e:=by
 unfold jr.iE;rw[Qw,b];simp
def ND(g:dA b a f b5)(P:b5.asked.length*8<=aK):
  ZG 77 #[XL a,XH e] b
   (Ok λJ L=>∃M a4 a5,J= .slice M a4 a5/\Own L 3 1 M a4 a5 (ints (b5.due e))/\dA L a f (b5.Qg e)/\ak f b L/\∀n,aF M=some n->b.heap.size<=n):=by
 refine ru (PC.ok (KP g P) ?_);rintro _ N ⟨A,k,lc,rfl,l,s,hn⟩;have b2:∀d∈b5.open,aH d:=by
  intro d B;have:d∈b5.asked.map (·.1):=(List.mergeSort_perm _ _).mem_iff.1 B;obtain⟨t,u,rfl⟩:=Xk.1 this;exact g.r_ t u
 have O:k=b5.open.length:=by have:=l.length;rw[iW,Nat.mul_one]at this;exact this.symm
 have b3:b5.open.length=b5.asked.length:=by simp[jr.open,ve]
 have b4:k*8<=aK:=by rw[O,b3];exact P
 have hL:Ints N A k b5.open:=l.ints b4 b2;have b6:oD f A:=cR.2 λn P Q=>by have:=hn n P;have:=g.aB n Q;omega
 unfold aK at P;have d2:oD f none:=oD.none;refine⟨A,k,lc,rfl,λa6 v w R i m=>∃c:Nat,i=c/\c<=k/\a6=k-c/\Own m 3 1 v w R (ints (b5.iE e c).1)/\w<=c/\dA m a f {b5 with asked:=(b5.iE e c).2}/\ak f b m/\Ints m A k b5.open/\N.heap.size<=m.heap.size/\
   (∀n,aF v=some n->N.heap.size<=n),⟨_,0,rfl,Qj _,rfl,Own.nil _ _ _,Qj _,g.ah s,s.af,hL,Q4 _,by simp[aF]⟩,?_⟩
 rintro a6 v w R i _ m ⟨c,rfl,d3,rfl,S,d4,C,T,U,b7,p⟩;refine an.mk (λx=>?_) (λx=>?_)
 ·have x:=XV x
  obtain⟨n,V,d,rfl,d5,B,b8,hc⟩:=U.at (i:=(c:Int)) oM oM;rw[Qx]at B;have a7:=b5.KQ e B;obtain⟨ra,rh,Xd,lh,t1,t2,t3,t4,t5,t6,t7,t8⟩:=C.body;refine⟨n,V,rfl,oM,oM,d,hc,a,0,rfl,some ra,ae t1 rfl,?_⟩;have b9:(aE Xd d).getD (XH 0)= XH ((aE (b5.iE e c).2 d).getD 0):=by
   rcases t4.aE d with⟨W,X⟩|⟨J,d6,W,X,Y⟩
   ·rw[W,X];rfl
   ·rw[W,X];exact Y
  refine⟨(aE (b5.iE e c).2 d).getD 0,λc0=>?_,a,0,rfl,b5.cP,ae t1 rfl,λw3 hd=>?_⟩
  ·have:=dK mA kI (t2.af (ak.drewN (S:=λ_=>False) m c0) id) d false
   simpa[b9]using this
  have h:ai m w3:=hd.af;refine an.mk (λo=>?_) (λo=>?_)
  ·have o:=XV o
   refine PA.mk λw4 q s4 g4=>?_;refine La Ta ((S.ah h).ah q) g4 (by unfold aK at*;omega) λa' c' w5 a8 E K=>?_;refine⟨a',w+1,c',rfl,a,0,rfl,?_⟩;have c1:∀n,f n->¬(some n=aF v):=λn Q Z=>by have:=p n Z.symm;have:=g.aB n Q;have:=s.size;omega
   have y:dA w5 a f {b5 with asked:=(b5.iE e c).2}:=((C.ah h).ah q).af E c1;obtain⟨j,a0,a9,a1,a2,b0,c2,c3,c4,a3,c5,b1⟩:=y.body;refine⟨some j,ae a2 rfl,cV mA kI b0 λw6 c6 r c7=>?_⟩;obtain⟨F,H,I⟩:∃F H,w5.heap[j]? =some (.map F H):=by obtain⟨F,H,g,_⟩:=b0.at';exact⟨F,H,g⟩
   have c8:a≠j:=by rintro rfl;rw[a2]at I;cases I
   have c9:dA w6 a f {b5 with asked:=aI (b5.iE e c).2 d e}:=by
    refine⟨⟨j,a0,_,a1,r.get a2 c8,c6,c2.af r (Ne.symm b1),eW.aI (R:=Wz) rfl c3,?_,a3,c5,b1⟩,y.self,λn P=>by rw[c7];exact y.aB n P,y.Iw.aI _ _,?_⟩
    ·refine c4.mono λJ ys Y=>Y.af r (λt _ _ l=>?_) (λ_ g=>g)
     rintro rfl;obtain⟨d7,l,d0⟩:=l;rw[I]at l;cases l;exact d0 _ _ rfl
    ·intro t u
     rcases eQ u with rfl|u
     ·exact b8
     ·exact y.r_ t u
   have z:b5.iE e (c+1)=((b5.iE e c).1++[d],aI (b5.iE e c).2 d e):=by rw[a7];unfold fB;rw[Zx o]
   have d1:∀n,aF a'=some n->n≠j:=λn P=>by
    rintro rfl;exact a8.Tf I P
   refine⟨_,?_,c+1,?_,oM,rfl,?_,oM,by rw[z];exact c9,?_,?_,?_,?_⟩
   ·omega
   ·rw[wrap_i64 bc];simp
   ·rw[z];exact a8.af r (cR.2 d1)
   ·refine(((T.ah h).ah q).new E ?_).trans r (λ_ _ g=>g) (by rintro t _ rfl;exact a3)
    intro n P;right;have:=p n P.symm;have:=s.size;omega
   ·refine(((U.ah h).ah q).af E (cR.2 λn P Z=>?_)).af r (cR.2 λn P=>?_)
    ·have:=p n Z.symm;have:=l.lt P;omega
    ·rintro rfl;exact cR.1 b6 n P a3
   ·have:=h.size;have:=q.size;have:=E.size;omega
   ·intro n P
    rcases K with K|K
    ·exact p n (K▸P)
    ·rw[K]at P;cases P;have:=h.size;have:=q.size;omega
  ·have o:=Xy o
   have z:b5.iE e (c+1)=b5.iE e c:=by rw[a7];unfold fB;rw[Zq o]
   refine⟨_,?_,c+1,?_,oM,rfl,by rw[z];exact S.ah h,oM,by rw[z];exact C.ah h,T.ah h,U.ah h,Xx b7 h.size,p⟩
   ·omega
   ·rw[wrap_i64 bc];simp
 ·have x:=Xy x
  obtain rfl:c=k:=oM
  refine Ok.mk ⟨v,w,R,rfl,?_,?_,T,λn P=>Xx s.size (p n P)⟩
  ·unfold jr.due;rw[<-O];exact S
  ·unfold jr.Qg;rw[<-O];exact C
structure bQ where
 aD:Int
 uL:Int
 bN:Int
 chunk:Int
 buffer:Int
 cP:Int
 every:Int
 start:Int
 decl:aM
structure bh where
 S:aw
 D:al
 log:Option eu
 waits:List aj
 fK:jr
def eT(n:bQ)(P:Int):Bool:=
 within n.aD 1 64&&within P 0 (n.aD-1)&&within n.uL 64 262144&&decide (n.bN>=1)&&decide (n.every>=1)&&within n.chunk 1 32&&within n.buffer 1 256&&within n.cP 1 1048576&&decide (n.start>=0)
section
variable (c:bQ) (self:Int)
def ie(P:bh):Int×bh:=
 let n:=ey P.D c.bN
 if n.no≠0 then(n.no,{P with D:=n.D,log:=none,S:=⟨c.aD.toNat,[]⟩})
 else(0,{P with D:=n.D,log:=some n.V,S:=(⟨c.aD.toNat,[]⟩:aw).fw n.out})
def FK:Int×bh:=ie c ⟨⟨c.aD.toNat,[]⟩,TL c.uL.toNat,none,[],⟨c.cP,[],[]⟩⟩
def eO(n:aw)(P:List aj):aw:=(⟨c.aD.toNat,[]⟩:aw).fw (n.l++P)
def fD(P:bh)(b:List aj):Int×bh:=match P.log with
 |none=>(15,P)
 |some d=>
  let n:=bk d P.D b
  if n.1≠0 then(n.1,{P with log:=some n.2.1,D:=n.2.2})else
  let a:=n.2.2.sync n.2.1.last
  if a.1≠0 then(a.1,{P with log:=some n.2.1,D:=a.2})else
  (0,{P with log:=some n.2.1,D:=a.2,S:=eO c P.S b})
def eI(n:bh)(b:lO):Int×(Int×Int)×bh:=match n.log with
 |none=>(15,(0,0),n)
 |some _=>
  let P:=qH c.decl n.S (cm c.decl n.S.l) self c.start b
  if P.2.2≠0 then(P.2.2,(0,0),n)else
  if P.2.1 then(let a:=fD c n [P.1];if a.1≠0 then(a.1,(0,0),a.2)else(0,aW P.1,a.2))
  else(0,aW P.1,n)
def gS(P:bh)(n a:Int):List bS×bh:=
 if n<0\/n>=c.aD\/n=self then([],P)else([jQ P.S self n],{P with fK:={P.fK with asked:=aI P.fK.asked n a}})
def pI(a:bh)(n:Int):List bS×bh:=((a.fK.due n).map λP=>jQ a.S self P,{a with fK:=a.fK.Qg n})
def iF(n:Nat):List aj->aw->List aj->List aj->aw×List aj×List aj
 |[],a,P,b=>(a,P,b)
 |e::c,a,P,b=>
  if(a.add e).1=0 then iF n c (a.add e).2 (P++[e]) b
  else if(a.add e).1=16 then iF n c a P b
  else iF n c a P (eS n b e).2
def eB:List aj->aw->List aj->aw×List aj
 |[],P,n=>(P,n)
 |e::a,P,n=>if(P.add e).1=0 then eB a (P.add e).2 (n++[e])else eB a (P.add e).2 n
def vk:Nat->aw->List aj->List aj->List aj×List aj
 |0,a,n,b=>(n,b)
 |k+1,a,n,b=>
  let P:=br a b
  if P.1=[]then(n,P.2)else
  let c:=eB P.1 a n
  vk k c.1 c.2 P.2
def kN(P:bh)(a:List aj):List aj×List aj:=
 let n:=iF c.buffer.toNat a (eO c P.S []) [] P.waits
 vk (n.2.2.length+1) n.1 n.2.1 n.2.2
def nz(n:bh)(a:bS):List bS×Int×bh:=
 let b:=kN c n a.events
 let n:={n with waits:=b.2}
 if b.1=[]then([yJ n.S self a.bt],0,n)else
 let P:=fD c n b.1
 if P.1≠0 then([],P.1,{P.2 with waits:=[]})else([yJ P.2.S self a.bt],0,P.2)
def cg(n:bh)(P:bS):List bS×Int×bh:=match n.log with
 |none=>([],15,n)
 |some _=>
  let no:=fr P c.aD.toNat c.chunk
  if no≠0 then([],no,n)else
  if P.ns≠self then([],1,n)else
  if P.kind=3 then nz c self n P else
  let n:={n with fK:=n.fK.yK P.bt P.vec n.S.vec}
  if P.kind≠4 then(lr n.S self P c.chunk,0,n)else
  let a:=n.S.missing P.vec c.chunk
  if a=[]then([],0,n)else([⟨3,self,P.bt,[],a⟩],0,n)
def vI(n:bh)(P:Int):Int×bh:=ie c {n with D:=zZ (n.D.AI P),waits:=[],fK:=⟨n.fK.cP,[],[]⟩}
def fL(n:bh):Int×bh:=match n.log with
 |none=>(15,n)
 |some a=>
  let P:=ck a n.D n.S.l c.bN
  if P.no≠0 then(P.no,{n with D:=P.D})else(0,{n with D:=P.D,log:=some P.V})
end
def JO:jN:=⟨[(2,[(10,XH 0)])],[],[],[],[]⟩
def JP(i:(∃f:Nat->Int->XU,(∃P,f P 0 b)/\∀(P:Nat) (n:Int) (q:Nat->Value) (g:World),f P n g->an (decide (n<(a:Int))) ((ix_ d n a λj k=>PS g (ad j (k+Int.toNat n*5+1)) (.ii e) λl=>(ix_ d n a λm o=>PS l (ad m (o+Int.toNat n*5+2)) (.ii r) λp=>(∃h,h<P/\f h (XG .i64 (n+1)) p)))) (rt A ((.slice d a c)) g))):ZG 194 #[.ii e,.ii r,.slice d a c] b A:=DC JO Tryz.func194 rfl i
structure IK where
 m:bS
 va:ZH
 vn:Nat
 vc:Nat
 ea:ZH
 en:Nat
 ec:Nat
def MT:jt IK:=flat 5 (λn=>dw n.m n.va n.vn n.vc n.ea n.en n.ec) (λ_=>True) (λ_=>rfl) (λa b P=>by
 simp only[dw,Q2,List.not_mem_nil,or_false]at P;rcases P with rfl|rfl|rfl|rfl|rfl<;>rfl)
def IK.In(P:World)(D:XN)(n:IK):Prop:=Row aJ 8 P D n.va n.vn n.m.vec/\Row jo 96 P D n.ea n.en n.m.events
def Dg:jF XP 69 127 MT.k 72:=⟨kR,kR,dC⟩
def a_(b:World)(f:List bS)(g:Value)(a:World):Prop:=
 ∃(P:ZH) (d e:Nat) (c:List IK) (D:XN),g= .slice P d e/\aO MT 127 (λn=>aF P=some n) a P d e c/\c.map (·.m)=f/\(∀n∈c,n.In a D)/\(∀n,D n->b.heap.size<=n/\n<a.heap.size/\aF P≠some n)/\(∀n,aF P=some n->b.heap.size<=n)/\ai b a
section
variable {w w':World} {p:Nat} {F D:XN} {S:aw} {a:ZH} {n c:Nat}
def IK.In.af{n:IK}(P:n.In w D)(a:ak f w w')(b:∀n,D n->¬f n):n.In w' D:=⟨P.1.af a b,P.2.af a b⟩
def IK.In.mono{n:IK}(P:n.In w D)(a:∀n,D n->f n):n.In w f:=⟨P.1.mono a,P.2.mono a⟩
def cT{n:jt j}{bytes:Nat}(w:World)(D:XN):Row n bytes w D none 0 []:=⟨rfl,sM,λa b P=>by simp at P⟩
def a_.nil(w:World):a_ w [] (.slice none 0 0) w:=⟨none,0,0,[],λ_=>False,rfl,(aO.nil w).mono (λP n=>n.elim) (λP n=>(by cases n)),rfl,sM,λP n=>n.elim,λP n=>(by cases n),ak.refl _⟩
def a_.ah(f:a_ b b3 v w)(e:ai w w'):a_ b b3 v w':=by
 obtain⟨a,n,c,h,D,i,j,k,l,g,m,o⟩:=f;exact⟨a,n,c,h,D,i,j.ah e,k,λP d=>(l P d).af e λ_ _ f=>f,λP d=>⟨(g P d).1,by have:=e.size;have:=(g P d).2.1;omega,(g P d).2.2⟩,m,o.then e⟩
def a_.push(s:a_ b b3 (.slice a n c) w)(L:jF h g 127 MT.k 72){m:bS}{j k l o x:Nat}{E:XN}(M:(⟨m,d,j,k,u,l,o⟩:IK).In w E)(y:∀P,E P->b.heap.size<=P/\P<w.heap.size/\aF a≠some P)(N:w.heap[x]? =some (.cells (dw m d j k u l o).toArray 127 C))(V:b3.length<=1000){z O:XR}(t:∀f i w',a_ b (b3++[m]) (.slice f (n+1) i) w'->ak (λP=>aF a=some P) w w'->z (.slice f (n+1) i) w'):
  aG h (Builtin.append_ #[g,g] q #[.slice a n c,.slice (XM x) 1 1]) w z O:=by
 obtain⟨W,X,Y,v,D,Q,R,A,S,B,F,H⟩:=s
 cases Q
 have Z:v.length=b3.length:=by rw[<-A,Q8]
 refine eY (c:=MT) (x:=⟨m,d,j,k,u,l,o⟩) (D:=λ_=>False) R L N ⟨rfl,trivial⟩ (λP e=>e.elim) ba (by unfold maxLen;omega) λf i w' F' p r T=>?_;have I:∀P,aF f=some P->aF a=some P\/w.heap.size<=P:=λP e=>(T P (p.self P e)).imp id λs=>s.resolve_left id;have a0:=r.size;have z7:=H.size;refine t f i w' ⟨f,n+1,i,v++[⟨m,d,j,k,u,l,o⟩],λP=>D P\/E P,rfl,(show aO MT 127 (λP=>aF f=some P) w' f (n+1) i (v++[⟨m,d,j,k,u,l,o⟩])from p.alone),by rw[Q3,A];rfl,λP e=>?_,λP e=>?_,λP e=>?_,H.new r λP e=>.inr (F P e)⟩ r
 ·rcases Q6.1 e with e|e
  ·exact((S P e).af r λP e=>(B P e).2.2).mono λP e=>.inl e
  ·simp at e;subst e
   exact(M.af r λP e=>(y P e).2.2).mono λP e=>.inr e
 ·have J:b.heap.size<=P/\P<w.heap.size/\aF a≠some P:=e.elim (B P) (y P)
  exact⟨J.1,oM,λU=>(I P U).elim J.2.2 oM⟩
 ·rcases I P e with K|K
  ·exact F P K
  ·omega
def LZ(z:a_ b b3 (.slice a n c) w)(O:b3.length<=1000):
  ZG 194 #[XH e,XH r,.slice a n c] w (Ok λA w'=>a_ b (b3.map λm=>{m with bt:=e,ns:=r}) A w'):=by
 obtain⟨Q,R,S,d,D,B,s,x,C,o,y,E⟩:=z
 cases B
 have T:d.length=b3.length:=by rw[<-x,Q8]
 have U:=s.len dC;obtain⟨g,j⟩:∃g:IK->IK,g=λf=>{f with m:={f.m with bt:=e,ns:=r}}:=⟨_,rfl⟩
 refine JP ⟨λm h w'=>∃P:Nat,h=P/\P<=n/\m=n-P/\aO MT 127 (λf=>aF a=some f) w' a n c ((d.take P).map g++d.drop P)/\ak (λf=>aF a=some f) w w',⟨_,0,rfl,Qj _,rfl,by simpa using s,ak.refl _⟩,?_⟩;rintro m _ _ V ⟨P,rfl,W,rfl,t,p⟩;refine an.dec (λX=>?_) (λY=>?_)
 ·have q:d[P]? =some d[P]:=Qq oM
  have k:∃l,a=XM l:=by
   obtain⟨cs,D,F,-⟩:=s.body;rcases F.cases with⟨_,Z,_,_⟩|⟨l,H,rfl,_⟩
   ·omega
   ·exact⟨l,rfl⟩
  obtain⟨l,k⟩:=k;have u:((d.take P).map g++d.drop P)[P]? =some d[P]:=by
   rw[X8 be];simp[Qy,X2 (show P<=d.length by omega)]
  generalize d[P]=h at q u;have I:P<((d.take P).map g++d.drop P).length:=(Qv.1 u).1;refine⟨l,0,k,oM,oM,?_⟩;rw[Qx];refine aO.set (x':={h with m:={h.m with bt:=e}}) (j:=1) t u dC rfl k λa3 J K a4=>⟨l,0,k,oM,oM,?_⟩
  refine aO.set (x:={h with m:={h.m with bt:=e}}) (x':=g h) (j:=2) J (by rw[List.getElem?_set_self I]) dC (by rw[j];rfl) k λa5 v L a6=>⟨_,?_,P+1,aq oM,oM,rfl,?_,(p.then K).then L⟩
  ·omega
  ·rw[List.set_set]at v
   have M:((d.take P).map g++d.drop P).set P (g h)=(d.take (P+1)).map g++d.drop (P+1):=by
    have N:((d.take P).map g).length=P:=by simp;omega
    rw[Qw,q,Q3,XQ,List.set_append,Zq oM,N,Nat.sub_self,X4 (show P<d.length by omega)];rfl
   rw[M]at v;exact v
 ·obtain rfl:P=n:=oM
  rw[Qz oM,List.drop_eq_nil_of_le oM,List.append_nil]at t;refine Ok.mk ⟨a,P,c,d.map g,D,rfl,t,?_,λf i=>?_,λf i=>⟨(o f i).1,by have:=p.size;have:=(o f i).2.1;omega,(o f i).2.2⟩,y,E.new p λf i=>.inr (y f i)⟩
  ·rw[<-x,List.map_map,List.map_map,j];rfl
  ·obtain⟨h,q,rfl⟩:=Xk.1 i
   have:=(C h q).af p λf i=>(o f i).2.2;rw[j];exact this
end
section
variable {w w':World} {p:Nat} {F D E:XN} {S:aw} {m:bS} {va ea:ZH} {vn vc en ec:Nat}
def a_.Gv(d:a_ b b3 v w)(a:ai w' b):a_ w' b3 v w:=by
 obtain⟨e,f,g,h,D,i,j,k,l,c,m,o⟩:=d;have:=a.size;exact⟨e,f,g,h,D,i,j,k,l,λn P=>⟨by have:=(c n P).1;omega,(c n P).2⟩,λn P=>by have:=m n P;omega,a.then o⟩
def a_.len(n:a_ b b3 (.slice d a c) w):a=b3.length:=by
 obtain⟨g,h,i,j,D,P,e,f,-⟩:=n
 cases P
 rw[e.len dC,<-f,Q8]
def a_.sl(n:a_ b b3 v w):∃P a c,v= .slice P a c:=by
 obtain⟨e,f,g,h,D,d,-⟩:=n;exact⟨_,_,_,d⟩
def HW(h:cf w p F S)(hl:S.l.length<=20000000)(Z:Row aJ 8 w D va vn m.vec):
  ZG 121 #[XL p,XH e,gQ m va vn vc ea en ec,XH r] w (Ok (a_ w (lr S e m r))):=by
 have hS:=h.1;have hN:=hS.n;refine Cc (PA.mk λa l g0 x=>⟨λw'=>a=w'/\(m.kind=1\/m.kind=2),⟨_,ae x rfl,an.dF (λo=>⟨_,ae x rfl,an.dF (λc=>Ok.mk ?_) (λc=>⟨rfl,.inr c⟩)⟩) (λo=>⟨rfl,.inl o⟩)⟩,?_⟩)
 ·unfold lr;rw[Zx ⟨o,c⟩];exact(a_.nil a).Gv l
 rintro _ _ ⟨rfl,hk⟩;have b9:¬(m.kind≠1/\m.kind≠2):=oM
 obtain⟨s,K⟩:∃s,s=S.missing m.vec (max 1 (min r 32)):=⟨_,rfl⟩
 have b4:(if(if 32<r then 32 else r)>1 then(if 32<r then 32 else r)else 1)=max 1 (min r 32):=by split<;>split<;>omega
 obtain⟨d,E⟩:∃d:List bS,d=if 0<s.length then [⟨3,0,0,[],s⟩]else []:=⟨_,rfl⟩
 have g1:d.length<=1:=by rw[E];split<;>simp
 refine⟨λg i j w'=>a_ a d (.slice g i j) w'/\ai a w',⟨_,_,_,ae x rfl,?_⟩,?_⟩
 ·refine PC.ok (by rw[b4];exact xF (h.ah l) hl (Z.ah l)) ?_
  rw[<-K];rintro _ g2 ⟨b7,n2,y,G,rfl,L,H,hG⟩;have g3:=L.len dC;have e1:=L.aB;refine⟨_,_,_,rfl,an.dec (λf6=>PA.mk λg4 M g5 e2=>?_) (λhz=>⟨?_,H⟩)⟩
  rotate_left
  ·rw[E,Zq oM]
   exact(a_.nil a).ah H
  have g6:s.length<=20000000:=by
   rw[K];unfold aw.missing;rw[Qy];have:=List.length_filter_le (λf:aj=>decide (max 0 (fl m.vec f.origin)<f.seq)) S.l;omega
  refine a_.push (m:=⟨3,0,0,[],s⟩) (E:=G) ((a_.nil a).ah (H.then M)) Dg ⟨cT _ _,(L.ah M).row dC ba⟩ (λn P=>⟨by have:=hG n P;omega,by have:=e1 n P;omega,λf=>by cases f⟩) e2 sM λa' c' g7 c4 e3=>⟨_,_,_,rfl,?_,?_⟩
  ·rw[E,Zx oM];exact c4
  ·exact(H.then M).new e3 λn P=>(by cases P)
 rintro I on oc _ e4 ⟨N,O⟩;have a0:=l.then O;have e5:=O.size;refine PC.ok (nx (h.ah a0)) ?_;rintro _ u ⟨a3,n3,c3,G3,rfl,c6,c7,c8⟩;have g8:=a0.size;have c9:=c6.aB;have d0:Row aJ 8 u G3 a3 n3 S.vec:=c6.row dC (by rw[S.bM];unfold aK;omega);obtain⟨b,v⟩:∃b:List bS,b=if m.kind=1/\(lK m.vec S.vec=2\/lK m.vec S.vec=3)then [⟨2,0,0,S.vec,[]⟩]else []:=⟨_,rfl⟩
 have g9:b.length<=1:=by rw[v];split<;>simp
 have z:=O.then c7;have Q:∀n,aF I=some n->n<e4.heap.size:=λn P=>by
  obtain⟨a1,n1,t,a2,D,k,c,-⟩:=N
  cases k
  exact c.aB n P
 refine⟨_,_,_,rfl,λg i j w'=>a_ a (d++b) (.slice g i j) w'/\w'.heap[w.heap.size]? =some (.cells (dw m va vn vc ea en ec).toArray 127 (0,0))/\ai a w',⟨_,_,_,ae (z.get x id) rfl,PC.ok (LX ((Z.ah (l.then z)).sP) d0.sP) ?_⟩,?_⟩
 ·rintro _ _ ⟨rfl,rfl⟩
  have R:=z.get x id;have a4:=N.ah c7;have q:∀n,aF I=some n->a.heap.size<=n:=λn P=>by
   obtain⟨a1,n1,t,a2,D,k,c,A,h4,h5,T,h7⟩:=N
   cases k
   exact T n P
  have no:b=[]->a_ a (d++b) (.slice I on oc) u/\u.heap[w.heap.size]? =some (.cells (dw m va vn vc ea en ec).toArray 127 (0,0))/\ai a u:=λP=>⟨by rw[P,List.append_nil];exact a4,R,z⟩
  have B:∀{ε:XR} {U:ZH->Nat->Nat->XU},b=[⟨2,0,0,S.vec,[]⟩]->(∀g i j w',a_ a (d++b) (.slice g i j) w'/\w'.heap[w.heap.size]? =some (.cells (dw m va vn vc ea en ec).toArray 127 (0,0))/\ai a w'->U g i j w')->
    PA u (.cells #[XH 2,XH 0,XH 0,.slice a3 n3 c3,.slice none 0 0] 127) λd1=>aG XP (Builtin.append_ #[69,69] 69 #[.slice I on oc,.slice (XM u.heap.size) 1 1]) d1 (λe6 d2=>∃(a5:ZH) (a6:Nat) (a7:Nat),e6= .slice a5 a6 a7/\U a5 a6 a7 d2) ε:=λ{ε U} P V=>by
   refine PA.mk λd1 J h8 e7=>a_.push (m:=⟨2,0,0,S.vec,[]⟩) (E:=G3) (a4.ah J) Dg ⟨d0.ah J,cT _ _⟩ (λn P=>⟨by have:=c8 n P;omega,by have:=c9 n P;omega,λf=>by have:=Q n f;have:=c8 n P;omega⟩) e7 oM λa' c' d2 d3 d4=>⟨_,_,_,rfl,V _ _ _ _ ⟨by rw[P];exact d3,d4.get (J.get R id) λf=>?_,?_⟩⟩
   ·have:=q _ f;omega
   ·exact(z.then J).new d4 λn P=>.inr (q n P)
  refine⟨_,rfl,_,ae R rfl,an.dE (λo=>an.dE (λc=>B (by rw[v,Zx ⟨o,.inl c⟩]) λg i j w' h=>h) (λc=>an.dE (λA=>B (by rw[v,Zx ⟨o,.inr A⟩]) λg i j w' h=>h) (λA=>no (by rw[v,Zq];rintro⟨-,h|h⟩;exact c h;exact A h)))) (λo=>no (by rw[v,Zq λh=>o h.1]))⟩
 rintro e8 h9 i0 _ e9 ⟨C,W,a8⟩;have d5:=l.then a8;have f2:=a8.size;have a9:=C.len;have f8:(d++b).length<=2:=by rw[QX];omega
 have b0:∀{X:List bS},(if(d++b).isEmpty then [yJ S e m.bt]else(d++b).map λb5=>{b5 with bt:=e,ns:=m.bt})=X->lr S e m r=X:=λ{X} hq=>by
  rw[<-hq];unfold lr;rw[Zq b9,<-K];rw[E,v];have p1:(decide (lK m.vec S.vec=2\/lK m.vec S.vec=3))=decide (lK m.vec S.vec=2\/lK m.vec S.vec=3):=rfl
  by_cases t:0<s.length<;>by_cases y:m.kind=1/\(lK m.vec S.vec=2\/lK m.vec S.vec=3)
  ·simp[t,y]
  ·simp[t,y]
  ·simp[t,y]
  ·simp[t,y]
 refine an.dE (λh0=>⟨_,ae W rfl,PC.ok (HM (h.ah d5)) ?_⟩) (λh0=>⟨_,ae W rfl,PC.ok (LZ C oM) ?_⟩)
 ·have k:d++b=[]:=QW oM
  rintro _ i1 ⟨b8,n5,c5,G5,rfl,d6,d7,d8⟩;have d9:=d6.aB;rw[k]at C;refine⟨_,_,_,_,_,_,_,_,_,rfl,PA.mk λi2 Y i3 f3=>?_⟩;have b1:∀n,aF e8=some n->a.heap.size<=n/\n<e9.heap.size:=λn P=>by
   obtain⟨a1,n1,t,a2,D,k,c,A,h4,h5,T,h7⟩:=C
   cases k
   exact⟨T n P,c.aB n P⟩
  refine a_.push (m:=yJ S e m.bt) (E:=G5) (C.ah (d8.then Y)) Dg ⟨(d6.ah Y).row dC (by show S.vec.length*8<=aK;rw[S.bM];unfold aK;omega),cT _ _⟩ (λn P=>⟨by have:=d7 n P;have:=d5.size;omega,by have:=d9 n P;omega,λf=>by have:=(b1 n f).2;have:=d7 n P;omega⟩) f3 sM λa' c' i4 e0 f5=>⟨_,_,_,rfl,_,ae (f5.get ((d8.then Y).get W id) λf=>by have:=(b1 _ f).1;omega) rfl,?_⟩
  refine PC.ok (LZ e0 sM) ?_;rintro b6 i5 b2;obtain⟨g,i,j,rfl⟩:=b2.sl;refine⟨_,_,_,rfl,Ok.mk ?_⟩;rw[b0 (Zx (by rw[k];rfl))];exact b2.Gv l
 ·rintro b6 i6 b3
  obtain⟨g,i,j,rfl⟩:=b3.sl;refine⟨_,_,_,rfl,Ok.mk ?_⟩;rw[b0 (Zq (by
   intro k;have:d++b=[]:=by simpa using k
   rw[this]at a9;simp at a9;omega))]
  exact b3.Gv l
end
def gT(n:lO):List Value:=[XH n.aS,XH n.agg,XH n.field,XH n.op,XH n.arg,XH n.expect,XH n.key]
abbrev vK(n:lO):Value:=.agg (gT n).toArray
def w_(n:lO):gM XP 38 (gT n)=true:=kR
section
variable {w w':World} {D:XN}
def BV{tn m k o:Nat}(p:eD w)(h:bb w D R d tn u k)(q:∀a,D a->a<w.heap.size):
  ZG 125 #[.agg #[.slice d tn m,.slice u k o],vK d2] w (Ok λe w'=>e= XH (i_ R d2)/\ai w w'):=by
 refine xS (PA.mk λv r x b=>PA.mk λs l y n=>?_);have b:=l.get b id;have c:=r.then l;have P:(d2.agg<0\/d2.key<0\/d2.expect< -1)->Ok (λe w'=>e= XH (i_ R d2)/\ai w w') (.returned (XH 1)) s:=λf=>Ok.mk ⟨by unfold i_;rw[Zx f],c⟩;refine⟨_,ae n rfl,an.dec (λg=>P (.inl g)) (λg=>⟨_,ae n rfl,an.dec (λi=>P (.inr (.inl i))) (λi=>⟨_,ae n rfl,an.dec (λj=>P (.inr (.inr j))) (λj=>⟨_,_,_,_,_,_,ae b rfl,ae b rfl,_,ae n rfl,_,ae n rfl,_,ae n rfl,_,ae n rfl,PC.ok (xf (p.ah c) (h.ah c) λa f=>by have:=q a f;omega) ?_⟩)⟩)⟩)⟩;rintro _ z ⟨rfl,t⟩;exact⟨_,rfl,Ok.mk ⟨by unfold i_;rw[Zq (by rintro(h|h|h);exact g h;exact i h;exact j h)],c.then t⟩⟩
def EB(a:∀b∈t,aH b)(n:Int):0<=fl t n/\fl t n<=9223372036854775807:=by
 unfold fl;split
 ·omega
 ·by_cases P:n.toNat<t.length
  ·have:=a _ (XY P)
   unfold aH at this;simp only[QQ,Qq P,Option.getD_some];omega
  ·simp only[QQ,Q7 (Nat.le_of_not_lt P),Option.getD_none]
   omega
def My(n P:List Int):(jJ n P).length=max n.length P.length:=by unfold jJ;rw[rZ]
def Ru(P a:List Int)(d:∀n∈P,aH n)(e:∀n∈a,aH n):∀n∈jJ P a,aH n:=by
 intro n b;unfold jJ pK at b;obtain⟨c,-,rfl⟩:=Xk.1 b;have f:=EB d c;have g:=EB e c;unfold aH;omega
def iU(Q:Row aJ 8 w D d a t)(hl:r<=9223372036854775807)(hn:t.length<=20000000):
  ZG 132 #[vK d2,XH e,.slice d a c,XH r] w (Ok λv w'=>∃d a j G,v= .tuple #[jD (aQ d2 e t r).2 d a j,XH (aQ d2 e t r).1]/\Row aJ 8 w' G d a (aQ d2 e t r).2.aP/\(∀n,G n->w.heap.size<=n/\n<w'.heap.size)/\ai w w'):=by
 have a9:=Q.len;have A:=Q.sP;refine xU (PA.mk λB k1 s1 K=>PA.mk λL R s2 S=>?_);have K:=R.get K id;have j:=k1.then R;have k:∀{m:World} {no:Int},ai L m->aQ d2 e t r=(no,rm)->nq XP 63 (XL B.heap.size) (jD rm none 0 0) m λw4=>iK XP 63 (XL B.heap.size) w4 λv=>Ok (λv w'=>∃d a j G,v= .tuple #[jD (aQ d2 e t r).2 d a j,XH (aQ d2 e t r).1]/\Row aJ 8 w' G d a (aQ d2 e t r).2.aP/\(∀n,G n->w.heap.size<=n/\n<w'.heap.size)/\ai w w') (.returned (.tuple #[v,XH no])) w4:=λ{m no} C T=>
  az (aV rm none 0 0) (C.get S id) rfl λw4 l s4 M=>ar (aV rm none 0 0) M (Ok.mk ⟨none,0,0,λ_=>False,by rw[T],by rw[T];exact Row.nil _ _,λn P=>P.elim,(j.then C).new l λn P=>.inr oM⟩)
 refine an.dec (λU=>k (ak.refl _) ?_) (λU=>an.dec (λh2=>k (ak.refl _) ?_) (λh2=>an.dec (λC=>k (ak.refl _) ?_) (λC=>PC.ok (nG (A.ah j)) ?_)))
 ·unfold aQ;rw[Zx (.inl U)]
 ·unfold aQ;rw[Zx (.inr (.inl oM))]
 ·unfold aQ;rw[Zx (.inr (.inr C))]
 rintro _ _ ⟨rfl,rfl⟩;have N:¬(e<0\/(t.length:Int)<=e\/r<0):=by rintro(h|h|h)<;>omega
 refine⟨_,rfl,an.dE (λJ=>k (ak.refl _) ?_) (λJ=>an.dE (λE=>k (ak.refl _) ?_) (λE=>λm V=>?_))⟩
 ·unfold aQ;rw[Zq N,Zx (.inl J)]
 ·unfold aQ;rw[Zq N,Zx (.inr E)]
 have hg:=EB A.Te e;have wl:XG .i64 (r+1)=r+1:=wrap_i64 bc;have ws:XG .i64 (fl t e+1)=fl t e+1:=wrap_i64 (by unfold aH;have:fl t e≠9223372036854775807:=J;omega);have W:aQ d2 e t r=(0,⟨e,XG .i64 (fl t e+1),XG .i64 (r+1),jJ t [],d2.aS,d2.agg,d2.field,d2.op,d2.arg,d2.key⟩):=by
  unfold aQ;rw[Zq N,Zq (by rintro(h|h);exact J h;exact E h),wl,ws]
 have F:ai L m:=V.af;have s3:m.heap.size=L.heap.size:=by rw[V.heap]
 have X:=j.then F;have y:=F.get K id;have Y:=F.get S id;have jl:(jJ t []).length<=20000000:=by rw[My];simp;omega
 have jI:∀a0∈jJ t [],aH a0:=Ru t [] A.Te sM;have z:¬(m.heap.size<=w.heap.size):=oM
 have H:∀{w4 q:World} {b:ZH} {g i x:Nat},ai w q->Own q 3 1 b g i (ints (jJ t []))->(∀n,aF b=some n->m.heap.size<=n/\n≠x)->q.heap[B.heap.size]? =some (.cells (aC rm none 0 0).toArray 63 (0,0))->q.heap[x]? =some (.cells #[XH 0,XH 0,XH (XG .i64 (r+1)),.slice b g i,XH d2.aS,XH d2.agg,XH d2.field,XH d2.op,XH d2.arg,XH d2.key] 63 (0,0))->m.heap.size<=x->
   PS q ⟨x,0,none⟩ (XH e) λa4=>PS a4 ⟨x,0+1,none⟩ (XH (XG .i64 (fl t e+1))) λZ=>iK XP 63 (XL x) Z λa5=>nq XP 63 (XL B.heap.size) a5 Z λa2=>iK XP 63 (XL B.heap.size) a2 λa6=>Ok (λv w'=>∃d a j G,v= .tuple #[jD (aQ d2 e t r).2 d a j,XH (aQ d2 e t r).1]/\Row aJ 8 w' G d a (aQ d2 e t r).2.aP/\(∀n,G n->w.heap.size<=n/\n<w'.heap.size)/\ai w w') (.returned (.tuple #[a6,XH 0])) a2:=λ{w4 q b g i x} E s o hz a7 b0=>by
  refine PS.mk a7 sM λw6 f s6 I=>PS.mk I sM λw7 O s7 g7=>?_;have a8:=O.get (f.get hz oM) oM;refine ar (cs:=aC ⟨e,XG .i64 (fl t e+1),XG .i64 (r+1),jJ t [],d2.aS,d2.agg,d2.field,d2.op,d2.arg,d2.key⟩ b g i) (aV _ _ _ _) g7 (az (aV _ _ _ _) a8 rfl λw8 k8 s8 g8=>ar (aV _ _ _ _) g8 (Ok.mk ⟨b,g,i,λn=>aF b=some n,by rw[W],?_,λn P=>⟨by have:=o n P;omega,?_⟩,?_⟩))
  ·rw[W]
   have a3:=(((s.af f (cR.2 λn P u=>(o n P).2 u)).af O (cR.2 λn P u=>(o n P).2 u)).af k8 (cR.2 λn P u=>by have:=o n P;omega))
   exact(⟨⟨_,λ_=>False,a3,jV.2 ⟨rfl,jI⟩,λ_ h=>h.elim⟩,λn P=>P,λn P=>a3.lt P⟩:aO aJ 3 (λn=>aF b=some n) w8 b g i (jJ t [])).row dC ba
  ·have:=s.lt P;omega
  ·exact((E.new f λn P=>.inr oM).new O λn P=>.inr oM).new k8 λn P=>.inr oM
 refine⟨λn=>m.heap.size<=n,z,_,ae y rfl,z,_,ae y rfl,z,_,ae y rfl,z,_,ae y rfl,z,_,ae y rfl,z,_,ae y rfl,PC.ok (zY ((A.ah j).ah F) (Ints.nil _)) ?_,PA.mk λw4 l s4 M=>⟨ai.af l,PC.ok (zY (((A.ah j).ah F).ah l) (Ints.nil _)) ?_⟩⟩
 ·rintro _ w4 ⟨b,g,i,rfl,s,l,o⟩
  have z4:=l.size;refine⟨_,_,_,rfl,ai.af l,PA.mk λq p s5 g5=>⟨ai.af p,az (cs:=[XH 0,XH 0,XH (XG .i64 (r+1)),.slice b g i,XH d2.aS,XH d2.agg,XH d2.field,XH d2.op,XH d2.arg,XH d2.key]) (aV ⟨0,0,XG .i64 (r+1),[],d2.aS,d2.agg,d2.field,d2.op,d2.arg,d2.key⟩ b g i) g5 rfl λw6 f s6 I=>⟨f.mono λn _ u=>oM,H (w4:=w4) (((X.then l).then p).new f λn P=>.inr oM) ((s.ah p).af f (cR.2 λn P u=>by have:=s.lt P;omega)) (λn P=>⟨o n P,by have:=s.lt P;omega⟩) (f.get (p.get (l.get Y id) id) oM) I oM⟩⟩⟩
 ·rintro _ q ⟨b,g,i,rfl,s,p,o⟩
  have z5:=p.size;refine⟨_,_,_,rfl,ai.af p,az (cs:=[XH 0,XH 0,XH (XG .i64 (r+1)),.slice b g i,XH d2.aS,XH d2.agg,XH d2.field,XH d2.op,XH d2.arg,XH d2.key]) (aV ⟨0,0,XG .i64 (r+1),[],d2.aS,d2.agg,d2.field,d2.op,d2.arg,d2.key⟩ b g i) (p.get M id) rfl λw6 f s6 I=>⟨f.mono λn _ u=>oM,H (w4:=w4) (((X.then l).then p).new f λn P=>.inr oM) (s.af f (cR.2 λn P u=>by have:=o n P;omega)) (λn P=>⟨by have:=o n P;omega,by have:=o n P;omega⟩) (f.get (p.get (l.get Y id) id) oM) I oM⟩⟩
end
section
variable {w w':World} {D Fs Fv:XN} {s v:Nat} {S:aw} {V:aU} {d:aM} {c:lO} {origin start:Int}
def u_(w:World)(n:aj×Bool×Int)(c:Value)(w':World):Prop:=∃a b d G,c= .tuple #[jD n.1 a b d,.bool n.2.1,XH n.2.2]/\Row aJ 8 w' G a b n.1.aP/\(∀P,G P->w.heap.size<=P/\P<w'.heap.size)/\ai w w'
def wT(d:aM)(s:aw)(v:aU)(origin start:Int)(c:lO):qH d s v origin start c=if i_ d c≠0 then(rm,false,i_ d c)else
  match s.keyed c.key with
  |some n=>(n,false,0)
  |none=>if¬(c.expect= -1\/c.expect=((v.state c.aS c.agg).getD ⟨0,[]⟩).version)then(rm,false,11)else
   if vF (d.at c.aS) (match v.state c.aS c.agg with|some P=>P.cells|none=>du (d.at c.aS)) c.field c.op c.arg≠0 then(rm,false,10)else
   ((aQ c origin s.vec (max s.top start)).2,decide ((aQ c origin s.vec (max s.top start)).1=0),(aQ c origin s.vec (max s.top start)).1):=rfl
def CA{ta pa:ZH}{tn tc pn pc:Nat}(hT:eD w)(hd:bb w D d ta tn pa pn)(hD:∀n,D n->n<w.heap.size)(j0:cN d=0)(hs:cf w s Fs S)(j1:S.l.length<=20000000)(hv:b_ w v Fv V)(j2:V.decl=d)(o4:start<=9223372036854775807)(o1:S.top<=9223372036854775807):
  ZG 80 #[.agg #[.slice ta tn tc,.slice pa pn pc],XL s,XL v,XH origin,XH start,vK c] w (Ok (u_ w (qH d S V origin start c))):=by
 refine x_ (PA.mk λw1 k1 s1 g1=>PA.mk λw2 k2 s2 g2=>PA.mk λw3 k3 s3 g3=>?_);have q:=(k1.then k2).then k3;have gd:=k3.get (k2.get g1 id) id;have gc:=k3.get g2 id;have y:∀{z:World} {no:Int},ai w3 z->qH d S V origin start c=(rm,false,no)->nq XP 63 (XL w2.heap.size) (jD rm none 0 0) z λt=>iK XP 63 (XL w2.heap.size) t λr=>Ok (u_ w (qH d S V origin start c)) (.returned (.tuple #[r,.bool false,XH no])) t:=λ{z no} h4 Q=>
  az (aV rm none 0 0) (h4.get g3 id) rfl λt k5 s5 g5=>ar (aV rm none 0 0) g5 (Ok.mk ⟨none,0,0,λ_=>False,by rw[Q],by rw[Q];exact Row.nil _ _,λn P=>P.elim,(q.then h4).new k5 λn P=>.inr oM⟩)
 refine⟨_,_,_,_,_,_,ae gd rfl,ae gd rfl,ar (w_ c) gc (PC.ok (BV (hT.ah q) (hd.ah q) λn P=>by have:=hD n P;omega) ?_)⟩;rintro _ z ⟨rfl,R⟩;refine⟨_,rfl,an.dF (λT=>y R (by rw[wT,Zx T])) (λe5=>⟨_,ae (R.get gc id) rfl,PC.ok (NL (hs.ah (q.then R)) j1) ?_⟩)⟩;rintro _ t ⟨U,W,X,G5,rfl,e6,e7,k5⟩;have b5:=R.then k5;have o5:=b5.size;have A:∀{r:aj×Bool×Int},(match S.keyed c.key with
  |some k=>(k,false,0)
  |none=>if¬(c.expect= -1\/c.expect=((V.state c.aS c.agg).getD ⟨0,[]⟩).version)then(rm,false,11)else
   if vF (d.at c.aS) (match V.state c.aS c.agg with|some B=>B.cells|none=>du (d.at c.aS)) c.field c.op c.arg≠0 then(rm,false,10)else
   ((aQ c origin S.vec (max S.top start)).2,decide ((aQ c origin S.vec (max S.top start)).1=0),(aQ c origin S.vec (max S.top start)).1))=r->qH d S V origin start c=r:=λ{r} hr=>by
  rw[wT,Zq (by simpa using e5)];exact hr
 refine bO (rk _ U W X) ⟨_,rfl,PA.mk λw6 k6 s6 g6=>az (aV _ U W X) g6 rfl λl k7 s7 g7=>an.mk (λhk=>?_) (λhk=>?_)⟩
 ·obtain⟨k,Q⟩:=Option.isSome_iff_exists.1 hk
  rw[Q]at e6 g7 A;have b1:ai t l:=k6.new k7 λn P=>.inr oM;refine ar (aV _ U W X) g7 (az (aV _ U W X) (b1.get (b5.get g3 id) id) rfl λw8 k8 s8 g8=>ar (aV _ U W X) g8 (Ok.mk ⟨U,W,X,G5,?_,?_,λn P=>?_,?_⟩))
  ·rw[A rfl];rfl
  ·rw[A rfl]
   exact(e6.ah b1).af k8 λn P k=>by have:=e7 n P;have:=q.size;have:=R.size;omega
  ·have:=e7 n P;have:=q.size;have:=R.size;omega
  ·exact((q.then b5).then b1).new k8 λn P=>.inr oM
 have d2:S.keyed c.key=none:=by simpa using hk
 rw[d2]at A;have b1:ai t l:=k6.new k7 λn P=>.inr oM;have K:=b5.then b1;have o6:=K.size;have b6:=q.then K;have e8:kM d c.aS c.field c.op c.arg=0:=by
  have:=e5;unfold i_ at this;split at this
  ·simp at this
  ·exact this
 have j3:V.decl.at c.aS=d.at c.aS:=by rw[j2]
 obtain⟨hV,b0,hq⟩:=hv;have a6:(match V.state c.aS c.agg with|some B=>B.cells|none=>du (d.at c.aS)).length=(d.at c.aS).length:=by
  unfold aU.state
  cases hs:aE V.dR (c.aS,c.agg)with
  |none=>simp[du]
  |some s=>rw[<-j3];exact hV.st _ (bT hs)
 obtain⟨c4,t0,t1,o7⟩:=L_ j0 e8 a6;obtain⟨C,e9⟩:∃C:Nat,c.aS=C:=⟨c.aS.toNat,oM⟩
 have j4:d.at c.aS=d.types.getD C []:=by
  unfold aM.at;rw[Zx (bq.2 ⟨t0,oM⟩),e9,Qx]
 obtain⟨tb,ns,es,j5,o8,o2,j6,fa,fn,fc,rfl,b2⟩:=(hd.ah b6).aS.el C d.types[C] sM;have b2:Row rl 48 l D fa fn (d.at c.aS):=by
  rw[j4];have:d.types.getD C []=d.types[C]:=by simp[QQ,show C<d.types.length by omega]
  rw[this];exact b2
 have o9:=(hd.ah b6).aS.len;have c7:=j6 0 dC;have f2:mB.k=1:=rfl;rw[f2,Nat.mul_one]at c7;have j7:=K.get gd id;have f3:=K.get gc id;refine⟨_,_,_,ae j7 rfl,_,ae f3 rfl,tb,ns,j5,t0,oM,fa,fn,fc,by rw[e9,Qx];exact c7,PA.mk λw8 k8 s8 g8=>PS.mk g8 sM λw9 k9 s9 g9=>?_⟩;have Y:ai l w9:=k8.new k9 λn P=>.inr oM;have d3:=Y.get f3 id;have d4:b_ w v Fv V:=⟨hV,b0,hq⟩
 refine⟨_,ae d3 rfl,_,ae d3 rfl,PC.ok (nu (d4.ah (b6.then Y))) ?_⟩;rintro _ d5 ⟨ca,cn,cc,j8,rfl,f5,o3,L⟩;have b3:=Y.then L;have f6:=b6.then b3;have p0:=b3.size;obtain⟨E,hX⟩:∃E,E=(match V.state c.aS c.agg with|some B=>B.cells|none=>du (d.at c.aS)):=⟨_,rfl⟩
 rw[<-hX]at c4 a6 A;refine⟨_,_,_,_,_,rfl,PA.mk λp1 j9 p2 k0=>PS.mk k0 sM λp3 l0 p4 l3=>PS.mk l3 sM λf8 l4 p5 g0=>?_⟩;have a5:ai d5 f8:=(j9.new l0 λn P=>.inr oM).new l4 λn P=>.inr oM;have l5:f8.heap[l.heap.size]? =some (.cells #[.slice fa fn fc] 118 (0,0)):=a5.get (L.get g9 id) id;have c8:=f5.ah a5;refine⟨λw'=>ai d5 w'/\∃ca cn cc G,w'.heap[d5.heap.size]? =some (.cells #[XH ((V.state c.aS c.agg).getD Gf).version,.slice ca cn cc] 49 (0,0))/\Row et 32 w' G ca cn E,?_,?_⟩
 ·refine an.not (an.mk (λl6=>⟨a5,ca,cn,cc,j8,g0,?_⟩) (λl7=>⟨_,_,_,ae l5 rfl,PC.ok (GH (t:=d.at c.aS) rfl b2.len (by rw[b2.len];omega)) ?_⟩))
  ·obtain⟨B,Z⟩:=Option.isSome_iff_exists.1 l6
   rw[Z]at c8 hX;have b7:E=B.cells:=hX;rw[b7];exact c8.row dC (by show B.cells.length*32<=aK;rw[<-b7,a6];unfold aK;omega)
  ·rintro _ p6 ⟨c0,n6,c6,G6,rfl,l8,d6,l9⟩
   have p7:=d6.size;refine⟨_,_,_,rfl,PS.mk (d6.get g0 id) sM λp8 g4 p9 m0=>⟨(a5.then d6).new g4 λn P=>.inr oM,c0,n6,c6,G6,m0,?_⟩⟩;have hn:V.state c.aS c.agg=none:=by simpa using l7
   rw[hn]at hX;have b7:E=du (d.at c.aS):=hX;rw[b7];exact(l8.af g4 λn P k=>by have:=l9 n P;omega).row dC (by unfold aK du;simp;omega)
 rintro _ m1 ⟨m2,q0,q1,q2,G2,h3,h5⟩;refine PA.mk λh8 d7 q3 m3=>?_;have F:=m2.then d7;have m4:=F.size;have c9:=f6.then F;have h9:=d7.get h3 id;have i0:=F.get (L.get d3 id) id;have i1:=F.get (L.get g9 id) id;have i2:=(((K.then Y).then L).then F).get g3 id;have m:∀{z:World} {no:Int},ai h8 z->qH d S V origin start c=(rm,false,no)->nq XP 63 (XL w2.heap.size) (jD rm none 0 0) z λt=>iK XP 63 (XL w2.heap.size) t λr=>Ok (u_ w (qH d S V origin start c)) (.returned (.tuple #[r,.bool false,XH no])) t:=λ{z no} h4 Q=>y (((K.then Y).then L).then (F.then h4)) Q;refine⟨λa9 c5 w'=>∃H:Nat,c5=H/\H<=2/\a9=2-H/\ai h8 w'/\(1<=H->c.expect= -1\/c.expect=((V.state c.aS c.agg).getD ⟨0,[]⟩).version)/\(2<=H->vF (d.at c.aS) E c.field c.op c.arg=0),⟨_,0,rfl,oM,rfl,ak.refl _,λh=>oM,λh=>oM⟩,?_⟩;rintro a9 _ _ vy ⟨H,rfl,hj,rfl,i,d8,m5⟩;have d0:=i.get h9 id;have a0:=i.get i0 id;have i3:=i.get i1 id;have d1:=i.get m3 id;refine an.dec (λq4=>⟨m1.heap.size,0,rfl,oM,oM,?_⟩) (λq5=>?_)
 ·have m6:H=0\/H=1:=oM
  rcases m6 with rfl|rfl
  ·refine⟨_,ae d1 rfl,_,_,_,rfl,kR,PC.ok (φ:=λv w'=>v= XH (if c.expect= -1\/c.expect=((V.state c.aS c.agg).getD ⟨0,[]⟩).version then 0 else 11)/\vy=w') (t_ ⟨_,ae a0 rfl,an.dE (λh1=>Ok.mk ⟨by rw[Zx (.inl h1)],rfl⟩) (λh1=>⟨_,ae a0 rfl,_,ae d0 rfl,an.dE (λh2=>Ok.mk ⟨by rw[Zx (.inr h2)],rfl⟩) (λh2=>Ok.mk ⟨by rw[Zq (by rintro(h|h);exact h1 h;exact h2 h)],rfl⟩)⟩)⟩) ?_⟩
   rintro _ _ ⟨rfl,rfl⟩
   by_cases Z:c.expect= -1\/c.expect=((V.state c.aS c.agg).getD ⟨0,[]⟩).version
   ·rw[Zx Z]
    exact⟨_,rfl,an.ff rfl ⟨_,oM,1,rfl,oM,rfl,i,λ_=>Z,λh=>oM⟩⟩
   ·rw[Zq Z]
    exact⟨_,rfl,an.tt rfl (m i (A (by rw[Zx Z])))⟩
  ·refine⟨_,ae d1 rfl,_,_,_,rfl,kR,PC.ok (φ:=λv w'=>v= XH (vF (d.at c.aS) E c.field c.op c.arg)/\ai vy w') (ua ⟨_,_,_,ae i3 rfl,_,_,_,ae d0 rfl,_,ae a0 rfl,_,ae a0 rfl,_,ae a0 rfl,PC.ok (GG c4 ((b2.ah (b3.then F)).ah i) ((h5.ah d7).ah i)) ?_⟩) ?_⟩
   ·rintro _ m7 ⟨rfl,b8⟩
    exact⟨_,rfl,Ok.mk ⟨rfl,b8⟩⟩
   ·rintro _ m7 ⟨rfl,b8⟩
    refine⟨_,rfl,an.dF (λT=>m (i.then b8) (A ?_)) (λh0=>⟨_,oM,2,rfl,oM,rfl,i.then b8,λ_=>d8 oM,λ_=>h0⟩)⟩;have m8:vF (d.at c.aS) E c.field c.op c.arg=10:=by
     rw[Eo]at T⊢;split at T
     ·simp at T
     ·rename_i hq;rw[Zq hq]
    rw[Zq (λh=>h (d8 oM)),Zx T,m8]
 have i4:=A (r:=((aQ c origin S.vec (max S.top start)).2,decide ((aQ c origin S.vec (max S.top start)).1=0),(aQ c origin S.vec (max S.top start)).1)) (by rw[Zq (λh=>h (d8 oM)),Zq (by rw[m5 oM];simp)]);have I:(if start>S.top then start else S.top)=max S.top start:=by split<;>omega
 have b9:(if start>S.top then start else S.top)<=9223372036854775807:=by split<;>omega
 refine⟨λeb eo no w'=>eo=0/\no=(aQ c origin S.vec (max S.top start)).1/\ai vy w'/\∃a2 a3 a7 G,w'.heap[eb]? =some (.cells (aC (aQ c origin S.vec (max S.top start)).2 a2 a3 a7).toArray 63 (0,0))/\Row aJ 8 w' G a2 a3 (aQ c origin S.vec (max S.top start)).2.aP/\∀n,G n->vy.heap.size<=n/\n<w'.heap.size,?_,?_⟩
 rotate_left
 ·rintro eb _ no _ q6 ⟨rfl,rfl,d9,a,b,e,p,ge,u,f⟩
  have i5:=d9.get (i.get i2 id) id;have zk:=i.size;have q7:=d9.size;have zw:=q.size;refine ar (aV _ a b e) ge (az (aV _ a b e) i5 rfl λq8 i6 q9 m9=>ar (aV _ a b e) m9 (Ok.mk ⟨a,b,e,p,?_,?_,λn P=>?_,?_⟩))
  ·rw[i4];rfl
  ·rw[i4];exact u.af i6 λn P k=>by have:=f n P;omega
  ·have:=f n P;omega
  ·exact(((c9.then i).then d9)).new i6 λn P=>.inr oM
 ·intro M i7
  have e0:ai vy M:=i7.af;have r0:M.heap.size=vy.heap.size:=by rw[i7.heap]
  have i8:=e0.get a0 id;have a4:=hs.ah ((c9.then i).then e0);have zk:=i.size;have hn:=hs.1.n;have c1:S.vec.length<=20000000:=by rw[S.bM];omega
  have c2:S.vec.length*8<=aK:=by unfold aK;omega
  have x:∀{wE w6 l:World} {a1:Nat} {a:ZH} {b e:Nat} {p:XN},ai M wE->Row aJ 8 wE p a b (aQ c origin S.vec (max S.top start)).2.aP->(∀n,p n->M.heap.size<=n/\n<wE.heap.size/\n≠a1)->ai wE w6->M.heap.size<=a1->ak (λn=>n=a1) w6 l->l.heap.size=w6.heap.size->l.heap[a1]? =some (.cells (aC (aQ c origin S.vec (max S.top start)).2 a b e).toArray 63 (0,0))->
    (λ(eb eo:Nat) (no:Int) (w':World)=>eo=0/\no=(aQ c origin S.vec (max S.top start)).1/\ai vy w'/\∃a2 a3 a7 G,w'.heap[eb]? =some (.cells (aC (aQ c origin S.vec (max S.top start)).2 a2 a3 a7).toArray 63 (0,0))/\Row aJ 8 w' G a2 a3 (aQ c origin S.vec (max S.top start)).2.aP/\∀n,G n->vy.heap.size<=n/\n<w'.heap.size) a1 0 (aQ c origin S.vec (max S.top start)).1 l:=λ{wE w6 l a1 a b e p} hE hr hG h6 hg h7 r3 n0=>by
   have z6:=h6.size;exact⟨rfl,rfl,((e0.then hE).then h6).new h7 λn P=>.inr oM,a,b,e,p,n0,(hr.ah h6).af h7 λn P k=>(hG n P).2.2 k,λn P=>by have:=hG n P;omega⟩
  have zc:¬(M.heap.size<=w1.heap.size):=by
   have h1:=((((k3.then K).then Y).then L).then F).size;omega
  refine⟨λn=>M.heap.size<=n,zc,ar (w_ c) i8 ⟨PC.ok (nx a4) ?_,PA.mk λr4 c3 r5 n1=>⟨ai.af c3,PC.ok (nx (a4.ah c3)) ?_⟩⟩⟩
  ·rintro _ n2 ⟨av,nv,cv,a8,rfl,b4,j,n3⟩
   have n4:=j.size;refine⟨_,_,_,rfl,ai.af j,PC.ok (FZ (a4.ah j)) ?_,PA.mk λn8 J n9 e1=>⟨ai.af J,PC.ok (FZ ((a4.ah j).ah J)) ?_⟩⟩
   ·rintro _ _ ⟨rfl,rfl⟩
    refine⟨_,rfl,ak.refl _,?_,?_⟩
    ·rw[I]
     refine PC.ok (iU (b4.row dC c2) (by rw[<-I];exact b9) c1) ?_;rintro _ e2 ⟨a,b,e,p,rfl,u,f,g⟩;have e3:=g.size;exact bO (rk _ a b e) ⟨_,rfl,ai.af g,PA.mk λr6 i9 r7 o0=>⟨ai.af i9,az (aV _ a b e) o0 rfl λe4 o N O=>⟨o.mono λn _ k=>oM,x (j.then g) u (λn P=>⟨by have:=f n P;omega,(f n P).2,by have:=f n P;omega⟩) i9 oM o N O⟩⟩⟩
    ·refine PA.mk λn8 J n9 e1=>⟨ai.af J,?_⟩
     rw[I];refine PC.ok (iU ((b4.ah J).row dC c2) (by rw[<-I];exact b9) c1) ?_;rintro _ e2 ⟨a,b,e,p,rfl,u,f,g⟩;have e3:=g.size;exact bO (rk _ a b e) ⟨_,rfl,ai.af g,az (aV _ a b e) (g.get e1 id) rfl λe4 o N O=>⟨o.mono λn _ k=>oM,x ((j.then J).then g) u (λn P=>⟨by have:=f n P;omega,(f n P).2,by have:=f n P;omega⟩) (ak.refl _) oM o N O⟩⟩
   ·rintro _ _ ⟨rfl,rfl⟩
    refine⟨_,rfl,ak.refl _,?_⟩;refine PC.ok (by rw[I];exact iU ((b4.ah J).row dC c2) (by rw[<-I];exact b9) c1) ?_;rintro _ e2 ⟨a,b,e,p,rfl,u,f,g⟩;have e3:=g.size;exact bO (rk _ a b e) ⟨_,rfl,ai.af g,az (aV _ a b e) (g.get e1 id) rfl λe4 o N O=>⟨o.mono λn _ k=>oM,x ((j.then J).then g) u (λn P=>⟨by have:=f n P;omega,(f n P).2,by have:=f n P;omega⟩) (ak.refl _) oM o N O⟩⟩
  ·rintro _ n2 ⟨av,nv,cv,a8,rfl,b4,j,n3⟩
   have n4:=j.size;refine⟨_,_,_,rfl,ai.af j,PC.ok (FZ ((a4.ah c3).ah j)) ?_⟩;rintro _ _ ⟨rfl,rfl⟩;refine⟨_,rfl,ak.refl _,?_⟩;refine PC.ok (by rw[I];exact iU (b4.row dC c2) (by rw[<-I];exact b9) c1) ?_;rintro _ e2 ⟨a,b,e,p,rfl,u,f,g⟩;have e3:=g.size;exact bO (rk _ a b e) ⟨_,rfl,ai.af g,az (aV _ a b e) ((j.then g).get n1 id) rfl λe4 o N O=>⟨o.mono λn _ k=>oM,x ((c3.then j).then g) u (λn P=>⟨by have:=f n P;omega,(f n P).2,by have:=f n P;omega⟩) (ak.refl _) oM o N O⟩⟩
end
structure jk where
 ta:ZH
 tn:Nat
 tc:Nat
 pa:ZH
 pn:Nat
 pc:Nat
 dp:Nat
 lp:ZH
 sp:Nat
 bp:Nat
 wp:Nat
 tp:Nat
abbrev jk.cells(n:jk)(P:bQ)(a:Int):Array Value:= #[XH P.aD,XH P.uL,XH P.bN,XH P.chunk,XH P.buffer,XH P.cP,XH P.every,XH P.start,.slice n.ta n.tn n.tc,.slice n.pa n.pn n.pc,XH a,
 XL n.dp,.pointer n.lp,XL n.sp,XL n.bp,XL n.wp,XL n.tp]
def DL(b:World)(G:XN)(c:Nat)(d:ZH)(D:al)(P:Option eu):Prop:=
 ∃a,aN b c a D/\(∀n,a n->G n)/\match P with
  |none=>d=none
  |some e=>e.bI≠[]/\∃f g,d=some ⟨f,0,none⟩/\iA b c f g e/\∀n,g n->G n/\¬a n
def Na(b:World)(G:XN)(c:Nat)(n:Nat)(d:List aj):Prop:=∃a D,gi b c a D n d/\(∀P,a P->G P)/\∀P,D P->G P
def lj(c:Nat)(d:Array Value)(P:jk)(b:bQ)(a:bh)(e:List aj):Nat->World->(XN)->Prop
 |0=>λn G=>G c/\n.heap[c]? =some (.cells d 105 (0,0))
 |1=>λn G=>bb n G b.decl P.ta P.tn P.pa P.pn
 |2=>λn G=>DL n G P.dp P.lp a.D a.log
 |3=>λn G=>cf n P.sp G a.S/\a.S.Cl/\a.S.n=b.aD.toNat
 |4=>λn G=>cO n P.bp G b.decl b.every.toNat e
 |5=>λn G=>Na n G P.wp b.buffer.toNat a.waits
 |6=>λn G=>dA n P.tp G a.fK
 |_=>λ_ _=>True
section
variable {w w' w0:World} {p:Nat} {F G T:XN} {cls:Nat->Nat} {h:jk} {c:bQ} {self:Int} {X:bh} {dp:Nat} {lp:ZH} {D:al} {log:Option eu}
def DL.af(h:DL w G dp lp D log)(a:ak T w w')(b:∀n,G n->¬T n):DL w' G dp lp D log:=by
 obtain⟨f,g,c,d⟩:=h;refine⟨f,g.af a λn P=>b n (c n P),c,?_⟩
 cases log with
 |none=>exact d
 |some o=>
  obtain⟨i,j,k,l,m,e⟩:=d;exact⟨i,j,k,l,m.af a λn P=>b n (e n P).1,e⟩
def bE:ll (lj p l h c X J):=by
 intro k w w' G T n a P
 match k,n with
 |0,n=>exact⟨n.1,a.get n.2 (P p n.1)⟩
 |1,n=>exact bb.af n a P
 |2,n=>exact DL.af n a P
 |3,n=>exact⟨cf.af n.1 a P,n.2⟩
 |4,n=>exact cO.af n a P
 |5,n=>obtain⟨g,D,i,e,f⟩:=n;exact⟨g,D,i.af a (λb d=>P b (e b d)) λb d=>P b (f b d),e,f⟩
 |6,n=>exact dA.af n a P
 |k+7,n=>trivial
structure iY (c:bQ) (me:Int):Prop where
 right:eT c me=true
 decl:cN c.decl=0
 Xf:aH c.bN
 every:aH c.every
 start:aH c.start
structure Env (w0 w:World) (F:XN):Prop where
 oL:eD w0
 laid:Laid w0
 gr:ai w0 w
 aB:∀b,F b->w0.heap.size<=b
def Env.gC(h:Env w0 w F)(a:bL F w f w'):Env w0 w' f:=⟨h.oL,h.laid,h.gr.new a.af λn P=>.inr (h.aB n P),λn P=>(a.new n P).elim (h.aB n) λb=>by have:=h.gr.size;omega⟩
def Env.ah(h:Env w0 w F)(n:ai w w'):Env w0 w' F:=⟨h.oL,h.laid,h.gr.then n,h.aB⟩
abbrev cx(w:World)(F:XN)(cls:Nat->Nat)(p:Nat)(h:jk)(c:bQ)(self:Int)(X:bh):Prop:=aT w F cls (lj p (h.cells c self) h c X X.S.l)
def bP(w:World)(p:Nat)(F:XN)(c:bQ)(self:Int)(X:bh):Prop:=iY c self/\∃h cls,cx w F cls p h c self X
def cx.ah(n:cx w F cls p h c self X)(P:ai w w'):cx w' F cls p h c self X:=aT.ah n bE P
def cx.bg(n:cx w F cls p h c self X):w.heap[p]? =some (.cells (h.cells c self) 105 (0,0)):=(n.at' 0).2
def cx.HT(n:cx w F cls p h c self X):F p/\cls p=0:=(n.at' 0).1
def bP.af(P:bP w p F c self X)(a:ak T w w')(b:∀n,F n->¬T n):bP w' p F c self X:=by
 obtain⟨d,h,cls,e⟩:=P;exact⟨d,h,cls,aT.af e bE a b⟩
def bP.ah(n:bP w p F c self X)(P:ai w w'):bP w' p F c self X:=n.af P λ_ _ h=>h
def bP.aB(P:bP w p F c self X):∀n,F n->n<w.heap.size:=by obtain⟨b,h,cls,a⟩:=P;exact a.aB
def cx.store{a:jk}(n:aT w F cls (lj p l a c X J))(d:ak (·=p) w w')(e:w'.heap[p]? =some (.cells W 105 (0,0))):aT w' F cls (lj p W a c X J):=by
 refine aT.same n bE (k:=0) (d.mono λf _ P=>by have P:f=p:=P;exact P▸(n.at' 0).1) ⟨(n.at' 0).1,e⟩ λb G g h=>?_;rcases b with _|_|_|_|_|_|_|b<;>first|exact h|exact Zz rfl g
def DL.Nw(g:DL w G dp lp D (some b2))(c:Env w0 w G)(l:∀n,G n->n<w.heap.size):∃b,lp=XM b/\b2.bI≠[]/\bX w0 w dp b b2 D (λn=>n<w.heap.size/\¬G n):=by
 obtain⟨h,i,e,j,b,k,rfl,f,d⟩:=g;refine⟨b,rfl,j,k,⟨h,i,c.gr,λn P=>⟨c.aB n (e n P),λa=>?_⟩,λn P=>?_⟩,f,λn P=>⟨c.aB n (d n P).1,λa=>a.2 (d n P).1⟩⟩
 ·rcases a with a|a
  ·exact a.2 (e n P)
  ·exact(d n a).2 P
 ·rcases P with P|P
  ·exact P.1
  ·exact f.aB n P
def DL.uL(c:DL w G dp lp D log)(a:Env w0 w G):aR w0 w dp D (λn=>n<w.heap.size/\¬G n):=by
 obtain⟨d,e,b,-⟩:=c;exact⟨d,e,a.gr,λn P=>⟨a.aB n (b n P),λf=>f.2 (b n P)⟩,λn P=>P.1⟩
def DL.FJ{Y:XN}(l:bX w0 w' dp a b2 D (λn=>(n<w.heap.size/\¬G n)\/Y n))(m:ak (di λn=>n<w.heap.size/\¬G n) w w')(o:b2.bI≠[]):∃c,DL w' c dp (XM a) D (some b2)/\bL G w c w'/\(∀n,c n->n<w'.heap.size)/\∀n,c n->¬Y n:=by
 obtain⟨f,⟨g,h,r,d,s⟩,i,j⟩:=l;have e:∀n,¬(n<w.heap.size/\¬G n)->G n\/w.heap.size<=n:=λn P=>by
  rcases Nat.lt_or_ge n w.heap.size with b|b
  ·exact .inl (Classical.byContradiction λp=>P ⟨b,p⟩)
  ·exact .inr b
 refine⟨λn=>g n\/f n,⟨g,h,λn P=>.inl P,o,a,f,rfl,i,λn P=>⟨.inr P,λq=>(d n q).2 (.inr P)⟩⟩,⟨m.mono λn t P=>(e n P).resolve_right oM,λn P=>?_⟩,λn P=>?_,λn P k=>?_⟩
 ·rcases P with P|P
  ·exact e n λb=>(d n P).2 (.inl (.inl b))
  ·exact e n λb=>(j n P).2 (.inl b)
 ·exact P.elim (h.aB n) (i.aB n)
 ·rcases P with P|P
  ·exact(d n P).2 (.inl (.inr k))
  ·exact(j n P).2 (.inr k)
def DL.LR{Y:XN}(g:aR w0 w' dp D (λn=>(n<w.heap.size/\¬G n)\/Y n))(h:ak (di λn=>n<w.heap.size/\¬G n) w w'):∃b,DL w' b dp none D none/\bL G w b w'/\(∀n,b n->n<w'.heap.size)/\∀n,b n->¬Y n:=by
 obtain⟨c,d,k,e,l⟩:=g;have f:∀n,¬(n<w.heap.size/\¬G n)->G n\/w.heap.size<=n:=λn P=>by
  rcases Nat.lt_or_ge n w.heap.size with a|a
  ·exact .inl (Classical.byContradiction λi=>P ⟨a,i⟩)
  ·exact .inr a
 exact⟨c,⟨c,d,λn P=>P,rfl⟩,⟨h.mono λn m P=>(f n P).resolve_right oM,λn P=>f n λa=>(e n P).2 (.inl a)⟩,λn P=>d.aB n P,λn P j=>(e n P).2 (.inr j)⟩
end
def Ia{D:al}(P:b2.bI≠[]):(aZ b2 D).2.1.bI≠[]:=by
 have b:∀n:al,(qC b2 n).2.1.bI≠[]:=by
  intro n;unfold qC;dsimp only;split
  ·exact P
  ·split
   ·exact P
   ·simp
 have a:∀n:al,(mi b2 n).2.1.bI≠[]:=by
  intro n;unfold mi;dsimp only;split
  ·exact P
  ·exact b _
 unfold aZ;dsimp only;split
 ·exact a D
 ·split
  ·exact P
  ·exact a _
def FN{D:al}{l:List aj}(n:b2.bI≠[]):(bk b2 D l).2.1.bI≠[]:=by
 unfold bk;dsimp only;have P:(if b2.size<=b2.bytes then aZ b2 D else(0,b2,D)).2.1.bI≠[]:=by
  split
  ·exact Ia n
  ·exact n
 generalize(if b2.size<=b2.bytes then aZ b2 D else(0,b2,D))=a at P⊢;split
 ·exact n
 split
 ·exact n
 split
 ·exact P
 split
 ·exact P
 ·exact P
def Qc(c:Row jo 96 b f d a J):∀n∈J,n.Ok:=λn e=>by
 obtain⟨P,g,rfl⟩:=List.getElem_of_mem e;obtain⟨i,j,k,-,-,-,-,l,m,o,-,-,h⟩:=c.el P J[P] (Qq g);exact h
def aw.Ib:∀{l:List aj} {S:aw} {n:aj},n∈S.l->n∈(S.fw l).l
 |[],S,n,P=>P
 |e::l,S,n,P=>aw.Ib (l:=l) (S:=(S.add e).2) (by
  rcases S.iI e with⟨-,a⟩|⟨b,-⟩
  ·rw[a];exact P
  ·rw[b];exact(cU e S.l).mem_iff.2 (QJ _ P))
def Ic{n:bQ}(a:F.Cl)(b:F.n=n.aD.toNat)(P:List aj):eO n F P=F.fw P:=by
 unfold eO;rw[aw.OB,<-b,a.Uu]
section
variable {w w' w0:World} {p:Nat} {F E T:XN} {cls:Nat->Nat} {h:jk} {c:bQ} {self:Int} {X:bh} {evs:List aj} {ea:ZH} {en ec:Nat}
def iY.aD(n:iY c self):c.aD=(c.aD.toNat:Int)/\c.aD.toNat<=64/\1<=c.aD.toNat:=by
 have:=n.right;unfold eT within at this;simp only[QK,Zk]at this;omega
def Ie(s:cx w F cls p h c self X)(b0:iY c self)(hr:Row jo 96 w E ea en evs)(t:∀n,E n->n<w.heap.size)(hl:X.S.l.length+evs.length<=20000000):
  ZG 136 #[XL p,.slice ea en ec] w (Ok λa0 w'=>∃L b,a0= XL L/\cf w' L b (eO c X.S evs)/\(∀n,b n->w.heap.size<=n)/\ai w w'):=by
 obtain⟨b1,b2,c6⟩:=b0.aD;have e_:=(s.at' 3).1;refine nT ⟨p,0,rfl,_,ae s.bg rfl,?_⟩;rw[b1];refine PC.ok (El b2) ?_;rintro _ w7 ⟨u,j,rfl,M,v,k⟩;have f:=cx.ah s k;refine⟨_,rfl,p,0,rfl,_,ae f.bg rfl,PC.ok (qP (e_.ah k) oM) ?_⟩;rintro _ c7 ⟨a2,x,c1,G,rfl,g,y,l⟩;have N:=M.aB;have c8:=g.aB;have z7:=k.size;have c9:=y.size;have O:=k.then y;refine⟨_,_,_,rfl,yU g IL (hr.ah O) (λn P=>⟨by have:=t n P;omega,λz=>by have:=t n P;have:=l n (g.self n z);omega⟩) ba (by unfold maxLen;omega) λa' c' m Q A B b3 _=>⟨_,_,_,rfl,?_⟩⟩;have b4:=A.len dC;have d0:=B.size;rw[QX]at b4;have a3:Row jo 96 m Q a' (x+en) (X.S.l++evs):=A.row dC (by rw[QX];unfold aK;omega);have R:=A.aB;have S:∀n,Q n->¬j n:=λn P o=>by
  have d:=v n o;have h6:=N n o;rcases b3 n P with f|f|f
  ·have:=l n f;omega
  ·have:=t n f;omega
  ·omega
 have a4:ai w m:=O.new B λn P=>.inr (by have:=l n (g.self n P);omega);have a5:=(M.ah y).af B λn P z=>by have:=N n P;have:=l n (g.self n z);omega
 refine⟨λT C w'=>∃(a:Nat) (b:XN),C=a/\a<=x+en/\T=x+en-a/\cf w' u b ((⟨c.aD.toNat,[]⟩:aw).fw ((X.S.l++evs).take a))/\(∀n,b n->j n\/m.heap.size<=n)/\ak j m w',⟨_,0,j,rfl,Qj _,rfl,a5,λn P=>.inl P,ak.refl _⟩,?_⟩;rintro T _ _ U ⟨a,b,rfl,hj,rfl,H,q,r⟩;have d1:=r.size;refine an.dec (λd2=>?_) (λd3=>?_)
 ·obtain⟨e,V⟩:∃e,(X.S.l++evs)[a]? =some e:=⟨_,Qq (by rw[QX];omega)⟩
  obtain⟨n,a1,es,ha,d4,d5,b5,I,J,K,rfl,b6,a7⟩:=(a3.af r S).el a e V;refine⟨n,a1,ha,oM,oM,bw (es:=aC e I J K) (k:=10) (aV _ _ _ _) rfl (λC ht=>by rw[Qx];exact b5 C ht) (PA.mk λd6 b7 d7 b8=>az (aV e I J K) b8 rfl λb9 c2 d8 c3=>ar (aV e I J K) c3 ?_)⟩;have i:ai U b9:=b7.new c2 λn P=>.inr (by have P:n=U.heap.size:=P;omega);have W:=aw.mG ((X.S.l++evs).take a) ⟨c.aD.toNat,[]⟩;rw[Qy,QX]at W;simp only[ZQ]at W;refine PC.ok (tM (H.ah i) (b6.ah i) (λn P=>⟨by have:=R n P;have:=i.size;omega,λo=>?_⟩) a7 oM) ?_
  ·rcases q n o with d|d
   ·exact S n P d
   ·have:=R n P;omega
  rintro _ c4 ⟨rfl,Y,c5,Z⟩;refine⟨_,rfl,_,oM,a+1,Y,aq oM,oM,rfl,?_,λn P=>?_,(r.ah i).new Z.af λn P=>q n P⟩
  ·rw[Qw,V]
   show cf c4 u Y (aw.fw _ ((X.S.l++evs).take a++[e]));rw[aw.qQ];exact c5
  ·rcases Z.new n P with d|d
   ·exact q n d
   ·have:=i.size;exact .inr oM
 ·rw[Qz (by rw[QX];omega)]at H
  exact Ok.mk ⟨u,b,rfl,H,λn P=>(q n P).elim (v n) λd=>oM,a4.new r λn P=>.inr (v n P)⟩
end
section
variable {w w' w0:World} {p:Nat} {F E T:XN} {cls:Nat->Nat} {h:jk} {c:bQ} {self:Int} {X:bh} {evs lB:List aj} {ea:ZH} {en ec:Nat}
def Env.sub(P:Env w0 w F)(a:∀n,f n->F n):Env w0 w f:=⟨P.oL,P.laid,P.gr,λn b=>P.aB n (a n b)⟩
def Qd{n:aw}(P:n.OK)(b:o∈n.l)(c:O∈n.l)(d:aW o=aW O):o=O:=by
 have a:=P.get b;have e:=P.get c;rw[d,e]at a;exact(XJ a).symm
def Br(v:aT w F cls (lj p (h.cells c self) h c X lB))(j:Env w0 w F)(R:∀(x:Nat) (l m:aj),lB[x]? =some l->X.S.l[x]? =some m->aW l=aW m->l=m)(y:X.S.l.length<=20000000){κ:XR}(o:∀w' f P,cx w' f P p h c self X->bL F w f w'->κ (XH 0) w'):
  ∀oK,bF w oK->∃q:XN,(∃r z,(XM p:ZH)=some ⟨r,z,none⟩/\(¬q r/\(∃(A:ZH),oK.cell? ⟨r,z+14,none⟩=some (.pointer A)/\(∃B C,(XM p:ZH)=some ⟨B,C,none⟩/\(∃(E:ZH),oK.cell? ⟨B,C+13,none⟩=some (.pointer E)/\
   PC XP 59 #[.pointer E] oK (λS b=>∃(H:ZH) (I:Nat) (J:Nat),S= .slice H I J/\(ak q oK b/\PC XP 75 #[.pointer A,.slice H I J] b (λT g=>∃(U:Int),T= XH U/\(ak q b g/\κ (XH 0) g)) a4)) h4))))):=by
 intro oK V;have s:ai w oK:=V.af;have i:=aT.ah v bE s;have K:=(i.at' 0).2;refine⟨λn=>F n/\cls n=4,p,0,rfl,λW=>?_,_,ae K rfl,p,0,rfl,_,ae K rfl,PC.ok (qP (show cf oK h.sp (λn=>F n/\cls n=3) X.S from(i.at' 3).1) y) ?_⟩
 ·have:=W.2
  have Y:=(show(F p/\cls p=0)/\_ from v.at' 0).1.2;rw[Y]at this;cases this
 rintro _ b ⟨a1,a2,cc,G,rfl,t,e,Z⟩;have b5:=e.size;have a6:=i.aB;have L:=aT.ah i bE e;have a8:=t.jX;have a0:cO b h.bp (λn=>F n/\cls n=4) c.decl c.every.toNat lB:=L.at' 4;refine⟨_,_,_,rfl,ai.af e,PC.ok (Gq a0 j.oL ((j.gr.then s).then e) (λn d=>j.aB n d.1) (t.row dC ba) a8 (λn d=>⟨t.aB n d,λhf=>by have:=a6 n hf.1;have:=Z n d;omega⟩) y R) ?_⟩;rintro _ g ⟨k,rfl,G4,M,N⟩;obtain⟨f,P,u,a,-,-⟩:=L.gC bE (k:=4) (G':=G4) (C2:=lj p (h.cells c self) h c X X.S.l) N M.aB M λO G hj hc=>by
  rcases O with _|_|_|_|_|_|_|O<;>first|exact hc|exact Zz rfl hj
 have Q:ai w b:=s.then e;exact⟨_,rfl,N.af,o g f P u ⟨(ai.af Q).then a.af,λn d=>(a.new n d).imp id λh1=>by have:=Q.size;omega⟩⟩
def HU(x:cx w F cls p h c self X)(c1:iY c self)(y:Env w0 w F){V:eu}(b3:X.log=some V)(Y:Row jo 96 w E ea en evs)(Z:∀P,E P->P<w.heap.size/\¬(F P/\cls P=2))(hl:X.S.l.length+evs.length<=20000000):
  ZG 81 #[XL p,.slice ea en ec] w (Ok λz w'=>z= XH (fD c X evs).1/\∃A r d,cx w' r d p A c self (fD c X evs).2/\bL F w r w'/\A.wp=h.wp):=by
 obtain⟨b,D,c2,n,i⟩:=X;simp only at b3 hl;subst b3;obtain⟨hS,B,hn⟩:=(show cf w h.sp (λP=>F P/\cls P=3) b/\b.Cl/\b.n=c.aD.toNat from x.at' 3)
 have c3:=x.aB;obtain⟨e1,C,H,a0⟩:=DL.Nw (show DL w (λP=>F P/\cls P=2) h.dp h.lp D (some V)from x.at' 2) (y.sub λP a=>a.1) λP a=>c3 P a.1;have c4:=Qc Y;have a2:∀P,E P->P<w.heap.size:=λP a=>(Z P a).1;refine nP ⟨p,0,rfl,_,ae x.bg rfl,?_⟩;rw[C];refine PC.ok (Kr y.laid a0 H Y a2 oM) ?_;rintro _ w7 ⟨rfl,a1,k7⟩;have I:=FN (D:=D) (l:=evs) H;have s:∀{a3},(if(bk V D evs).1≠0 then((bk V D evs).1,({S:=b,D:=(bk V D evs).2.2,log:=some (bk V D evs).2.1,waits:=n,fK:=i}:bh))else
   if((bk V D evs).2.2.sync (bk V D evs).2.1.last).1≠0 then(((bk V D evs).2.2.sync (bk V D evs).2.1.last).1,{S:=b,D:=((bk V D evs).2.2.sync (bk V D evs).2.1.last).2,log:=some (bk V D evs).2.1,waits:=n,fK:=i})else
   (0,{S:=eO c b evs,D:=((bk V D evs).2.2.sync (bk V D evs).2.1.last).2,log:=some (bk V D evs).2.1,waits:=n,fK:=i}))=a3->fD c ⟨b,D,some V,n,i⟩ evs=a3:=λ{a3} hq=>hq
 generalize e2:bk V D evs=ap at a1 I s;obtain⟨e3,t,D7⟩:=ap;simp only at a1 I s;obtain⟨G7,J,a4,a5,-⟩:=DL.FJ (Y:=λ_=>False) (a1.mono λP a=>a.elim id False.elim) k7 I;obtain⟨F7,k,K,e,-,-,c5⟩:=x.gC bE (k:=2) (G':=G7) (C2:=lj p (h.cells c self) h c ⟨b,D7,some t,n,i⟩ b.l) a4 a5 (by rw[<-C]at J;exact J) λl G L M=>by
  rcases l with _|_|_|_|_|_|_|l<;>first|exact M|exact Zz rfl L
 refine⟨_,rfl,an.dF (λa6=>Ok.mk ?_) (λh0=>?_)⟩
 ·rw[s (Zx a6)]
  exact⟨rfl,h,F7,k,K,e,rfl⟩
 simp only at h0;have c6:=y.gC e;obtain⟨q2,m,-,u⟩:=DL.Nw (show DL w7 (λP=>F7 P/\k P=2) h.dp h.lp D7 (some t)from K.at' 2) (c6.sub λP a=>a.1) λP a=>K.aB P a.1;refine⟨p,0,rfl,_,ae (K.at' 0).2 rfl,?_⟩;rw[m];refine PC.ok (HJ y.laid u I) ?_;rintro _ b4 ⟨rfl,a7,c7⟩;generalize e4:D7.sync t.last=sy at a7 s;obtain⟨s1,S⟩:=sy;simp only at a7 s;obtain⟨a8,o,g,N,-⟩:=DL.FJ (Y:=λ_=>False) (a7.mono λP a=>a.elim id False.elim) c7 I;obtain⟨O,v,f,j,-,a9,T⟩:=K.gC bE (k:=2) (G':=a8) (C2:=lj p (h.cells c self) h c ⟨b,S,some t,n,i⟩ b.l) g N (by rw[<-m]at o;exact o) λl G L M=>by
  rcases l with _|_|_|_|_|_|_|l<;>first|exact M|exact Zz rfl L
 have b0:=e.trans j;refine⟨_,rfl,an.dF (λa6=>Ok.mk ?_) (λh1=>?_)⟩
 ·rw[s ((Zq (by simpa using h0)).trans (Zx a6))]
  exact⟨rfl,h,O,v,f,b0,rfl⟩
 simp only at h1;have c8:=s ((Zq (by simpa using h0)).trans (Zq (by simpa using h1)));rw[c8];have c9:Row jo 96 b4 E ea en evs:=by
  refine(Y.af a4.af λP a=>(Z P a).2).af g.af λP a hf=>?_;rcases a4.new P (c5▸hf)with h5|h5
  ·exact(Z P a).2 h5
  ·have:=a2 P a;omega
 refine PC.ok (Ie f c1 c9 (λP a=>by have:=a2 P a;have:=b0.af.size;omega) hl) ?_;rintro _ d0 ⟨U,F2,rfl,b5,d1,d2⟩;have d3:(eO c b evs).n=c.aD.toNat:=aw.OC _ _;have b1:=Ic B hn evs;have b6:(eO c b evs).Cl:=by rw[b1];exact aw.Cl.fw B c4
 obtain⟨F3,Q,b7,q,d4,-⟩:=f.eg bE (k:=3) (w':=d0) (G':=F2) (C2:=lj p (h.cells c self) {h with sp:=U} c ⟨eO c b evs,S,some t,n,i⟩ b.l) (ai.af d2) (λP a=>.inr (d1 P a)) b5.aB ⟨b5,b6,d3⟩ λl G L M=>by
  rcases l with _|_|_|_|_|_|_|l<;>first|exact M|exact Zz rfl L
 refine⟨_,rfl,p,0,rfl,PS.mk (b7.at' 0).2 sM λb8 b9 e5 d5=>?_⟩;have d6:aT b8 F3 Q (lj p (({h with sp:=U}:jk).cells c self) {h with sp:=U} c ⟨eO c b evs,S,some t,n,i⟩ b.l):=cx.store b7 b9 d5;have d7:bL O b4 F3 b8:=⟨q.af.then (b9.mono λP _ R=>by have R:P=p:=R;rw[R];exact(f.at' 0).1.1),q.new⟩
 have c0:=b0.trans d7;have d8:∀W∈b.l,W∈(eO c b evs).l:=λW hx=>by rw[b1];exact aw.Ib hx
 have d9:(eO c b evs).l.length<=20000000:=by rw[b1];exact Xx (aw.mG _ _) hl
 exact Br d6 (y.gC c0) (λe6 W e7 hx hy R=>Qd b6.ok (d8 W (QZ hx)) (QZ hy) R) d9 (κ:=λz w'=>Ok (λz w'=>z= XH 0/\∃A r d,cx w' r d p A c self ⟨eO c b evs,S,some t,n,i⟩/\bL F w r w'/\A.wp=h.wp) (.returned z) w')
  λw' r d b2 e0=>Ok.mk ⟨rfl,{h with sp:=U},r,d,b2,c0.trans e0,rfl⟩
end
def Bp{D:al}{size:Int}(n:(ey D size).no=0):(ey D size).V.bI≠[]:=by
 revert n
 unfold ey;generalize jB (told D) [] (uW D size) D=b;unfold oq;split
 ·rename_i a;intro n;exact Zz n a
 split
 ·intro n;exact sr n
 rename_i P;split
 ·intro _;exact P
 ·intro _;exact P
abbrev wS(n:jk)(P:bQ)(a:Int)(b c d:ZH):Array Value:= #[XH P.aD,XH P.uL,XH P.bN,XH P.chunk,XH P.buffer,XH P.cP,XH P.every,XH P.start,.slice n.ta n.tn n.tc,.slice n.pa n.pn n.pc,XH a,
 XL n.dp,.pointer b,.pointer c,.pointer d,XL n.wp,XL n.tp]
def recC(c:Nat)(d:Array Value)(P:jk)(b:bQ)(a:bh)(e:Bool):Nat->World->(XN)->Prop
 |0=>λn G=>G c/\n.heap[c]? =some (.cells d 105 (0,0))
 |1=>λn G=>bb n G b.decl P.ta P.tn P.pa P.pn
 |2=>λn G=>DL n G P.dp P.lp a.D a.log
 |3=>λn G=>e=true->cf n P.sp G a.S/\a.S.Cl/\a.S.n=b.aD.toNat
 |5=>λn G=>Na n G P.wp b.buffer.toNat a.waits
 |6=>λn G=>dA n P.tp G a.fK
 |_=>λ_ _=>True
section
variable {w w' w0:World} {p:Nat} {F E T:XN} {cls:Nat->Nat} {h:jk} {c:bQ} {self:Int} {X:bh} {evs lB:List aj} {ea:ZH} {en ec:Nat}
def gy:ll (recC p l h c X K):=by
 intro k w w' G T n a P
 match k,n with
 |0,n=>exact⟨n.1,a.get n.2 (P p n.1)⟩
 |1,n=>exact bb.af n a P
 |2,n=>exact DL.af n a P
 |3,n=>exact λe=>⟨cf.af (n e).1 a P,(n e).2⟩
 |4,n=>trivial
 |5,n=>obtain⟨i,D,j,f,g⟩:=n;exact⟨i,D,j.af a (λb d=>P b (f b d)) λb d=>P b (g b d),f,g⟩
 |6,n=>exact dA.af n a P
 |k+7,n=>trivial
def xG{z1 z2 z3:ZH}(T:aT w F cls (recC p (wS h c self z1 z2 z3) h c X false))(L:iY c self)(A:Env w0 w F):
  ZG 46 #[XL p] w (Ok λB w'=>B= XH (ie c X).1/\(ie c X).2.S.l.length<=16777216/\∃U q d,cx w' q d p U c self (ie c X).2/\bL F w q w'):=by
 obtain⟨g0,d2,j5⟩:=L.aD;have g1:=T.aB;have V:F p/\cls p=0:=(T.at' 0).1;have j0:1<=c.every:=by
  have:=L.right;unfold eT at this;simp only[QK,Zk]at this;omega
 refine k_ λw3 d3=>?_;have W:ai w w3:=d3.af;have M:=aT.ah T gy W;have N:=(M.at' 0).2;refine⟨λ_=>False,p,0,rfl,_,ae N rfl,p,0,rfl,id,_,_,_,_,_,_,ae N rfl,ae N rfl,p,0,rfl,id,_,ae N rfl,?_⟩;rw[g0];refine PC.ok (El d2) ?_;rintro _ d4 ⟨e,F2,rfl,Y,d5,C⟩;have a9:=W.then C;have d6:=aT.ah M gy C;refine⟨_,rfl,C,PC.ok (Og L.decl L.every ((A.oL.ah A.gr).ah a9) (show bb d4 (λn=>F n/\cls n=1) c.decl h.ta h.tn h.pa h.pn from d6.at' 1) λn P=>d6.aB n P.1) ?_⟩;rintro _ g2 ⟨g,F4,rfl,Z,d7,b7⟩;have y3:=W.size;have j6:=C.size;have j7:=b7.size;rw[show(max 1 c.every).toNat=c.every.toNat by congr 1;omega]at Z;have j1:=Y.aB;obtain⟨Fa,d1,E,b0,g4,-⟩:=M.Gp gy (k:=3) (w':=d4) (G':=F2) (C2:=recC p (wS h c self z1 z2 z3) {h with sp:=e} c {X with S:=⟨c.aD.toNat,[]⟩} true) (ai.af C) (λn P l=>by have:=d5 n P;have:=g1 n l;omega) Y.aB (λ_=>⟨Y,aw.Cl.new d2,rfl⟩) λa G i j=>by
  rcases a with _|_|_|_|_|_|_|a<;>first|exact j|exact Zz rfl i
 obtain⟨u,r,b8,b1,g5,-⟩:=E.Gp gy (k:=4) (w':=g2) (G':=F4) (C2:=lj p (wS h c self z1 z2 z3) {h with sp:=e,bp:=g} c {X with S:=⟨c.aD.toNat,[]⟩} []) (ai.af b7) (λn P l=>by have:=d7 n P;have:=E.aB n l;omega) Z.aB Z λa G i j=>by
  rcases a with _|_|_|_|_|_|_|a<;>first|exact j|exact j rfl|exact Zz rfl i
 have d8:∀n,u n->F n\/w.heap.size<=n:=λn P=>by
  rcases g5 n P with k|k
  ·rcases g4 n k.1 with h6|h6
   ·exact .inl h6.1
   ·exact .inr (by have:=d5 n h6;omega)
  ·exact .inr (by have:=d7 n k;omega)
 refine⟨_,rfl,p,0,rfl,PS.mk (b8.at' 0).2 sM λj8 d9 j9 g6=>⟨p,0,rfl,PS.mk g6 sM λb9 e0 k0 g7=>λc1 g8=>?_⟩⟩;have j2:u p/\r p=0:=(b8.at' 0).1;have e1:ai b9 c1:=g8.af;have g9:aT b9 u r (lj p (wS h c self z1 (XM e) (XM g)) {h with sp:=e,bp:=g} c {X with S:=⟨c.aD.toNat,[]⟩} []):=cx.store b8 (d9.then e0) g7;have b2:bL F w u b9:=⟨((ai.af a9).ah b7).then ((d9.then e0).mono λn _ f=>by have f:n=p:=f;rw[f];exact V.1),d8⟩
 have H:=aT.ah g9 bE e1;have O:bL F w u c1:=⟨b2.af.ah e1,b2.new⟩
 have e2:=A.gC O;have e3:=(H.at' 0).2;have h4:=DL.uL (show DL c1 (λn=>u n/\r n=2) h.dp h.lp X.D X.log from H.at' 2) (e2.sub λn P=>P.1);refine⟨p,0,rfl,_,ae e3 rfl,p,0,rfl,_,ae e3 rfl,PC.ok (Hm A.laid h4) ?_⟩;have a0:∀{b},(if(ey X.D c.bN).no≠0 then((ey X.D c.bN).no,{X with D:=(ey X.D c.bN).D,log:=none,S:=⟨c.aD.toNat,[]⟩})
   else(0,{X with D:=(ey X.D c.bN).D,log:=some (ey X.D c.bN).V,S:=(⟨c.aD.toNat,[]⟩:aw).fw (ey X.D c.bN).out}))=b->ie c X=b:=λ{b} hq=>hq
 have b3:=Bp (D:=X.D) (size:=c.bN);generalize ey X.D c.bN=b at a0 b3;rintro _ h7 (⟨I,rfl,e5,c3⟩|⟨I,s,e9,a1,cc,G,rfl,c4,h8,c3,hG,hq,j3⟩)
 ·obtain⟨G2,c5,a2,c6,-⟩:=DL.LR (Y:=λ_=>False) (e5.mono λn P=>P.elim id False.elim) c3
  obtain⟨t,Q,v,a3,-,-⟩:=H.gC bE (k:=2) (G':=G2) (C2:=lj p (wS h c self z1 (XM e) (XM g)) {h with sp:=e,bp:=g,lp:=none} c {X with S:=⟨c.aD.toNat,[]⟩,D:=b.D,log:=none} []) a2 c6 (by
    obtain⟨Fd,h1,h2,M⟩:=c5;exact⟨Fd,h1,h2,rfl⟩) λa G i j=>by
   rcases a with _|_|_|_|_|_|_|a<;>first|exact j|exact Zz rfl i
  refine⟨_,_,_,_,_,rfl,p,0,rfl,PS.mk (v.at' 0).2 sM λx y e4 c7=>an.dF (λ_=>Ok.mk ?_) (λh0=>Zz h0 I)⟩;rw[a0 (Zx I)];refine⟨rfl,Qj _,{h with sp:=e,bp:=g,lp:=none},t,Q,cx.store v y c7,?_⟩;have J:=O.trans a3;exact⟨J.af.then (y.mono λn _ f=>by have f:n=p:=f;rw[f];exact V.1),J.new⟩
 ·obtain⟨G2,c5,a2,c6,hY⟩:=DL.FJ h8 c3 (b3 I)
  obtain⟨t,Q,v,a3,h9,-⟩:=H.gC bE (k:=2) (G':=G2) (C2:=lj p (wS h c self z1 (XM e) (XM g)) {h with sp:=e,bp:=g,lp:=XM s} c {X with S:=⟨c.aD.toNat,[]⟩,D:=b.D,log:=some b.V} []) a2 c6 c5 λa G i j=>by
   rcases a with _|_|_|_|_|_|_|a<;>first|exact j|exact Zz rfl i
  refine⟨_,_,_,_,_,rfl,p,0,rfl,PS.mk (v.at' 0).2 sM λx y e4 c7=>an.dF (λh0=>Zz rfl h0) (λ_=>?_)⟩;have f0:aT x t Q (lj p (({h with sp:=e,bp:=g,lp:=XM s}:jk).cells c self) {h with sp:=e,bp:=g,lp:=XM s} c {X with S:=⟨c.aD.toNat,[]⟩,D:=b.D,log:=some b.V} []):=cx.store v y c7;have J:=O.trans a3;have b4:bL F w t x:=⟨J.af.then (y.mono λn _ f=>by have f:n=p:=f;rw[f];exact V.1),J.new⟩
  have j4:=O.af.size;have c8:∀n,G n->¬t n:=λn P l=>by
   rcases h9 n l with k|k
   ·have:=H.aB n k.1;have:=hG n P;omega
   ·exact hY n k P
  have i0:∀n,G n->n≠p:=λn P f=>c8 n P (f▸(v.at' 0).1.1);have b5:=c4.aB;have k1:=c4.len dC;have b6:Row jo 96 x G e9 a1 b.out:=uE.row (((c4.af y λn P f=>i0 n P f)).row dC ba);have k2:x.heap.size=h7.heap.size:=e4;rw[a0 (Zq (by simpa using I))];have f8:=Qc b6;refine⟨λc0 a4 w'=>∃(a:Nat) (R:XN) (e6:Nat->Nat),a4=a/\a<=a1/\c0=a1-a/\aT w' R e6 (lj p (({h with sp:=e,bp:=g,lp:=XM s}:jk).cells c self) {h with sp:=e,bp:=g,lp:=XM s} c {X with S:=(⟨c.aD.toNat,[]⟩:aw).fw (b.out.take a),D:=b.D,log:=some b.V} [])/\bL t x R w',
   ⟨_,0,t,Q,rfl,Qj _,rfl,f0,bL.refl _ _⟩,?_⟩
  rintro c0 _ _ e7 ⟨a,R,e6,rfl,i,rfl,c9,z⟩;have i1:∀n,G n->¬R n:=λn P l=>by
   rcases z.new n l with k|k
   ·exact c8 n P k
   ·have:=b5 n P;omega
  have d0:=aw.mG (b.out.take a) ⟨c.aD.toNat,[]⟩;rw[Qy]at d0;simp only[ZQ]at d0;refine an.dec (λk4=>?_) (λk5=>?_)
  ·obtain⟨m,S⟩:∃m,b.out[a]? =some m:=⟨_,Qq oM⟩
   obtain⟨n,f1,es,ha,k6,k7,i2,xa,xn,xc,rfl,i3,c2⟩:=(b6.af z.af c8).el a m S;refine⟨n,f1,ha,oM,oM,bw (es:=aC m xa xn xc) (k:=10) (aV _ _ _ _) rfl (λa4 ht=>by rw[Qx];exact i2 a4 ht) (PA.mk λk8 i4 k9 i5=>az (aV m xa xn xc) i5 rfl λl0 i6 l3 i7=>λi8 e8=>?_)⟩;have K:ai e7 i8:=(i4.new i6 λn P=>.inr (by have P:n=e7.heap.size:=P;omega)).then e8.af;have a5:=aT.ah c9 bE K;have l4:=z.af.size;obtain⟨f2,f4,f5⟩:=a5.at' 3;refine⟨p,0,rfl,_,ae (a5.at' 0).2 rfl,ar (aV m xa xn xc) ((e8.af (S:=λ_=>False)).get i7 id) (PC.ok (tM f2 (i3.ah K) (λn P=>⟨by have:=b5 n P;have:=K.size;omega,λl=>i1 n P l.1⟩) c2 (by show((⟨c.aD.toNat,[]⟩:aw).fw (b.out.take a)).l.length<_;omega)) ?_)⟩;rintro _ l5 ⟨rfl,F8,f3,f6⟩;have i9:((⟨c.aD.toNat,[]⟩:aw).fw (b.out.take (a+1)))=(((⟨c.aD.toNat,[]⟩:aw).fw (b.out.take a)).add m).2:=by
    rw[Qw,S];exact aw.qQ ..
   obtain⟨F9,a6,a7,o,-⟩:=a5.gC bE (k:=3) (G':=F8) (C2:=lj p (({h with sp:=e,bp:=g,lp:=XM s}:jk).cells c self) {h with sp:=e,bp:=g,lp:=XM s} c {X with S:=(⟨c.aD.toNat,[]⟩:aw).fw (b.out.take (a+1)),D:=b.D,log:=some b.V} []) f6 f3.aB (by rw[i9];exact⟨f3,f4.add c2,(aw.Sz _ _).trans f5⟩) λa G i j=>by
    rcases a with _|_|_|_|_|_|_|a<;>first|exact j|exact Zz rfl i
   exact⟨_,rfl,_,oM,a+1,F9,a6,aq oM,oM,rfl,a7,z.trans ⟨(ai.af K).then o.af,λn P=>(o.new n P).imp id λh1=>by have:=K.size;omega⟩⟩
  ·rw[Qz oM]at c9 d0
   exact Br c9 (A.gC (b4.trans z)) (λf9 m g3 S=>by simp at S) (by show((⟨c.aD.toNat,[]⟩:aw).fw b.out).l.length<=_;omega) (κ:=λB w'=>Ok (λB w'=>B= XH 0/\((⟨c.aD.toNat,[]⟩:aw).fw b.out).l.length<=16777216/\∃U q d,cx w' q d p U c self {X with S:=(⟨c.aD.toNat,[]⟩:aw).fw b.out,D:=b.D,log:=some b.V}/\bL F w q w') (.returned B) w')
    λw' q d a8 f7=>Ok.mk ⟨rfl,oM,_,q,d,a8,(b4.trans z).trans f7⟩
end
structure gE where
 code:Int
 id:Int×Int
 st:mf
 Jg:List cz
 rows:List dh
 more:Bool
def fk(n:gE)(P:ZH)(a b:Nat)(c:ZH)(d e:Nat)(f:ZH)(g h:Nat):List Value:=
 [XH n.code,XH n.id.1,XH n.id.2,XH n.st.version,.slice P a b,.slice c d e,.slice f g h,.bool n.more]
def gP(n:gE)(P:ZH)(a b:Nat)(c:ZH)(d e:Nat)(f:ZH)(g h:Nat):gM XP 53 (fk n P a b c d e f g h)=true:=kR
def dQ(h:World)(n:gE)(i:Value)(P:World):Prop:=∃(b:ZH) (c j:Nat) (d:ZH) (e k:Nat) (f:ZH) (g l:Nat) (G:XN),i= .agg (fk n b c j d e k f g l).toArray/\
 Row et 32 P G b c n.st.cells/\Row vB 120 P G d e n.Jg/\Row Gh 24 P G f g n.rows/\∀a,G a->h.heap.size<=a/\a<P.heap.size
abbrev bu(n:Int):gE:=⟨n,(0,0),⟨0,[]⟩,[],[],false⟩
abbrev G_(id:Int×Int):gE:=⟨0,id,⟨0,[]⟩,[],[],false⟩
structure lO.Ok (x:lO):Prop where
 aS:aH x.aS
 agg:aH x.agg
 field:aH x.field
 op:aH x.op
 arg:aH x.arg
 key:aH x.key
section
variable {w w' w0:World} {p:Nat} {F E T:XN} {cls:Nat->Nat} {h:jk} {c:bQ} {self:Int} {X:bh} {evs lB:List aj} {ea:ZH} {en ec:Nat}
def dQ.plain{n:gE}(P:n.st.cells=[])(a:n.Jg=[])(b:n.rows=[]):dQ w n (.agg (fk n none 0 0 none 0 0 none 0 0).toArray) w':=
 ⟨none,0,0,none,0,0,none,0,0,λ_=>False,rfl,by rw[P];exact cT _ _,by rw[a];exact cT _ _,by rw[b];exact cT _ _,λd c=>c.elim⟩
def row_one{n:jt j}{bytes P:Nat}{w:World}{d:j}{D:XN}(e:w.heap[P]? =some (.cells l g C))(f:n.rep w D d l.toList)(h:bytes<=1000):Row n bytes w (λa=>a=P\/D a) (XM P) 1 [d]:=by
 have o:=n.len f;refine⟨rfl,by unfold aK;omega,λb p c=>?_⟩;obtain rfl:b=0:=by
  rcases b with _|b
  ·rfl
  ·simp at c
 simp at c;subst c;refine⟨P,0,l.toList,rfl,ax e,.inl rfl,λi k=>?_,n.mono f λa h=>.inr h⟩;have m:i<l.size:=by rw[<-o]at k;simpa using k
 rw[ae e (v:=l[i]) (by simp[m])];simp[m]
def Ua{b:aw}(j:b.OK){M:Int}(e:0<=M)(f:∀n∈b.l,n.ay<=M):b.top<=M:=by
 have:∀(a:List aj) (P:Int),P<=M->(∀n∈a,n.ay<=M)->a.foldl (λP n=>max P n.ay) P<=M:=by
  intro a
  induction a with
  |nil=>intro P c _;exact c
  |cons n a g=>
   intro P c d;refine g _ ?_ λh i=>d h (QJ _ i);have:=d n (QV ..);show max P n.ay<=M;omega
 exact this b.l 0 e f
def KD[Decidable L]{n P:aj×Bool×Int}(a:n.1.Ok)(b:P.1.Ok):(if L then n else P).1.Ok:=by
 split
 ·exact a
 ·exact b
def Ig(n:d2.Ok)(c:aH e)(f:aH r)(P:∀d∈t,aH d):(aQ d2 e t r).2.Ok:=by
 have g:=Bs P e;unfold aQ;dsimp only
 by_cases a:e<0\/(t.length:Int)<=e\/r<0
 ·rw[Zx a];exact Bt
 rw[Zq a]
 by_cases b:fl t e=9223372036854775807\/r=9223372036854775807
 ·rw[Zx b];exact Bt
 rw[Zq b];refine⟨c,?_,?_,DM P sM,n.aS,n.agg,n.field,n.op,n.arg,n.key⟩
 ·show aH (fl t e+1);unfold aH at*;omega
 ·show aH (r+1);unfold aH at*;omega
def Sb{n:aw}(e:n.l.length<=20000000):∀a∈n.vec,aH a:=λa c=>by
 obtain⟨d,P,rfl⟩:=List.getElem_of_mem c;rw[n.bM]at P;have b:=n.oz P;rw[Qq (by rw[n.bM];exact P)]at b;rw[XJ b];have:=n.Qe d;unfold aH;omega
def LS{n:aw}(P:n.OK):aH n.top:=by
 have c:=Ua P (M:=9223372036854775807) oM λa b=>by have:=(P.ok a b).ay;unfold aH at this;omega
 have d:=n.KE;unfold aH;omega
def Sc{n:aw}(a:d2.Ok)(P:n.OK)(b:aH e)(h:aH r)(c:n.l.length<=20000000):(qH R n d1 e r d2).1.Ok:=by
 have d:aH (max n.top r):=by
  have i:=LS P;unfold aH at*;omega
 rw[wT];refine KD Bt ?_
 cases f:n.keyed d2.key with
 |some g=>exact P.ok g (List.mem_of_find?_eq_some f)
 |none=>exact KD Bt (KD Bt (Ig a b d (Sb c)))
end
section
variable {w w' w0:World} {p:Nat} {F E T:XN} {cls:Nat->Nat} {h:jk} {c:bQ} {self:Int} {X:bh}
def iY.Ve(n:iY c self):0<=self/\self<c.aD:=by
 have:=n.right;unfold eT within at this;simp only[QK,Zk]at this;omega
def GR(hr:bP w p F c self X)(J:Env w0 w F)(hx:d2.Ok)(hl:X.S.l.length+1<=20000000):
  ZG 50 #[XL p,vK d2] w (Ok λa3 w'=>∃d,dQ w (if(eI c self X d2).1≠0 then bu (eI c self X d2).1 else G_ (eI c self X d2).2.1) a3 w'/\bP w' p d c self (eI c self X d2).2.2/\bL F w d w'):=by
 have b8:=hr;obtain⟨q,h,cls,l⟩:=hr;have u:=l.aB;have e3:=(l.HT)
 have g7:=u p e3.1;have c0:aH self:=by have:=q.Ve;have:=q.aD;unfold aH;omega
 refine kZ (PA.mk λC e4 g8 e5=>PA.mk λb2 c2 g9 d6=>?_);have a1:=e4.then c2;have e6:=cx.ah l a1;have E:∀{f:World} {d:XN} {k:bh} {y:gE},y.st.cells=[]->y.Jg=[]->y.rows=[]->(∃r,f.heap[C.heap.size]? =some (.cells r 53 (0,0))/\r.size=8)->bP f p d c self k->(∀n,d n->F n\/b2.heap.size<=n)->bL F w d f->(eI c self X d2).2.2=k->(if(eI c self X d2).1≠0 then bu (eI c self X d2).1 else G_ (eI c self X d2).2.1)=y->
   nq XP 53 (XL C.heap.size) (.agg (fk y none 0 0 none 0 0 none 0 0).toArray) f λc3=>iK XP 53 (XL C.heap.size) c3 λa=>Ok (λa3 w'=>∃d,dQ w (if(eI c self X d2).1≠0 then bu (eI c self X d2).1 else G_ (eI c self X d2).2.1) a3 w'/\bP w' p d c self (eI c self X d2).2.2/\bL F w d w') (.returned a) c3:=λ{f d k y} y1 y2 y3 hz b3 b4 Q hX hy=>by
  obtain⟨r,hg,e7⟩:=hz;refine az (gP y none 0 0 none 0 0 none 0 0) hg (by rw[e7];rfl) λc3 d7 h2 e8=>ar (gP y none 0 0 none 0 0 none 0 0) e8 (Ok.mk ⟨d,by rw[hy];exact dQ.plain y1 y2 y3,?_,Q.af.new d7 λn P=>.inr (by have P:n=C.heap.size:=P;omega),Q.new⟩);rw[hX];refine b3.af d7 λn P e=>?_;have e:n=C.heap.size:=e;rcases b4 n P with h1|h1
  ·have:=u n h1;omega
  ·omega
 refine⟨p,0,rfl,_,ae e6.bg rfl,fh Tryz.underlying101 ⟨_,rfl,?_⟩⟩;have d8:DL w (λn=>F n/\cls n=2) h.dp h.lp X.D X.log:=l.at' 2;obtain⟨hS,R,hn⟩:=(show cf w h.sp (λn=>F n/\cls n=3) X.S/\X.S.Cl/\X.S.n=c.aD.toNat from l.at' 3)
 cases S:X.log with
 |none=>
  obtain⟨Fd,-,-,h3⟩:=d8;rw[S]at h3;have h3:h.lp=none:=h3;rw[h3];refine an.tt rfl ?_;have m:eI c self X d2=(15,(0,0),X):=by unfold eI;rw[S]
  exact E (y:=bu 15) rfl rfl rfl ⟨_,d6,rfl⟩ (b8.ah a1) (λn P=>.inl P) ⟨ai.af a1,λn P=>.inl P⟩ (by rw[m]) (by rw[m];rfl)
 |some f1=>
 obtain⟨f4,a4,c4,-⟩:=DL.Nw (S▸d8) (J.sub λn P=>P.1) λn P=>u n P.1;rw[a4];refine an.ff rfl λe9 f2=>⟨λ_=>False,?_⟩
 have b5:ai b2 e9:=f2.af;have a2:=a1.then b5;have c5:=cx.ah l a2;refine⟨p,0,rfl,id,_,_,_,_,_,_,ae c5.bg rfl,ae c5.bg rfl,p,0,rfl,_,ae c5.bg rfl,PC.ok (qP (hS.ah a2) oM) ?_⟩;rintro _ h4 ⟨la,ln,lc,G,rfl,c6,K,hG⟩;have h6:=c6.len dC;have f3:=c6.aB;have T:=a2.then K;have h7:=cx.ah l T;have b9:∀{f:World},ai w f->bb f (λn=>F n/\cls n=1) c.decl h.ta h.tn h.pa h.pn:=λ{f} H=>(cx.ah l H).at' 1;refine⟨_,_,_,rfl,K,PC.ok (Gi q.decl (J.oL.ah (J.gr.then T)) (b9 T) (λn P=>by have:=u n P.1;have:=T.size;omega) (c6.row dC ba) (λn P=>f3 n P) oM) ?_⟩;rintro _ I ⟨vp,Fv,rfl,hv,h8,L⟩;have M:=T.then L;have c1:=((c2.then b5).then K).then L;obtain⟨g5,f5⟩:=Gt q.decl X.S.l;obtain⟨a,c7⟩:∃a,a=qH c.decl X.S (cm c.decl X.S.l) self c.start d2:=⟨_,rfl⟩
 have h9:=a2.size;have i0:=K.size;have i1:=L.size;have v:∀{f:World},ai I f->ZG 80 #[.agg #[.slice h.ta h.tn h.tc,.slice h.pa h.pn h.pc],XL h.sp,XL vp,XH self,XH c.start,vK d2] f (Ok (u_ f a)):=λ{f} H=>by
  rw[c7];exact CA (J.oL.ah ((J.gr.then M).then H)) (b9 (M.then H)) (λn P=>by have:=u n P.1;have:=(M.then H).size;omega) q.decl (hS.ah (M.then H)) oM (hv.ah H) f5
   (by have:=q.start;unfold aH at this;omega) (by have:=LS R.ok;unfold aH at this;omega)
 refine⟨_,rfl,L,λU eo o no w'=>eo=0/\∃g i j G,w'.heap[U]? =some (.cells (aC a.1 g i j).toArray 63 (0,0))/\Row aJ 8 w' G g i a.1.aP/\(∀n,G n->I.heap.size<=n/\n<w'.heap.size)/\I.heap.size<=U/\o=a.2.1/\no=a.2.2/\ai I w',?_,?_⟩
 ·intro x d9
  have N:ai I x:=d9.af;have i2:x.heap.size=I.heap.size:=by rw[d9.heap]
  have e0:=M.then N;have V:=cx.ah l e0;have e1:=N.get (c1.get e5 id) id;have nS:¬x.heap.size<=p:=oM
  have f6:¬x.heap.size<=w.heap.size:=by have:=b5.size;have:=K.size;have:=L.size;omega
  refine⟨λn=>x.heap.size<=n,p,0,rfl,nS,_,_,_,_,_,_,ae V.bg rfl,ae V.bg rfl,p,0,rfl,nS,_,ae V.bg rfl,p,0,rfl,nS,_,ae V.bg rfl,p,0,rfl,nS,_,ae V.bg rfl,f6,ar (w_ d2) e1 ⟨PC.ok (v N) ?_,PA.mk λi3 c8 i4 f8=>⟨ai.af c8,PC.ok (v (N.then c8)) ?_⟩⟩⟩
  ·rintro _ c9 ⟨g,i,j,G,rfl,W,s,d0⟩
   have i5:=d0.size;refine bO (rk a.1 g i j) ⟨_,_,rfl,ai.af d0,PA.mk λi6 d1 i7 g0=>⟨ai.af d1,az (aV a.1 g i j) g0 rfl λi8 a5 i9 g1=>⟨a5.mono λn _ e=>by have e:n=c9.heap.size:=e;omega,rfl,g,i,j,G,g1,?_,λn P=>⟨by have:=s n P;omega,by have:=s n P;omega⟩,oM,rfl,rfl,?_⟩⟩⟩
   ·exact(W.ah d1).af a5 λn P e=>by have e:n=c9.heap.size:=e;have:=(s n P).2;omega
   ·exact((N.then d0).then d1).new a5 λn P=>.inr (by have P:n=c9.heap.size:=P;omega)
  ·rintro _ j0 ⟨g,i,j,G,rfl,W,s,b6⟩
   have j1:=b6.size;refine bO (rk a.1 g i j) ⟨_,_,rfl,ai.af b6,az (aV a.1 g i j) (b6.get f8 id) rfl λj2 d3 j3 g2=>⟨d3.mono λn _ e=>by have e:n=x.heap.size:=e;omega,rfl,g,i,j,G,g2,?_,λn P=>⟨by have:=s n P;omega,by have:=s n P;omega⟩,oM,rfl,rfl,?_⟩⟩
   ·exact W.af d3 λn P e=>by have e:n=x.heap.size:=e;have:=(s n P).1;omega
   ·exact((N.then c8).then b6).new d3 λn P=>.inr (by have P:n=x.heap.size:=P;omega)
 rintro U _ o no _ O ⟨rfl,g,i,j,G2,b,W,s,j4,rfl,rfl,d4⟩;have Y:=M.then d4;have j5:=cx.ah l Y;have g6:=c1.then d4;have b0:=d4.get (L.get (K.get (b5.get d6 id) id) id) id;have a6:a.1.Ok:=by rw[c7];exact Sc hx R.ok c0 q.start oM
 have a7:∀{z:Int×(Int×Int)×bh},(if a.2.2≠0 then(a.2.2,(0,0),X)else if a.2.1 then(if(fD c X [a.1]).1≠0 then((fD c X [a.1]).1,(0,0),(fD c X [a.1]).2)else(0,aW a.1,(fD c X [a.1]).2))else(0,aW a.1,X))=z->eI c self X d2=z:=λ{z} ht=>by
  rw[<-ht,c7];unfold eI;rw[S]
 have j6:=Y.size;have d5:=ax b;refine⟨λz w'=>∃d k,bP w' p d c self k/\bL F w d w'/\(∀n,d n->F n\/b2.heap.size<=n)/\w'.heap[U]? =some (.cells (aC a.1 g i j).toArray 63 (0,0))/\(∃r,w'.heap[C.heap.size]? =some (.cells r 53 (0,0))/\r.size=8)/\eI c self X d2=(if z≠0 then(z,(0,0),k)else(0,aW a.1,k)),?_,?_⟩
 ·have A:eI c self X d2=(if a.2.2≠0 then(a.2.2,(0,0),X)else(0,aW a.1,X))->∃d k,bP O p d c self k/\bL F w d O/\(∀n,d n->F n\/b2.heap.size<=n)/\O.heap[U]? =some (.cells (aC a.1 g i j).toArray 63 (0,0))/\(∃r,O.heap[C.heap.size]? =some (.cells r 53 (0,0))/\r.size=8)/\eI c self X d2=(if a.2.2≠0 then(a.2.2,(0,0),k)else(0,aW a.1,k)):=λm=>
   ⟨F,X,b8.ah Y,⟨ai.af Y,λn P=>.inl P⟩,λn P=>.inl P,b,⟨_,b0,rfl⟩,m⟩
  refine an.dE (λB=>an.mk (λt=>?_) (λt=>A (a7 (by rw[Zq (by simpa using B),Zq (by simpa using t),Zq (by simpa using B)])))) (λB=>A (a7 (by rw[Zx B,Zx B])));refine⟨_,_,_,_,_,_,_,_,_,_,_,_,ae b rfl,ae b rfl,ae b rfl,ae b rfl,ae b rfl,ae b rfl,ae b rfl,ae b rfl,ae b rfl,ae b rfl,PA.mk λe2 b7 j7 g3=>?_⟩;have a9:=Y.then b7;have f0:Row jo 96 e2 (λn=>n=O.heap.size\/G2 n) (XM O.heap.size) 1 [a.1]:=row_one g3 ⟨g,i,j,rfl,W.ah b7,a6⟩ dC;refine PC.ok (HU (cx.ah l a9) q (J.ah a9) S f0 (λn P=>?_) (by simpa using hl)) ?_
  ·have g4:I.heap.size<=n/\n<e2.heap.size:=P.elim (λe=>⟨oM,oM⟩) λh5=>by have:=s n h5;omega
   exact⟨g4.2,λt=>by have:=u n t.1;omega⟩
  rintro _ j8 ⟨rfl,h',d,Z,a8,a0,-⟩;refine⟨_,rfl,d,(fD c X [a.1]).2,⟨q,h',Z,a8⟩,⟨(ai.af a9).then a0.af,λn P=>(a0.new n P).imp id λh1=>oM⟩,λn P=>(a0.new n P).imp id λh1=>by have:=c2.size;omega,a0.af.get (b7.get b id) λt=>by have:=u _ t;omega,⟨_,a0.af.get (b7.get b0 id) λt=>by have:=u _ t;omega,rfl⟩,?_⟩;exact a7 (by rw[Zq (by simpa using B),Zx t])
 ·rintro z _ j9 ⟨d,k,b3,Q,b4,b1,hz,m⟩
  refine an.dF (λc4=>?_) (λB=>⟨_,_,ae b1 rfl,ae b1 rfl,?_⟩)
  ·rw[Zx c4]at m
   exact E (y:=bu z) rfl rfl rfl hz b3 b4 Q (by rw[m]) (by rw[m];exact Zx c4)
  ·rw[Zq (by simpa using B)]at m
   exact E (y:=G_ (aW a.1)) rfl rfl rfl hz b3 b4 Q (by rw[m]) (by rw[m];rfl)
end
def eZ(c:World)(d:XN)(g:List bS)(h:Value)(a:World):Prop:=
 ∃(P:ZH) (e f:Nat) (b:List IK) (D:XN),h= .slice P e f/\aO MT 127 (λn=>aF P=some n) a P e f b/\b.map (·.m)=g/\(∀n∈b,n.In a D)/\(∀n,D n->c.heap.size<=n/\n<a.heap.size/\aF P≠some n/\¬d n)/\∀n,aF P=some n->c.heap.size<=n/\¬d n
section
variable {w w' w0 w1:World} {p:Nat} {F E T Z:XN} {cls:Nat->Nat} {h:jk} {c:bQ} {self:Int} {X:bh} {ms:List bS} {v:Value}
def a_.out(e:a_ w1 ms v w')(c:∀n,Z n->n<w1.heap.size)(o:w.heap.size<=w1.heap.size):eZ w Z ms v w':=by
 obtain⟨f,g,h,i,D,j,k,l,m,a,d,p⟩:=e;exact⟨f,g,h,i,D,j,k,l,m,λn P=>⟨by have:=(a n P).1;omega,(a n P).2.1,(a n P).2.2,λb=>by have:=c n b;have:=(a n P).1;omega⟩,λn P=>⟨by have:=d n P;omega,λb=>by have:=c n b;have:=d n P;omega⟩⟩
def eZ.nil(w0 w:World)(Z:XN):eZ w0 Z [] (.slice none 0 0) w:=⟨none,0,0,[],λ_=>False,rfl,(aO.nil w).mono (λP n=>n.elim) (λP n=>(by cases n)),rfl,sM,λP n=>n.elim,λP n=>(by cases n)⟩
def a_.one{m:bS}{va b:ZH}{vn vc c d a:Nat}{D:XN}(f:w.heap[a]? =some (.cells (dw m va vn vc b c d).toArray 127 (0,0)))(h:(⟨m,va,vn,vc,b,c,d⟩:IK).In w D)(e:∀P,D P->w0.heap.size<=P/\P<w.heap.size/\P≠a)(j:w0.heap.size<=a)(i:ai w0 w):
  a_ w0 [m] (.slice (XM a) 1 1) w:=by
 have k:=ax f;refine⟨XM a,1,1,[⟨m,va,vn,vc,b,c,d⟩],D,rfl,⟨⟨dw m va vn vc b c d,λ_=>False,Own.zq f rfl (by unfold maxLen;omega),bD.one ⟨rfl,trivial⟩,λP n=>n.elim⟩,λP n=>n,λP n=>?_⟩,rfl,λP n=>?_,λP n=>⟨(e P n).1,(e P n).2.1,λg=>?_⟩,λP n=>?_,i⟩
 ·simp only[aF,Q1]at n;omega
 ·simp at n;subst n;exact h
 ·simp only[aF,Q1]at g;exact(e P n).2.2 g.symm
 ·simp only[aF,Q1]at n;omega
def Ex(o:bP w p F c self X)(A:aH e):
  ZG 51 #[XL p,XH e,XH r] w (Ok λv w'=>∃n,eZ w n (gS c self X e r).1 v w'/\bP w' p n c self (gS c self X e r).2/\bL F w n w'):=by
 have B:=o;obtain⟨C,h,cls,b⟩:=o;have no:(e<0\/e>=c.aD\/e=self)->Ok (λv w'=>∃n,eZ w n (gS c self X e r).1 v w'/\bP w' p n c self (gS c self X e r).2/\bL F w n w') (.returned (.slice none 0 0)) w:=λi=>by
  have:gS c self X e r=([],X):=by unfold gS;rw[Zx i]
  rw[this];exact Ok.mk ⟨F,eZ.nil _ _ _,B,bL.refl _ _⟩
 refine kf (an.dec (λj=>no (.inl j)) (λj=>⟨p,0,rfl,_,ae b.bg rfl,an.dec (λk=>no (.inr (.inl k))) (λk=>⟨p,0,rfl,_,ae b.bg rfl,an.dE (λl=>no (.inr (.inr l))) (λl=>⟨p,0,rfl,_,ae b.bg rfl,?_⟩)⟩)⟩));have E:gS c self X e r=([jQ X.S self e],{X with fK:={X.fK with asked:=aI X.fK.asked e r}}):=by unfold gS;rw[Zq (by rintro(h|h|h);exact j h;exact k h;exact l h)]
 refine PC.ok (Ih (b.at' 6) A) ?_;rintro _ q ⟨rfl,H,s⟩;have I:cx q F cls p h c self {X with fK:={X.fK with asked:=aI X.fK.asked e r}}:=aT.same b bE (k:=6) s H λt G J i=>by
  rcases t with _|_|_|_|_|_|_|t<;>first|exact i|exact Zz rfl J
 refine⟨rfl,λm K=>?_⟩;have u:ai q m:=K.af;have a:=cx.ah I u;refine⟨p,0,rfl,_,ae a.bg rfl,p,0,rfl,_,ae a.bg rfl,PC.ok (xB (a.at' 3).1) ?_⟩;rintro _ L ⟨R,S,T,G,rfl,x,M,f⟩;have y:=x.aB;have N:=f.size;refine⟨_,_,_,_,_,_,_,_,_,rfl,PA.mk λvy g U O=>?_⟩;rw[E];have Q:a_ m [jQ X.S self e] (.slice (XM L.heap.size) 1 1) vy:=a_.one (D:=G) O ⟨(x.ah g).row dC (by show X.S.vec.length*8<=aK;rw[X.S.bM];have:=(a.at' 3).1.1.n;have:X.S.n<=64:=this;unfold aK;omega),cT _ _⟩ (λd P=>⟨M d P,by have:=y d P;omega,by have:=y d P;omega⟩) N (f.then g);have z:ak F w m:=(s.mono λd _ P=>P.1).ah u;exact Ok.mk ⟨F,Q.out a.aB z.size,⟨C,h,cls,cx.ah a (f.then g)⟩,(z.ah f).ah g,λd P=>.inl P⟩
def Sd(T:jr)(b:Int):∀n∈T.due b,n∈T.open:=by
 have:∀(c:List Int) (d:List Int×List (Int×Int)),∀n∈(c.foldl (fB T.cP b) d).1,n∈d.1\/n∈c:=by
  intro c
  induction c with
  |nil=>intro d n P;exact .inl P
  |cons g c f=>
   intro d n P;rcases f _ n P with a|a
   ·unfold fB at a
    split at a
    ·rcases Q6.1 a with e|e
     ·exact .inl e
     ·simp at e;subst e;exact .inr (QV ..)
    ·exact .inl a
   ·exact .inr (QJ _ a)
 intro n P;unfold jr.due jr.iE at P;rw[List.take_length]at P;exact(this T.open ([],T.asked) n P).resolve_left sM
def Qf{T:jr}(a:∀n∈T.asked,aH n.1):∀P∈T.open,aH P:=λP b=>by
 have:P∈T.asked.map (·.1):=(List.mergeSort_perm _ _).mem_iff.1 b;obtain⟨n,c,rfl⟩:=Xk.1 this;exact a n c
def Lk(T:jr)(n:Int):(T.due n).length<=T.asked.length:=by
 have:∀(a:List Int) (P:List Int×List (Int×Int)),(a.foldl (fB T.cP n) P).1.length<=P.1.length+a.length:=by
  intro a
  induction a with
  |nil=>intro P;simp
  |cons b a d=>
   intro P;have c:=d (fB T.cP n P b);have e:(fB T.cP n P b).1.length<=P.1.length+1:=by
    unfold fB;split
    ·simp
    ·omega
   simp only[List.foldl_cons,Xq];omega
 have c:=this T.open ([],T.asked);unfold jr.due jr.iE;rw[List.take_length];have e:T.open.length=T.asked.length:=by simp[jr.open,ve]
 simp only[ZQ]at c;omega
def ON(M:bP w p F c self X)(a:X.fK.asked.length<=1000):
  ZG 49 #[XL p,XH e] w (Ok λv w'=>∃l,eZ w l (pI self X e).1 v w'/\bP w' p l c self (pI self X e).2/\bL F w l w'):=by
 obtain⟨N,h,cls,m⟩:=M;have u:dA w h.tp (λn=>F n/\cls n=6) X.fK:=m.at' 6;have O:∀b∈X.fK.due e,aH b:=λb f=>Qf u.r_ b (Sd _ _ b f);have b0:=Lk X.fK e;refine nK ⟨p,0,rfl,_,ae m.bg rfl,PC.ok (ND u ba) ?_⟩;rintro _ g ⟨Q,o,cc,rfl,x,R,q,hn⟩;have y:cx g F cls p h c self {X with fK:=X.fK.Qg e}:=aT.same m bE (k:=6) q R λP G z S=>by
  rcases P with _|_|_|_|_|_|_|P<;>first|exact S|exact Zz rfl z
 have T:=x.length;rw[iW,Nat.mul_one]at T;have U:Ints g Q o (X.fK.due e):=x.ints ba O;have V:=y.aB;have W:=q.size;refine⟨_,_,_,rfl,λA B C E Y w'=>∃P:Nat,Y=P/\P<=o/\A=o-P/\a_ g (((X.fK.due e).take P).map λd=>jQ X.S self d) (.slice B C E) w',⟨_,0,rfl,Qj _,rfl,a_.nil g⟩,?_⟩;rintro A B C E _ _ Z ⟨P,rfl,z,rfl,i⟩;have r:=i;obtain⟨a3,n1,c1,a4,D,he,g2,g3,g4,g5,g6,j⟩:=r
 cases he
 have H:=cx.ah y j;have b1:=j.size;refine an.dec (λb2=>?_) (λb3=>?_)
 ·obtain⟨n,s,b,rfl,b4,f,b5,a0⟩:=(U.ah j).at (i:=(P:Int)) oM oM
  rw[Qx]at f;refine⟨n,s,rfl,oM,oM,b,a0,λa6 a7=>?_⟩;have t:ai Z a6:=a7.af;have k:=cx.ah H t;refine⟨p,0,rfl,_,ae k.bg rfl,p,0,rfl,_,ae k.bg rfl,PC.ok (xB (k.at' 3).1) ?_⟩;rintro _ b6 ⟨va,vn,vc,G,rfl,I,J,K⟩;have a8:=I.aB;have b7:=t.size;have b8:=K.size;refine⟨_,_,_,_,_,_,_,_,_,rfl,PA.mk λb9 L c2 a9=>?_⟩;refine a_.push (m:=jQ X.S self b) (E:=G) (i.ah ((t.then K).then L)) Dg ⟨(I.ah L).row dC (by show X.S.vec.length*8<=aK;rw[X.S.bM];have:X.S.n<=64:=(k.at' 3).1.1.n;unfold aK;omega),cT _ _⟩ (λn a=>⟨by have:=J n a;omega,by have:=a8 n a;omega,λa1=>by have:=g2.aB n a1;have:=J n a;omega⟩) a9 (by rw[Q8,Qy];omega) λa' c' c3 a2 c4=>⟨_,_,_,rfl,_,?_,P+1,aq oM,oM,rfl,?_⟩
  ·omega
  ·rw[Qw,f,Q3];exact a2
 ·rw[Qz oM]at i
  exact Ok.mk ⟨F,i.out V W,⟨N,h,cls,H⟩,(q.mono λn _ a=>a.1).ah j,λn a=>.inl a⟩
def Jo(a:bP w p F c self X)(n:X.S.l.length<=20000000):ZG 22 #[XL p] w (Ok (px jo 63 w X.S.l)):=by
 obtain⟨f,h,cls,P⟩:=a;refine lQ ⟨p,0,rfl,_,ae P.bg rfl,PC.ok (qP (P.at' 3).1 n) ?_⟩;rintro _ g ⟨b,d,e,G,rfl,n⟩;exact⟨_,_,_,rfl,Ok.mk ⟨b,d,e,G,rfl,n⟩⟩
end
def vh{c:aw}:∀{P:List aj} {e:aj} {S':aw} {l':List aj},eF c P=some (e,S',l')->l'.length+1=P.length
 |[],e,S',l',n=>by simp[eF]at n
 |x::P,e,S',l',n=>by
  unfold eF at n;split at n
  ·simp only[Q1,Prod.mk.injEq]at n
   obtain⟨-,-,rfl⟩:=n;rfl
  ·cases a:eF c P with
   |none=>rw[a]at n;cases n
   |some b=>
    rw[a]at n;simp only[Option.map_some,Q1,Prod.mk.injEq]at n;obtain⟨rfl,rfl,rfl⟩:=n;have:=vh (e:=b.1) (S':=b.2.1) (l':=b.2.2) a;simp only[Xq];omega
def vi:∀(k:Nat) (a:aw) (P n:List aj),(dT k a P n).1.length+(dT k a P n).2.length=n.length+P.length
 |0,a,P,n=>rfl
 |k+1,a,P,n=>by
  unfold dT
  cases e:eF a P with
  |none=>rfl
  |some f=>
   obtain⟨b,c,d⟩:=f;have h:=vh e;have g:=vi k c d (n++[b]);show(dT k c d (n++[b])).1.length+(dT k c d (n++[b])).2.length=_;rw[g,QX,List.length_singleton];omega
def vj(P:aw)(n:List aj):(br P n).1.length+(br P n).2.length<=n.length:=by
 unfold br;dsimp only;rw[vi];have:=List.length_filter_le (λa=>(P.get (aW a)).isNone) n;simp only[ZQ];omega
structure FO (w:World) (wp most:Nat) (M0 D0 E:XN) (s:Nat) (S:aw) (b:List aj) (oa:ZH) (on oc:Nat) (Lo:List (Bx aj)) (w1:World) (M Db Fs Do:XN):Prop where
 buf:gi w1 wp M Db most b
 set:cf w1 s Fs S
 Mk:∀x∈Lo,mC.In w1 Do x
 out:aO mC.jq 63 (λb=>aF oa=some b) w1 oa on oc Lo
 nM:∀b,M b->(M0 b\/w.heap.size<=b)/\¬Fs b
 nD:∀b,Db b->(D0 b\/w.heap.size<=b)/\¬Fs b
 nF:∀b,Fs b->w.heap.size<=b
 nO:∀b,Do b->(E b\/D0 b\/w.heap.size<=b)/\b<w1.heap.size/\¬M b/\¬Fs b
 nA:∀b,aF oa=some b->w.heap.size<=b/\¬M b/\¬Fs b/\¬Do b/\¬Db b
 af:ak M0 w w1
 cl:S.Cl
section
variable {w w' w0 w1 w2:World} {p wp most s on oc:Nat} {F E T Z M0 D0 M Db Fs Do:XN} {cls:Nat->Nat} {h:jk} {c:bQ} {self:Int} {X:bh} {S:aw} {b:List aj} {oa:ZH} {Lo:List (Bx aj)}
def gi.Nz(n:gi w p M Db most b):∀b,M b->b<w.heap.size:=by obtain⟨-,a,d,c,e,P⟩:=n;exact P.dM
def gi.Ii(n:gi w p M Db most b):∀b,Db b->b<w.heap.size/\¬M b:=by obtain⟨-,a,d,c,e,P⟩:=n;exact P.dD
def FO.ah(n:FO w wp most M0 D0 E s S b oa on oc Lo w1 M Db Fs Do)(P:ai w1 w2):FO w wp most M0 D0 E s S b oa on oc Lo w2 M Db Fs Do:=
 ⟨n.buf.ah P,n.set.ah P,λc d=>(n.Mk c d).af P λ_ _ h=>h,n.out.ah P,n.nM,n.nD,n.nF,λb a=>⟨(n.nO b a).1,by have:=(n.nO b a).2.1;have:=P.size;omega,(n.nO b a).2.2⟩,n.nA,n.af.ah P,n.cl⟩
def FO.add(P:FO w wp most M0 D0 E s S b oa on oc Lo w1 M Db Fs Do){h l:Nat}(m:Row aJ 8 w1 f d h o.aP)(p:∀b,f b->b<w1.heap.size/\¬Fs b)(i:o.Ok)(y:S.l.length<=20000000):
  ZG 74 #[XL s,jD o d h l] w1 (Ok λj w'=>j= XH (S.add o).1/\∃e,FO w wp most M0 D0 E s (S.add o).2 b oa on oc Lo w' M Db e Do/\ak Fs w1 w'/\∀b,e b->Fs b\/w1.heap.size<=b):=by
 refine(tM P.set m p i oM).mono ?_;rintro _ w2 ⟨j,rfl,rfl,k,q,a⟩;have r:=P.buf.Nz;have t:=P.buf.Ii;have z:=P.af.size;have c:∀b,b<w1.heap.size->¬Fs b->¬k b:=λb A u g=>(a.new b g).elim u oM;refine Ok.mk ⟨rfl,k,⟨P.buf.af a.af (λb n=>(P.nM b n).2) λb n=>(P.nD b n).2,q,λv x=>(P.Mk v x).af a.af λb n=>(P.nO b n).2.2.2,P.out.af a.af λb n=>(P.nA b n).2.2.1,λb n=>⟨(P.nM b n).1,c b (r b n) (P.nM b n).2⟩,λb n=>⟨(P.nD b n).1,c b (t b n).1 (P.nD b n).2⟩,
  λb n=>(a.new b n).elim (P.nF b) λY=>oM,λb n=>⟨(P.nO b n).1,by have:=(P.nO b n).2.1;have:=a.af.size;omega,(P.nO b n).2.2.1,c b (P.nO b n).2.1 (P.nO b n).2.2.2⟩,λb n=>⟨(P.nA b n).1,(P.nA b n).2.1,c b (P.out.aB b n) (P.nA b n).2.2.1,(P.nA b n).2.2.2⟩,P.af.new a.af λb n=>.inr (P.nF b n),P.cl.add i⟩,a.af,a.new⟩
def FO.push{t:Program}(P:FO w wp most M0 D0 E s S b oa on oc Lo w1 M Db Fs Do)(y:jF t g 63 mC.jq.k 96){c:Bx aj}(z:mC.In w1 f c)(d:∀b,f b->(E b\/D0 b\/w.heap.size<=b)/\b<w1.heap.size/\¬M b/\¬Fs b/\aF oa≠some b)(A:w1.heap[a]? =some (.cells (aC c.x c.a c.n c.c).toArray 63 C))(Q:Lo.length<=1000000){u B:XR}(p:∀k o w' r,FO w wp most M0 D0 E s S b k (on+1) o (Lo++[c]) w' M Db Fs r->ak (λb=>aF oa=some b) w1 w'->(∀b,aF k=some b->aF oa=some b\/w1.heap.size<=b)->u (.slice k (on+1) o) w'):
  aG t (Builtin.append_ #[g,g] q #[.slice oa on oc,.slice (XM a) 1 1]) w1 u B:=by
 refine eY (c:=mC.jq) (x:=c) (D:=λ_=>False) P.out y A ⟨rfl,trivial⟩ (λb n=>n.elim) ba (by unfold maxLen;omega) λk o w2 R v e F=>?_;have I:=v.alone;have x:∀b,aF k=some b->aF oa=some b\/w1.heap.size<=b:=λb n=>(F b (v.self b n)).imp id λh=>h.resolve_left id;have T:=e.size;have z1:=P.af.size;have J:=P.buf.Nz;have K:=P.buf.Ii;have L:=P.set.aB;have nA:=P.nA;refine p k o w2 (λb=>Do b\/f b) ⟨P.buf.af e (λb n i=>(nA b i).2.1 n) λb n i=>(nA b i).2.2.2.2 n,P.set.af e λb n i=>(nA b i).2.2.1 n,λN l=>?_,I,P.nM,P.nD,P.nF,λb n=>?_,λb n=>?_,P.af.new e λb n=>.inr (nA b n).1,P.cl⟩ e x
 ·rcases Q6.1 l with l|l
  ·exact((P.Mk N l).af e λb n i=>(nA b i).2.2.2.1 n).mono λb n=>.inl n
  ·simp at l;subst l
   exact(z.af e λb n=>(d b n).2.2.2.2).mono λb n=>.inr n
 ·rcases n with n|n
  ·exact⟨(P.nO b n).1,by have:=(P.nO b n).2.1;omega,(P.nO b n).2.2⟩
  ·exact⟨(d b n).1,by have:=(d b n).2.1;omega,(d b n).2.2.1,(d b n).2.2.2.1⟩
 ·rcases x b n with H|H
  ·exact⟨(nA b H).1,(nA b H).2.1,(nA b H).2.2.1,λm=>m.elim (nA b H).2.2.2.1 λO=>(d b O).2.2.2.2 H,(nA b H).2.2.2.2⟩
  ·exact⟨oM,λj=>by have:=J b j;omega,λj=>by have:=L b j;omega,λj=>j.elim (λm=>by have:=(P.nO b m).2.1;omega) λm=>by have:=(d b m).2.1;omega,λj=>by have:=(K b j).1;omega⟩
def FO.wait(n:FO w wp most M0 D0 E s S b oa on oc Lo w1 M Db Fs Do){j p:Nat}(q:Row aJ 8 w1 f d j o.aP)(r:∀b,f b->b<w1.heap.size)(t:o.Ok):
  ZG 246 #[XL wp,jD o d j p] w1 (Ok λk w'=>∃u,k= .bool u/\∃g h,FO w wp most M0 D0 E s S (eS most b o).2 oa on oc Lo w' g h Fs Do/\ak M w1 w'):=by
 refine(IW n.buf q r t).mono ?_;rintro _ w2 ⟨k,rfl,rfl,g,v,x,e,i,l⟩;have m:=n.set.aB;have A:=n.af.size;have B:=e.size;refine Ok.mk ⟨_,rfl,g,v,⟨x,n.set.af e λb P c=>(n.nM b c).2 P,λy z=>(n.Mk y z).af e λb P=>(n.nO b P).2.2.1,n.out.af e λb P=>(n.nA b P).2.1,λb P=>?_,λb P=>?_,n.nF,λb P=>⟨(n.nO b P).1,by have:=(n.nO b P).2.1;omega,λc=>?_,(n.nO b P).2.2.2⟩,λb P=>⟨(n.nA b P).1,λc=>?_,(n.nA b P).2.2.1,(n.nA b P).2.2.2.1,λc=>?_⟩,?_,n.cl⟩,e⟩
 ·rcases i b P with a|a
  ·exact n.nM b a
  ·exact⟨.inr oM,λc=>by have:=m b c;omega⟩
 ·rcases l b P with a|a
  ·exact n.nD b a
  ·exact⟨.inr oM,λc=>by have:=m b c;omega⟩
 ·rcases i b c with a|a
  ·exact(n.nO b P).2.2.1 a
  ·have:=(n.nO b P).2.1;omega
 ·rcases i b c with a|a
  ·exact(n.nA b P).2.1 a
  ·have:=n.out.aB b P;omega
 ·rcases l b c with a|a
  ·exact(n.nA b P).2.2.2.2 a
  ·have:=n.out.aB b P;omega
 ·exact n.af.new e λb P=>(n.nM b P).1
def FO.ready(n:FO w wp most M0 D0 E s S b oa on oc Lo w1 M Db Fs Do)(i:S.l.length<=19000000):
  ZG 247 #[XL wp,XL s] w1 (Ok λh w'=>∃a e f d,h= .slice a e f/\aO mC.jq 63 (λb=>aF a=some b) w' a e f d/\d.map (·.x)=(br S b).1/\(∀g∈d,mC.In w' Db g)/\(∀b,aF a=some b->w1.heap.size<=b)/\
   FO w wp most M0 D0 E s S (br S b).2 oa on oc Lo w' M Db Fs Do/\ak M w1 w'):=by
 refine(Ek n.buf n.set n.cl i).mono ?_;rintro _ w2 ⟨h,rfl,a,e,f,d,rfl,j,k,l,m,o,c⟩;have r:=c.size;exact Ok.mk ⟨a,e,f,d,rfl,j,k,l,m,⟨o,n.set.af c λb P p=>(n.nM b p).2 P,λg q=>(n.Mk g q).af c λb P=>(n.nO b P).2.2.1,n.out.af c λb P=>(n.nA b P).2.1,n.nM,n.nD,n.nF,λb P=>⟨(n.nO b P).1,by have:=(n.nO b P).2.1;omega,(n.nO b P).2.2⟩,n.nA,n.af.new c λb P=>(n.nM b P).1,n.cl⟩,c⟩
end
section
variable {w w' w0 w1 w2:World} {p wp most s on oc:Nat} {F E T Z M0 D0 M Db Fs Do:XN} {cls:Nat->Nat} {h:jk} {c:bQ} {self:Int} {X:bh} {S:aw} {b:List aj} {oa:ZH} {Lo:List (Bx aj)} {evs:List aj} {ea:ZH} {en ec:Nat}
def Bu(most:Nat)(n:List aj)(P:aj):(eS most n P).2.length<=n.length+1:=by
 unfold eS;split
 ·show n.length<=_;omega
 ·show(c_ P n).length<=_
  rw[(cU P n).length_eq];simp
def Ny(L:cx w F cls p h c self X)(e5:iY c self)(hr:Row jo 96 w E ea en evs)(A:∀b,E b->b<w.heap.size/\¬F b)(m4:evs.length<=1000)(hl:X.S.l.length<=18000000):
  ZG 190 #[XL p,.slice ea en ec] w (Ok λf0 w'=>∃oa on oc Lo U o Do,f0= .slice oa on oc/\aO mC.jq 63 (λb=>aF oa=some b) w' oa on oc Lo/\Lo.map (·.x)=(kN c X evs).1/\(∀n∈Lo,mC.In w' Do n)/\
   cx w' U o p h c self {X with waits:=(kN c X evs).2}/\bL F w U w'/\(∀b,Do b->b<w'.heap.size/\aF oa≠some b/\¬(U b/\o b=2))/\(∀b,aF oa=some b->w.heap.size<=b/\¬U b)/\(kN c X evs).1.length<=evs.length+256):=by
 obtain⟨m9,n0,n1⟩:=e5.aD;have e6:=L.aB;have i7:=L.HT;obtain⟨hS,a0,hn⟩:=(show cf w h.sp (λb=>F b/\cls b=3) X.S/\X.S.Cl/\X.S.n=c.aD.toNat from L.at' 3)
 obtain⟨M0,D0,t,c3,a1⟩:=(show Na w (λb=>F b/\cls b=5) h.wp c.buffer.toNat X.waits from L.at' 5)
 have f1:X.waits.length<=256:=Xx t.1.2.le t.1.1;have n3:=hr.len;refine mV (PC.ok (Ie (evs:=[]) L e5 (cT w (λ_=>False)) (λb a=>a.elim) be) ?_);rintro _ w4 ⟨s,i8,rfl,i9,b1,k4⟩;have e7:eO c X.S []=X.S:=(Ic a0 hn []).trans rfl;have z4:=k4.size;have j0:(eO c X.S []).Cl:=by rw[e7];exact a0
 have j1:(eO c X.S []).l.length=X.S.l.length:=by rw[e7]
 have j2:FO w h.wp c.buffer.toNat M0 D0 E s (eO c X.S []) X.waits none 0 0 [] w4 M0 D0 i8 (λ_=>False):=by
  have j3:=t.Nz;have e8:=t.Ii;refine⟨t.ah k4,i9,sM,(aO.nil w4).mono (λb a=>a.elim) (λb a=>(by cases a)),λb a=>⟨.inl a,λi=>by have:=j3 b a;have:=b1 b i;omega⟩,λb a=>⟨.inl a,λi=>by have:=(e8 b a).1;have:=b1 b i;omega⟩,b1,λb a=>a.elim,λb a=>(by cases a),ai.af k4,j0⟩
 have B:∀{w1:World},ak M0 w w1->w1.heap[p]? =some (.cells (h.cells c self) 105 (0,0)):=λ{w1} hk=>hk.get L.bg λj=>by
  have:=(c3 p j).2;rw[i7.2]at this;cases this
 have e9:∀b,E b->¬M0 b:=λb a j=>(A b a).2 (c3 b j).1;obtain⟨C,f2⟩:∃C,C=iF c.buffer.toNat evs (eO c X.S []) [] X.waits:=⟨_,rfl⟩
 have r:kN c X evs=vk (C.2.2.length+1) C.1 C.2.1 C.2.2:=by rw[f2];rfl
 refine⟨_,rfl,λH oa on oc I w'=>∃(d:Nat) (S:aw) (b:List aj) (Lo:List (Bx aj)) (M Db Fs Do:XN),I=d/\d<=en/\H=en-d/\FO w h.wp c.buffer.toNat M0 D0 E s S b oa on oc Lo w' M Db Fs Do/\iF c.buffer.toNat (evs.drop d) S (Lo.map (·.x)) b=C/\S.l.length<=X.S.l.length+Lo.length/\Lo.length<=d/\b.length<=256/\Lo.length+b.length<=X.waits.length+d,
  ⟨_,0,_,_,_,_,_,_,_,rfl,Qj _,rfl,j2,f2.symm,by simp[j1],sM,f1,sM⟩,?_⟩
 rintro H oa on oc _ _ f3 ⟨d,S,b,Lo,M,Db,Fs,Do,rfl,hj,rfl,i,u,V,f5,b3,f6⟩;have j4:=i.af.size;have j5:=i.out.len dC;refine an.dec (λj6=>?_) (λj7=>?_)
 ·obtain⟨n,g⟩:∃n,evs[d]? =some n:=⟨_,Qq oM⟩
  have a8:evs.drop d=n::evs.drop (d+1):=by
   rw[X4 oM]
   congr 1
   exact(Qv.1 g).2
  rw[a8]at u;obtain⟨gb,go,es,ha,j8,n4,d3,xa,xn,xc,rfl,d4,b4⟩:=(hr.af i.af e9).el d n g;refine⟨gb,go,ha,oM,oM,bw (es:=aC n xa xn xc) (k:=10) (aV _ _ _ _) rfl (λI ht=>by rw[Qx];exact d3 I ht) (PA.mk λn8 j9 n9 k0=>az (aV n xa xn xc) k0 rfl λk1 k2 o0 f8=>ar (aV n xa xn xc) f8 ?_)⟩;have a2:ai f3 k1:=j9.new k2 λb a=>.inr (by have a:b=f3.heap.size:=a;omega);have o1:=a2.size;have d5:∀b,E b->¬Fs b:=λb a j=>by have:=i.nF b j;have:=(A b a).1;omega
  refine PC.ok ((i.ah a2).add (d4.ah a2) (λb a=>⟨by have:=(A b a).1;omega,d5 b a⟩) b4 oM) ?_;rintro _ k3 ⟨rfl,N,J,a5,m5⟩;have o2:=a5.size;have b5:=i.set.aB;have v:=a5.get f8 λj=>by have:=b5 _ j;omega
  have g0:=S.yO n;have f4:iF c.buffer.toNat (n::evs.drop (d+1)) S (Lo.map (·.x)) b=if(S.add n).1=0 then iF c.buffer.toNat (evs.drop (d+1)) (S.add n).2 (Lo.map (·.x)++[n]) b else if(S.add n).1=16 then iF c.buffer.toNat (evs.drop (d+1)) S (Lo.map (·.x)) b else iF c.buffer.toNat (evs.drop (d+1)) S (Lo.map (·.x)) (eS c.buffer.toNat b n).2:=rfl
  rw[f4]at u;have a9:(S.add n).1≠0->(S.add n).2=S:=λW=>by
   rcases S.iI n with⟨-,e⟩|⟨e,-⟩
   ·exact e
   ·rw[e]at W;exact Zz rfl W
  refine⟨_,rfl,an.dE (λq=>?_) (λq=>an.dE (λd6=>?_) (λd6=>λk5 k6=>?_))⟩
  ·rw[Zx q]at u
   have c5:(S.add n).2.l.length<=S.l.length+1:=g0;refine⟨_,_,_,_,_,_,_,_,_,_,_,_,ae v rfl,ae v rfl,ae v rfl,ae v rfl,ae v rfl,ae v rfl,ae v rfl,ae v rfl,ae v rfl,ae v rfl,PA.mk λk7 d7 o3 k8=>?_⟩;have g1:mC.In k7 E ⟨n,xa,xn,xc⟩:=⟨((d4.ah a2).af a5 λb a=>d5 b a).ah d7,b4⟩
   have g2:=J.ah d7;refine g2.push sH g1 (λb a=>⟨.inl a,by have:=(A b a).1;have:=d7.size;omega,λj=>?_,λj=>by have:=J.nF b j;have:=(A b a).1;omega,λm=>by have:=(J.nA b m).1;have:=(A b a).1;omega⟩) k8 oM λa' c' o4 O g3 m6 _=>⟨_,_,_,rfl,_,oM,d+1,_,_,_,M,Db,N,O,aq oM,oM,rfl,g3,?_,?_,?_,b3,?_⟩
   ·rcases(J.nM b j).1 with e|e
    ·exact e9 b a e
    ·have:=(A b a).1;omega
   ·rw[Q3];exact u
   ·rw[QX,List.length_singleton];omega
   ·rw[QX,List.length_singleton];omega
   ·rw[QX,List.length_singleton];omega
  ·rw[Zq q,Zx d6]at u
   rw[a9 q]at J;exact⟨_,oM,d+1,S,b,Lo,M,Db,N,Do,aq oM,oM,rfl,J,u,V,oM,b3,oM⟩
  ·rw[Zq q,Zq d6]at u
   rw[a9 q]at J;have c6:ai k3 k5:=k6.af;have c9:=J.ah c6;refine⟨p,0,rfl,_,ae (B c9.af) rfl,ar (aV n xa xn xc) (c6.get v id) (PC.ok (c9.wait (((d4.ah a2).af a5 λb a=>d5 b a).ah c6) (λb a=>by have:=(A b a).1;have:=c6.size;omega) b4) ?_)⟩;rintro _ o5 ⟨I,rfl,M',b6,b7,m7⟩;have d8:=Bu c.buffer.toNat b n;have g4:(eS c.buffer.toNat b n).2.length<=256:=Xx b7.buf.1.2.le b7.buf.1.1;exact⟨_,rfl,_,oM,d+1,S,_,Lo,M',b6,N,Do,aq oM,oM,rfl,b7,u,V,oM,g4,oM⟩
 have o6:d=evs.length:=oM
 rw[List.drop_eq_nil_of_le oM]at u;have d0:C=(S,Lo.map (·.x),b):=u.symm;rw[d0]at r;have b8:Lo.length+b.length<=evs.length+256:=oM
 refine⟨λH oa on oc w'=>∃(S:aw) (b:List aj) (Lo:List (Bx aj)) (M Db Fs Do:XN) (k:Nat),H=b.length/\FO w h.wp c.buffer.toNat M0 D0 E s S b oa on oc Lo w' M Db Fs Do/\b.length<=k/\vk (k+1) S (Lo.map (·.x)) b=kN c X evs/\S.l.length<=X.S.l.length+Lo.length/\Lo.length+b.length<=evs.length+256,
  ⟨_,S,b,Lo,M,Db,Fs,Do,b.length,rfl,i,Q4 _,r.symm,V,b8⟩,?_⟩
 clear i u V f5 b3 f6 b8 j5 j4 d0 r
 rintro H oa on oc _ o7 ⟨S,b,Lo,M,Db,Fs,Do,k,rfl,i,hk,r,V,f6⟩;have o8:=i.af.size;refine⟨p,0,rfl,_,ae (B i.af) rfl,PC.ok (i.ready oM) ?_⟩;rintro _ o9 ⟨Y,n2,f7,Z,rfl,g5,d9,k9,g6,l,g7⟩;have p0:=g5.len dC;have d8:=vj S b;have g8:Z.length=(br S b).1.length:=by rw[<-d9,Q8]
 have l0:vk (k+1) S (Lo.map (·.x)) b=if(br S b).1=[]then(Lo.map (·.x),(br S b).2)else vk k (eB (br S b).1 S (Lo.map (·.x))).1 (eB (br S b).1 S (Lo.map (·.x))).2 (br S b).2:=rfl
 rw[l0]at r;have p1:=g7.size;refine⟨_,_,_,rfl,an.dE (λq=>?_) (λq=>?_)⟩
 ·have g9:(br S b).1=[]:=QW oM
  rw[Zx g9]at r;rw[<-r];have hM:=l.buf.Nz;have l3:=l.buf.Ii;obtain⟨U,o,b9,a3,l4,c0,-⟩:=L.eg bE (k:=5) (G':=λb=>M b\/Db b) (C2:=lj p (h.cells c self) h c {X with waits:=(br S b).2} X.S.l) (l.af.mono λb _ a=>c3 b a)
   (λn g=>g.elim (λe=>(l.nM n e).1.imp (c3 n) id) λe=>(l.nD n e).1.imp (a1 n) id) (λn g=>g.elim (hM n) λe=>(l3 n e).1) ⟨M,Db,l.buf,λ_ h=>.inl h,λ_ h=>.inr h⟩ λd G hj hc=>by
    rcases d with _|_|_|_|_|_|_|d<;>first|exact hc|exact Zz rfl hj
  refine Ok.mk ⟨oa,on,oc,Lo,U,o,Do,rfl,l.out,rfl,l.Mk,b9,a3,λn g=>⟨(l.nO n g).2.1,λm=>(l.nA n m).2.2.2.1 g,λQ=>?_⟩,λn g=>⟨(l.nA n g).1,λQ=>?_⟩,by rw[Q8];omega⟩
  ·have e0:F n/\cls n=2:=by
    have:=congrFun (c0 2 dC) n;exact this▸Q
   rcases(l.nO n g).1 with e|e|e
   ·exact(A n e).2 e0.1
   ·have:=(a1 n e).2;rw[e0.2]at this;cases this
   ·have:=e6 n e0.1;omega
  ·rcases l4 n Q with e|e
   ·have:=e6 n e.1;have:=(l.nA n g).1;omega
   ·exact e.elim (l.nA n g).2.1 (l.nA n g).2.2.2.2
 ·have W:(br S b).1≠[]:=λm=>by rw[m,ZQ]at g8;omega
  rw[Zq W]at r;obtain⟨k',rfl⟩:∃k',k=k'+1:=⟨k-1,by
   have:0<b.length:=by
    have:=List.length_pos_iff.2 W;omega
   omega⟩
  obtain⟨av,e1⟩:∃av,av=eB (br S b).1 S (Lo.map (·.x)):=⟨_,rfl⟩
  rw[<-e1]at r;have h2:Lo.length+Z.length+(br S b).2.length<=evs.length+256:=oM
  obtain⟨b2,b3⟩:∃b2,b2=(br S b).2:=⟨_,rfl⟩
  rw[<-b3]at r l h2 d8;have e8:=l.buf.Ii;obtain⟨x,hR⟩:∃x,x=(br S b).1:=⟨_,rfl⟩
  rw[<-hR]at d9 g8 d8 e1;have f9:∀P,aF Y=some P->¬Fs P/\aF oa≠some P:=λP f=>by
   have e:=g6 P f;exact⟨λj=>by have:=i.set.aB P j;omega,λm=>by have:=i.out.aB P m;omega⟩
  have p2:∀P,aF Y=some P->¬Db P:=λP f j=>by
   have e:=g6 P f;have h6:=(i.buf.Ii P j).1;omega
  refine⟨λH oa on oc I w'=>∃(d:Nat) (S:aw) (Lo:List (Bx aj)) (Fs Do:XN),I=d/\d<=n2/\H=n2-d/\FO w h.wp c.buffer.toNat M0 D0 E s S b2 oa on oc Lo w' M Db Fs Do/\eB (x.drop d) S (Lo.map (·.x))=av/\S.l.length<=X.S.l.length+Lo.length/\Lo.length+(n2-d)+b2.length<=evs.length+256/\aO mC.jq 63 (λb=>aF Y=some b) w' Y n2 f7 Z/\(∀n∈Z,mC.In w' Db n)/\∀P,aF Y=some P->¬Fs P/\aF oa≠some P,
   ⟨_,0,S,Lo,Fs,Do,rfl,Qj _,rfl,l,e1.symm,V,oM,g5,k9,f9⟩,?_⟩
  rintro H c2 h0 h1 _ _ h3 ⟨d,y,b0,l5,h4,rfl,hj,rfl,K,R,l6,b8,c5,h7,e3⟩;have p3:=K.af.size;have m8:=K.out.len dC;refine an.dec (λj6=>?_) (λj7=>?_)
  ·obtain⟨n,g⟩:∃n,Z[d]? =some n:=⟨_,Qq oM⟩
   have h8:x[d]? =some n.x:=by rw[<-d9,Q9,g];rfl
   have a8:x.drop d=n.x::x.drop (d+1):=by
    rw[X4 (Qv.1 h8).1]
    congr 1
    exact(Qv.1 h8).2
   have h9:eB (n.x::x.drop (d+1)) y (b0.map (·.x))=if(y.add n.x).1=0 then eB (x.drop (d+1)) (y.add n.x).2 (b0.map (·.x)++[n.x])else eB (x.drop (d+1)) (y.add n.x).2 (b0.map (·.x)):=rfl
   rw[a8,h9]at R;have d1:=h7 n (QZ g);obtain⟨gb,go,es,ha,j8,p4,d3,rfl,-⟩:=(c5.row (bytes:=96) dC ba).el d n g;refine⟨gb,go,ha,oM,oM,bw (es:=aC n.x n.a n.n n.c) (k:=10) (aV _ _ _ _) rfl (λI ht=>by rw[Qx];exact d3 I ht) (PA.mk λp5 l7 p6 l8=>az (aV n.x n.a n.n n.c) l8 rfl λl9 m0 p7 i0=>ar (aV n.x n.a n.n n.c) i0 ?_)⟩;have a4:ai h3 l9:=l7.new m0 λb a=>.inr (by have a:b=h3.heap.size:=a;omega);have p8:=a4.size;have m1:=K.buf.Ii;have i1:=c5.aB;refine PC.ok ((K.ah a4).add (d1.af a4 λ_ _ h=>h).1 (λP f=>⟨by have:=(m1 P f).1;omega,(K.nD P f).2⟩) d1.2 oM) ?_;rintro _ m2 ⟨rfl,e4,T,a6,i2⟩;have p9:=a6.size;have b5:=K.set.aB;have z:=a6.get i0 λj=>by have:=b5 _ j;omega
   have g0:=y.yO n.x;have c4:=(c5.ah a4).af a6 λP f=>(e3 P f).1;have c7:∀P∈Z,mC.In m2 Db P:=λP f=>((h7 P f).af a4 λ_ _ h=>h).af a6 λc8 Q=>(K.nD c8 Q).2;have a7:∀P,aF Y=some P->¬e4 P/\aF c2≠some P:=λP f=>⟨λj=>(i2 P j).elim (e3 P f).1 λe=>by have:=i1 P f;omega,(e3 P f).2⟩
   refine⟨_,rfl,an.dE (λq=>?_) (λq=>?_)⟩
   ·rw[Zx q]at R
    refine⟨_,_,_,_,_,_,_,_,_,_,_,_,ae z rfl,ae z rfl,ae z rfl,ae z rfl,ae z rfl,ae z rfl,ae z rfl,ae z rfl,ae z rfl,ae z rfl,PA.mk λq0 c1 q1 m3=>?_⟩;have i3:=T.ah c1;have d2:=T.buf.Ii;have q2:=c1.size;refine i3.push sH ((c7 n (QZ g)).af c1 λ_ _ h=>h) (λP f=>⟨.inr (T.nD P f).1,by have:=(d2 P f).1;omega,(d2 P f).2,(T.nD P f).2,λm=>(T.nA P m).2.2.2.2 f⟩) m3 oM λa' c' q3 O i4 e2 i5=>⟨_,_,_,rfl,_,oM,d+1,_,_,e4,O,aq oM,oM,rfl,i4,?_,?_,?_,(c4.ah c1).af e2 λP f m=>(a7 P f).2 m,λP f=>((c7 P f).af c1 λ_ _ h=>h).af e2 λc8 Q m=>(T.nA c8 m).2.2.2.2 Q,λP f=>⟨(a7 P f).1,λm=>?_⟩⟩
    ·rw[Q3];exact R
    ·rw[QX,List.length_singleton];omega
    ·rw[QX,List.length_singleton];omega
    ·rcases i5 P m with e|e
     ·exact(a7 P f).2 e
     ·have:=c4.aB P f;omega
   ·rw[Zq q]at R
    have a9:(y.add n.x).2.l.length<=y.l.length:=by
     rcases y.iI n.x with⟨-,e⟩|⟨e,-⟩
     ·rw[e];exact Q4 _
     ·rw[e]at q;exact Zz rfl q
    exact⟨_,oM,d+1,_,b0,e4,h4,aq oM,oM,rfl,T,R,oM,oM,c4,c7,a7⟩
  ·rw[List.drop_eq_nil_of_le oM]at R
   have i6:av=(y,b0.map (·.x)):=R.symm;rw[i6]at r;have q4:0<x.length:=by have:=List.length_pos_iff.2 W;rw[<-hR]at this;exact this
   exact⟨b2.length,oM,y,b2,b0,M,Db,l5,h4,k',rfl,K,oM,r,l6,oM⟩
end
structure iZ (X Y:bh):Prop where
 evs:Y.S.l.length<=X.S.l.length+300\/Y.S.l.length<=16777216
 asked:Y.fK.asked.length<=X.fK.asked.length+1
def iZ.refl(n:bh):iZ n n:=⟨.inl oM,oM⟩
def Ij{n P:Type}[BEq n][LawfulBEq n](a:n)(b:P):∀(c:List (n×P)),(aI c a b).length<=c.length+1
 |[]=>by simp[aI]
 |(e,f)::d=>by
  unfold aI;split
  ·simp
  ·have:=Ij a b d
   simp;omega
def DN{P c:Type}[BEq P][LawfulBEq P](n:P)(d:c):∀(b:List (P×c)),n∈b.map (·.1)->(aI b n d).map (·.1)=b.map (·.1)
 |[],h=>by simp at h
 |(f,i)::e,h=>by
  unfold aI
  by_cases a:(n==f)=true
  ·rw[Zx a]
   have:=eq_of_beq a;subst this;rfl
  ·rw[Zq a]
   have g:n∈e.map (·.1):=by
    rcases Q2.1 h with h|h
    ·exact Zz (by rw[h];simp) a
    ·exact h
   simp[DN n d e g]
def Ik{n b:Type}[BEq n][LawfulBEq n](P:n):∀(a:List (n×b)),(bV a P).length<=a.length
 |[]=>by simp[bV]
 |(d,e)::c=>by
  unfold bV;split
  ·simp
  ·have:=Ik P c
   simp;omega
def FP(b n:Int)(P:List Int×List (Int×Int))(a:Int)(c:a∈P.2.map (·.1)):(fB b n P a).2.map (·.1)=P.2.map (·.1):=by
 unfold fB;split
 ·exact DN _ _ _ c
 ·rfl
def vl(b n:Int):∀(a:List Int) (P:List Int×List (Int×Int)),(∀x∈a,x∈P.2.map (·.1))->(a.foldl (fB b n) P).2.map (·.1)=P.2.map (·.1)
 |[],P,_=>rfl
 |x::a,P,c=>by
  have d:=FP b n P x (c x (QV ..));rw[List.foldl_cons,vl b n a _ λe f=>by rw[d];exact c e (QJ _ f),d]
def jr.OW(n:jr)(P:Int):(n.Qg P).asked.length=n.asked.length:=by
 have b:=vl n.cP P (n.open.take n.open.length) ([],n.asked) λc a=>by
  have a:=List.mem_of_mem_take a;unfold jr.open at a;exact(List.mergeSort_perm _ _).mem_iff.1 a
 have:=Zj List.length b;rw[Q8,Q8]at this;exact this
def qZ(n:Nat):∀(b:List aj) (c:aw) (P a:List aj),(iF n b c P a).2.1.length+(iF n b c P a).2.2.length<=P.length+a.length+b.length
 |[],c,P,a=>by simp[iF]
 |e::b,c,P,a=>by
  unfold iF;split
  ·have:=qZ n b (c.add e).2 (P++[e]) a
   simp at this⊢;omega
  split
  ·have:=qZ n b c P a
   simp;omega
  ·have:=qZ n b c P (eS n a e).2
   have:=Bu n a e;simp;omega
def qI:∀(P:List aj) (a:aw) (n:List aj),(eB P a n).2.length<=n.length+P.length
 |[],a,n=>by simp[eB]
 |e::P,a,n=>by
  unfold eB;split
  ·have:=qI P (a.add e).2 (n++[e])
   simp at this⊢;omega
  ·have:=qI P (a.add e).2 n
   simp;omega
def DO:∀(k:Nat) (P:aw) (n a:List aj),(vk k P n a).1.length<=n.length+a.length
 |0,P,n,a=>by simp[vk]
 |k+1,P,n,a=>by
  unfold vk;have b:=vj P a;dsimp only;split
  ·simp
  ·have c:=qI (br P a).1 P n
   have d:=DO k (eB (br P a).1 P n).1 (eB (br P a).1 P n).2 (br P a).2;omega
def KF(P:bQ)(n:bh)(a:List aj):(kN P n a).1.length<=n.waits.length+a.length:=by
 have b:=qZ P.buffer.toNat a (eO P n.S []) [] n.waits;have c:=DO ((iF P.buffer.toNat a (eO P n.S []) [] n.waits).2.2.length+1) (iF P.buffer.toNat a (eO P n.S []) [] n.waits).1 (iF P.buffer.toNat a (eO P n.S []) [] n.waits).2.1 (iF P.buffer.toNat a (eO P n.S []) [] n.waits).2.2;simp at b;unfold kN;dsimp only;omega
def NF(a:bQ)(n:aw)(P:List aj):(eO a n P).l.length<=n.l.length+P.length:=by
 have:=aw.mG (n.l++P) ⟨a.aD.toNat,[]⟩;unfold eO;simp at this⊢;omega
def DP(a:bQ)(n:bh)(P:List aj):(fD a n P).2.S.l.length<=n.S.l.length+P.length/\(fD a n P).2.fK=n.fK:=by
 unfold fD
 cases n.log with
 |none=>exact⟨by dsimp only;omega,rfl⟩
 |some b=>
  dsimp only;split
  ·exact⟨by dsimp only;omega,rfl⟩
  split
  ·exact⟨by dsimp only;omega,rfl⟩
  ·exact⟨NF a n.S P,rfl⟩
def Jm(a:bQ)(P:Int)(n:bh)(b:lO):iZ n (eI a P n b).2.2:=by
 unfold eI
 cases n.log with
 |none=>exact iZ.refl n
 |some c=>
  dsimp only;split
  ·exact iZ.refl n
  split
  ·have:=DP a n [(qH a.decl n.S (cm a.decl n.S.l) P a.start b).1]
   simp at this;split
   ·exact⟨.inl bn,by dsimp only;rw[this.2];omega⟩
   ·exact⟨.inl bn,by dsimp only;rw[this.2];omega⟩
  ·exact iZ.refl n
def BS(b:bQ)(c:Int)(n:bh)(P:bS)(i:n.waits.length<=256)(j:b.chunk<=32):iZ n (cg b c n P).2.2:=by
 unfold cg
 cases n.log with
 |none=>exact iZ.refl n
 |some k=>
  dsimp only;split
  ·exact iZ.refl n
  rename_i g;split
  ·exact iZ.refl n
  split
  ·rename_i h
   have l:P.events.length<=32:=by
    rcases Nat.lt_or_ge 32 P.events.length with f|f
    ·exfalso
     apply g;unfold fr;rw[Zx h];intro a;split at a
     ·cases a
     ·unfold eR at a
      split at a
      ·cases a
      ·rw[Zx (.inr oM)]at a;cases a
    ·exact f
   unfold nz;have m:=KF b n P.events;dsimp only;split
   ·exact⟨.inl bn,by dsimp only;omega⟩
   ·have d:=DP b {n with waits:=(kN b n P.events).2} (kN b n P.events).1
    dsimp only at d;split
    ·exact⟨.inl bn,by dsimp only;rw[d.2];omega⟩
    ·exact⟨.inl bn,by dsimp only;rw[d.2];omega⟩
  ·have e:(n.fK.yK P.bt P.vec n.S.vec).asked.length<=n.fK.asked.length+1:=by
    unfold jr.yK;dsimp only;split
    ·have:=Ik P.bt n.fK.asked;omega
    ·omega
   split
   ·exact⟨.inl bn,e⟩
   split
   ·exact⟨.inl bn,e⟩
   ·exact⟨.inl bn,e⟩
def Jl(c:bQ)(n:Int)(a:bh)(P b:Int):iZ a (gS c n a P b).2:=by
 unfold gS;split
 ·exact iZ.refl a
 ·exact⟨.inl bn,Ij _ _ _⟩
def xd(P:bQ)(n:bh):(ie P n).2.fK=n.fK:=by
 unfold ie;dsimp only;split<;>rfl
def BT(P:bQ)(n:bh):iZ n (fL P n).2:=by
 unfold fL
 cases n.log with
 |none=>exact iZ.refl n
 |some a=>
  dsimp only;split
  ·exact⟨.inl bn,by dsimp only;omega⟩
  ·exact⟨.inl bn,by dsimp only;omega⟩

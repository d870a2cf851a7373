import Derived.Test.YtkpomgifkloklacGreatDoorYgCodeR
import Derived.Lib.AppendZerosOnto
import Derived.Lib.Overlaps
set_option maxHeartbeats 4000000
set_option linter.all false
set_option maxRecDepth 100000
open Go.IntKind renaming wrap→XG
namespace Go.Proofs.YtkpomgifkloklacGreatDoor
open Go.aw
structure Bi where
 my:Int
 asked:List (Int×Int)
 heard:List (Int×List Int)
 deriving DecidableEq
def Uu(P:Value)(a:Int):Prop:=P= XH a
def LM(e:World)(f:XN)(g:Value)(b:List Int):Prop:=
 ∃P a c,g= .slice P a c/\Own e 3 1 P a c (ints b)/\a*8<=aT/\(∀h∈b,aP h)/\∀d,aI P=some d->f d
def LM.af{S c F':XN}{b f:World}{g:Value}{h:List Int}(d:LM b c g h)(m:ak S b f)(n:∀P,c P->P<b.heap.size->(∃i,b.heap[P]? =some i/\∀j k,i≠.map j k)->¬S P)(o:∀P,c P->F' P):LM f F' g h:=by
 obtain⟨p,q,r,rfl,e,a,s,l⟩:=d;refine⟨p,q,r,rfl,e.af m (fq.2 λP a=>?_),a,s,λP a=>o P (l P a)⟩;refine n P (l P a) (e.lt a) ?_;rcases e.cases with⟨rfl,_⟩|⟨v,t,rfl,u,_⟩
 ·cases a
 ·simp only[aI,Q1]at a
  subst a;exact⟨_,u,λj k d=>by cases d⟩
structure fL (w:World) (p:Nat) (F:XN) (T:Bi):Prop where
 body:∃ra rh la lh,w.heap[p]? =some (.cells #[XH T.my,.map (some ra),.map (some rh)] 131 (0,0))/\cj w ra (Value.int .i64) la/\cj w rh (Value.int .i64) lh/\
  eZ Uu la T.asked/\eZ (LM w F) lh T.heard/\F ra/\F rh/\ra≠rh
 self:F p
 aF:∀b,F b->b<w.heap.size
 Kk:Tidy T.asked
 Bz:∀q∈T.asked,aP q.1
variable{U n:Array Value}{d3:Bi}{z:XT}{y:FuncId}{e q:Int}{h5:List (Int×List Int)}{h4:List (Int×Value)}{b0 u:List Int}{K a c i p:Nat}{f:XN}{d r:ZH}{b k:World}
def fL.af{S f:XN}(P:fL b a f d3)(d:ak S b k)(e:∀c,f c->¬S c):fL k a f d3:=by
 obtain⟨j,l,m,n,o,p,q,r,s,h,i,t⟩:=P.body;exact⟨⟨j,l,m,n,d.get o (e _ P.self),p.af d (e _ h),q.af d (e _ i),r,s.mono λv w u=>u.af d (λc g _ _=>e c g) (λ_ P=>P),h,i,t⟩,
  P.self,λc g=>Qk (P.aF c g) d.size,P.Kk,P.Bz⟩
def fL.ah(P:fL b a f d3)(c:ai b k):fL k a f d3:=P.af c λ_ _ P=>P
def kI:iq XP 3 (Value.int .i64):=Sc Tryz.underlying3
def mA:nU XP 128 3 3 (XH 0):=⟨kR,kR⟩
def mH:nU XP 129 3 55 (.slice none 0 0):=⟨kR,kR⟩
def Gt:ZG 28 #[XH e] b
  (Ok λi d=>∃f g,i= XL f/\fL d f g ⟨e,[],[]⟩/\ai b d/\∀P,g P->b.heap.size<=P):=by
 refine AG (PA.mk λj k q l=>PA.mk λm h r n=>PA.mk λo a s p=>Ok.mk ⟨m.heap.size,λP=>b.heap.size<=P/\P<o.heap.size,rfl,
  ⟨⟨b.heap.size,j.heap.size,[],[],p,cj.new (a.get (h.get l id) id),cj.new (a.get n id),trivial,trivial,oM,oM,oM⟩,oM,λP c=>c.2,by simp[Tidy],sM⟩,
  (k.ah h).ah a,λP c=>c.1⟩)
def GB(P:fL b a f d3)(t:aP e):
  ZG 71 #[XL a,XH e,XH q] b
   (Ok λo j=>o= .tuple #[]/\fL j a f {d3 with asked:=aJ d3.asked e q}/\ak f b j):=by
 obtain⟨c,u,K,v,k,p,w,x,y,r,z,s⟩:=P.body;have A:∃d g,b.heap[c]? =some (.map d g):=by obtain⟨d,g,P,_⟩:=p.at';exact⟨d,g,P⟩
 obtain⟨d,g,l⟩:=A;have B:a≠c:=by rintro rfl;rw[k]at l;cases l
 refine n_ ⟨a,0,rfl,some c,ae k rfl,iZ mA kI p λj C h E=>Ok.mk ⟨rfl,⟨⟨c,u,_,v,h.get k B,C,w.af h (Ne.symm s),eZ.aJ (R:=Uu) rfl x,?_,r,z,s⟩,P.self,?_,P.Kk.aJ _ _,?_⟩,h.mono ?_⟩⟩
 ·refine y.mono λo L F=>F.af h (λm _ _ i=>?_) (λ_ P=>P)
  rintro rfl;obtain⟨M,i,H⟩:=i;rw[l]at i;cases i;exact H _ _ rfl
 ·intro m I;rw[E];exact P.aF m I
 ·intro J n
  rcases fH n with rfl|n
  ·exact t
  ·exact P.Bz J n
 ·rintro m _ rfl;exact r
def Bi.all(a:Bi)(P:Int)(b:List Int):List Int:=gg ((ax a.heard P).getD []) b
def Eg(a P:List Int):Bool:=jh a P==0||jh a P==2
def Bi.ends(b:Bi)(P:Int)(c a:List Int):Bool:=(ax b.asked P).isSome&&Eg (b.all P c) a
def Bi.vK(a:Bi)(P:Int)(c b:List Int):Bi:=
 {a with heard:=aJ a.heard P (a.all P c),asked:=if a.ends P c b then bI a.asked P else a.asked}
def zV(b:∀c∈u,aP c)(P:Int):aP (cP u P):=by
 unfold cP;split
 ·unfold aP;omega
 ·by_cases a:P.toNat<u.length
  ·have:=b u[P.toNat] (XY a)
   simp only[List.getD,Qq a,Option.getD_some];unfold aP at*;omega
  ·have:u[P.toNat]? =none:=by simp;omega
   simp only[List.getD,this,Option.getD_none];unfold aP;omega
def Cc(b:∀P∈u,aP P)(c:∀P∈b0,aP P):∀P∈gg u b0,aP P:=by
 intro P d;obtain⟨a,_,rfl⟩:=Xk.1 d;have e:=zV b a;have f:=zV c a;unfold aP at*;omega
def Eh(P a:List Int):(gg P a).length=max P.length a.length:=lg _ _ _
def fL.PO(j:eZ (LM b f) h4 h5)(P:Int):
  ∃a c d,(ax h4 P).getD (.slice none 0 0)= .slice a c d/\Ints b a c ((ax h5 P).getD [])/\c*8<=aT/\∀h,aI a=some h->f h:=by
 rcases j.ax P with⟨e,g⟩|⟨n,o,e,g,a,c,d,rfl,k,i,l,m⟩
 ·rw[e,g];exact⟨none,0,0,rfl,Ints.nil b,by simp[aT],by simp[aI]⟩
 ·rw[e,g];exact⟨a,c,d,rfl,k.ints i l,i,m⟩
def Gq(P:fL b a f d3)(L:Ints b d c u)(hy:Ints b r i b0)(W:b0≠[]->xQ f r):
  ZG 75 #[XL a,XH e,.slice d c p,.slice r i K] b
   (Ok λs q=>∃F',s= .bool (d3.ends e u b0)/\fL q a F' (d3.vK e u b0)/\dy f b F' q):=by
 obtain⟨o,v,E,lh,F,y,X,M,h5,Y,N,O⟩:=P.body;obtain⟨l,m,Q⟩:∃l m,b.heap[v]? =some (.map l m):=by obtain⟨l,m,P,_⟩:=X.at';exact⟨l,m,P⟩
 obtain⟨c8,c9,a6⟩:∃l m,b.heap[o]? =some (.map l m):=by obtain⟨l,m,P,_⟩:=y.at';exact⟨l,m,P⟩
 have b6:a≠v:=by rintro rfl;rw[F]at Q;cases Q
 have b7:a≠o:=by rintro rfl;rw[F]at a6;cases a6
 obtain⟨ha,hn,hc,hg,R,hB,hF⟩:=fL.PO h5 e;refine ob ⟨a,0,rfl,some v,ae F rfl,xz mH kI X ⟨ha,hn,hc,hg,PC.ok (yi R L) ?_⟩⟩;rintro _ w1 ⟨w,z,S,rfl,Z,t,a7⟩;have b8:z=(d3.all e u).length:=by have:=Z.length;rw[oD,Nat.mul_one]at this;exact this.symm
 have a8:z*8<=aT:=by
  rw[b8];unfold Bi.all;rw[Eh];have:=R.len;have:=R.dK;have:=L.len;have:=L.dK;unfold aT at*;omega
 have a9:∀b9∈d3.all e u,aP b9:=Cc R.Hh L.Hh;refine⟨w,z,S,rfl,a,0,rfl,some v,ae (t.get F id) rfl,iZ mH kI (X.af t id) λj b1 A c0=>?_⟩;have H:aI w≠some v:=λk=>by have:=a7 _ k;have:=az Q;omega
 have b2:Own j 3 1 w z S (ints (d3.all e u)):=Z.af A (fq.2 λr W=>by rintro rfl;exact H W);have c1:Ints j r i b0:=(hy.ah t).EC A λc2 a0 hq=>by rintro rfl;exact W c2 a0 hq N
 refine PC.ok (Kl (b2.ints a8 a9) c1) ?_;rintro _ _ ⟨rfl,rfl⟩;have T:j.heap[a]? =some (.cells #[XH d3.my,.map (some o),.map (some v)] 131 (0,0)):=A.get (t.get F id) b6;have U:cj j o (Value.int .i64) E:=(y.af t id).af A O;refine⟨_,rfl,?_⟩
 let F':XN:=λg=>f g\/(b.heap.size<=g/\g<w1.heap.size)
 have a1:dy f b F' j:=⟨(t.af (S:=f)).trans A (λ_ _ P=>P) (by rintro g _ rfl;exact N),λg n=>n.imp id (·.1)⟩
 have b3:eZ (LM j F') (aJ lh e (.slice w z S)) (aJ d3.heard e (d3.all e u)):=by
  refine eZ.aJ ⟨w,z,S,rfl,b2,a8,a9,λg n=>.inr ⟨a7 g n,Z.lt n⟩⟩ (h5.mono λs ys I=>?_);refine(I.af t (F':=f) (λ_ _ _ _ P=>P) (λ_ P=>P)).af A (λg _ _ h=>?_) (λ_ P=>.inl P);rintro rfl;obtain⟨c3,h,H⟩:=h;rw[t.get Q id]at h;cases h;exact H _ _ rfl
 have b4:∀g,F' g->g<j.heap.size:=λg n=>by
  rw[c0];rcases n with n|n
  ·exact Qk (P.aF g n) t.size
  ·exact n.2
 have c4:fL j a F' {d3 with heard:=aJ d3.heard e (d3.all e u)}:=
  ⟨⟨o,v,E,_,T,U,b1,M,b3,.inl Y,.inl N,O⟩,.inl P.self,b4,P.Kk,P.Bz⟩
 have a2:(ax E e).isSome=(ax d3.asked e).isSome:=by
  rcases M.ax e with⟨B,V⟩|⟨s,b5,B,V,_⟩<;>rw[B,V]<;>rfl
 have c5:∃g:Int,(ax E e).getD (XH 0)= XH g:=by
  rcases M.ax e with⟨B,V⟩|⟨s,b5,B,V,I⟩
  ·rw[B];exact⟨0,rfl⟩
  ·rw[B];exact⟨b5,I⟩
 obtain⟨k0,c6⟩:=c5;have no:d3.ends e u b0=false->Ok (λs q=>∃F',s= .bool (d3.ends e u b0)/\fL q a F' (d3.vK e u b0)/\dy f b F' q) (.returned (.bool false)) j:=λk=>
  Ok.mk ⟨F',by rw[k],by unfold Bi.vK;rw[k];exact c4,a1⟩
 have a3:∀x,d3.ends e u b0=true->cj x o (Value.int .i64) (bI E e)->ak (·=o) j x->x.heap.size=j.heap.size->
   Ok (λs q=>∃F',s= .bool (d3.ends e u b0)/\fL q a F' (d3.vK e u b0)/\dy f b F' q) (.returned (.bool true)) x:=λx k hm C a5=>by
  obtain⟨d0,d1,c7⟩:∃l m,j.heap[o]? =some (.map l m):=by obtain⟨l,m,P,_⟩:=U.at';exact⟨l,m,P⟩
  refine Ok.mk ⟨F',by rw[k],?_,a1.af.trans C (λ_ _ P=>P) (by rintro g _ rfl;exact Y),a1.new⟩;unfold Bi.vK;rw[k];refine⟨⟨o,v,_,_,C.get T b7,hm,b1.af C (Ne.symm O),M.bI,?_,.inl Y,.inl N,O⟩,.inl P.self,λg n=>by rw[a5];exact b4 g n,P.Kk.bI e,λa0 hq=>P.Bz a0 (fI hq)⟩;refine b3.mono λs ys I=>I.af C (λg _ _ h=>?_) (λ_ P=>P);rintro rfl;obtain⟨c3,h,H⟩:=h;rw[c7]at h;cases h;exact H _ _ rfl
 refine⟨λq=>j=q/\d3.ends e u b0=true,⟨a,0,rfl,some o,ae T rfl,lO mA kI U ?_⟩,?_⟩
 rotate_left
 ·rintro _ _ ⟨rfl,k⟩
  exact⟨a,0,rfl,some o,ae T rfl,HU mA kI U λx hm C a5=>a3 x k hm C a5⟩
 rw[c6];refine⟨k0,_,rfl,an.mk (λh=>?_) (λh=>an.mk (λh0=>an.mk (λy=>?_) (λy=>?_)) (λh0=>?_))⟩
 ·refine no ?_
  have:(ax d3.asked e).isSome=false:=by rw[<-a2];simpa using h
  simp[Bi.ends,this]
 ·refine no ?_
  have w:(jh (d3.all e u) b0==0)=false:=by simpa[bne]using h0
  have J:(jh (d3.all e u) b0==2)=false:=by simpa[bne]using y
  simp[Bi.ends,Eg,w,J]
 ·have k:d3.ends e u b0=true:=by
   have a4:(ax d3.asked e).isSome=true:=by rw[<-a2];simpa using h
   have J:(jh (d3.all e u) b0==2)=true:=by simpa[bne]using y
   simp[Bi.ends,Eg,a4,J]
  exact⟨rfl,k⟩
 ·have k:d3.ends e u b0=true:=by
   have a4:(ax d3.asked e).isSome=true:=by rw[<-a2];simpa using h
   have J:(jh (d3.all e u) b0==0)=true:=by simpa[bne]using h0
   simp[Bi.ends,Eg,a4,J]
  exact⟨rfl,k⟩
structure cH where
 bB:Int
 vE:Int
 dI:Int
 chunk:Int
 buffer:Int
 my:Int
 every:Int
 start:Int
 decl:aM
structure bQ where
 S:ar
 D:al
 log:Option dh
 waits:List aj
 jA:Bi
def gV(P:cH)(a:Int):Bool:=
 within P.bB 1 64&&within a 0 (P.bB-1)&&within P.vE 64 262144&&decide (P.dI>=1)&&decide (P.every>=1)&&within P.chunk 1 32&&within P.buffer 1 256&&within P.my 1 1048576&&decide (P.start>=0)
section
variable (c:cH) (self:Int)
def kf(a:bQ):Int×bQ:=
 let P:=bA a.D c.dI
 if P.no≠0 then(P.no,{a with D:=P.D,log:=none,S:=⟨c.bB.toNat,[]⟩})
 else(0,{a with D:=P.D,log:=some P.V,S:=(⟨c.bB.toNat,[]⟩:ar).eI P.out})
def zR:Int×bQ:=kf c ⟨⟨c.bB.toNat,[]⟩,ei c.vE.toNat,none,[],⟨c.my,[],[]⟩⟩
def dZ(P:ar)(a:List aj):ar:=(⟨c.bB.toNat,[]⟩:ar).eI (P.l++a)
def cT(a:bQ)(d:List aj):Int×bQ:=match a.log with
 |none=>(15,a)
 |some e=>
  let P:=aK e a.D d
  if P.1≠0 then(P.1,{a with log:=some P.2.1,D:=P.2.2})else
  let b:=P.2.2.sync P.2.1.last
  if b.1≠0 then(b.1,{a with log:=some P.2.1,D:=b.2})else
  (0,{a with log:=some P.2.1,D:=b.2,S:=dZ c a.S d})
def bF(P:bQ)(d:iu):Int×(Int×Int)×bQ:=match P.log with
 |none=>(15,(0,0),P)
 |some _=>
  let a:=jV c.decl P.S (b_ c.decl P.S.l) self c.start d
  if a.2.2≠0 then(a.2.2,(0,0),P)else
  if a.2.1 then(let b:=cT c P [a.1];if b.1≠0 then(b.1,(0,0),b.2)else(0,aR a.1,b.2))
  else(0,aR a.1,P)
def eW(a:bQ)(P b:Int):List cG×bQ:=
 if P<0\/P>=c.bB\/P=self then([],a)else([dH a.S self P],{a with jA:={a.jA with asked:=aJ a.jA.asked P b}})
def eN(P:Nat):List aj->ar->List aj->List aj->ar×List aj×List aj
 |[],b,a,c=>(b,a,c)
 |e::d,b,a,c=>
  if(b.add e).1=0 then eN P d (b.add e).2 (a++[e]) c
  else if(b.add e).1=16 then eN P d b a c
  else eN P d b a (eP P c e).2
def eE:List aj->ar->List aj->ar×List aj
 |[],a,P=>(a,P)
 |e::b,a,P=>if(a.add e).1=0 then eE b (a.add e).2 (P++[e])else eE b (a.add e).2 P
def pQ:Nat->ar->List aj->List aj->List aj×List aj
 |0,b,P,c=>(P,c)
 |k+1,b,P,c=>
  let a:=bz b c
  if a.1=[]then(P,a.2)else
  let d:=eE a.1 b P
  pQ k d.1 d.2 a.2
def iD(a:bQ)(b:List aj):List aj×List aj:=
 let P:=eN c.buffer.toNat b (dZ c a.S []) [] a.waits
 pQ (P.2.2.length+1) P.1 P.2.1 P.2.2
def lF(P:bQ)(b:cG):List cG×Int×bQ:=
 let d:=iD c P b.events
 let P:={P with waits:=d.2}
 if d.1=[]then([xt P.S self b.bE],0,P)else
 let a:=cT c P d.1
 if a.1≠0 then([],a.1,{a.2 with waits:=[]})else([xt a.2.S self b.bE],0,a.2)
def bh(P:bQ)(a:cG):List cG×Int×bQ:=match P.log with
 |none=>([],15,P)
 |some _=>
  let no:=de a c.bB.toNat c.chunk
  if no≠0 then([],no,P)else
  if a.lf≠self then([],1,P)else
  if a.kind=3 then lF c self P a else
  let P:={P with jA:=P.jA.vK a.bE a.vec P.S.vec}
  if a.kind≠4 then(fR P.S self a c.chunk,0,P)else
  let b:=P.S.missing a.vec c.chunk
  if b=[]then([],0,P)else([⟨3,self,a.bE,[],b⟩],0,P)
end
def qQ:kC:=⟨[],[],[],[],[(1,⟨[0,0,2,4,8,0,0,64,128,256,544,1040,4095,8191,12287],[32767,32767,32765,32763,32759,32767,32767,32703,32639,32511,32223,31727,32766,28671,22527],[0,0,0,0,1,0,0,0,0,1,0,0,0,0,2]⟩)]⟩
def qu(y:(dr d λA B=>(rI b (ad A (B+2)) λC=>PR_ (eq_ .quo 3 (.tmp 5) (.tmp 9) (.ii e) (.ii C)) b (kI_ λP D=>(∀a,bO D a->(dr d λE F=>(rS a (ad E (F+3)) λG a3 g=>(dr d λH I=>(rI a (ad H (I+2)) λf=>((0:Int)<=(XG .i64 (P*f))/\((XG .i64 (P*f)):Int)<=(g:Int)/\(dr d λJ K=>PS a (ad J (K+3)) (.slice G (Int.toNat (XG .i64 (P*f))) g) λh=>(dr d λL M=>(rS h (ad L (M+6)) λN i j=>((0:Int)<=(XG .i64 (P+1))/\((XG .i64 (P+1)):Int)<=(i:Int)/\PR_ (Builtin.clear_ #[183] 0 #[.slice (cz N (Int.toNat (XG .i64 (P+1))) j 2) (i-Int.toNat (XG .i64 (P+1))) (j-Int.toNat (XG .i64 (P+1)))]) h (λa4 k=>(dr d λO Q=>(rS k (ad O (Q+6)) λR a5 l=>((0:Int)<=(XG .i64 (P+1))/\((XG .i64 (P+1)):Int)<=(l:Int)/\(dr d λS T=>PS k (ad S (T+6)) (.slice R (Int.toNat (XG .i64 (P+1))) l) λc=>(dr d λU V=>(rS c (ad U (V+6)) λW X a6=>(ix_ W P X λm n=>(∃o p q r,c.cell? (ad m (n+Int.toNat P*2))=some (.pointer o)/\c.cell? (ad m (n+Int.toNat P*2+1))=some (.slice p q r)/\PC_ 137 #[.pointer d,.agg #[.pointer o,.slice p q r]] c (λY Z=>∃s t u v,Y= .agg #[.pointer s,.slice t u v]/\(dr d λw x=>PS Z (ad w (x+4)) (.pointer s) λa1=>PS a1 (ad w (x+4+1)) (.slice t u v) λa2=>rt z ((.tuple #[])) a2)) (pE z)))))))))) (pV z)))))))))))) (pV z)))):ZG 102 #[.pointer d,.ii e] b z:=DC qQ Tryz.func102 rfl y
def yz:kC:=⟨[(2,[(5,XH 0),(6,XH 0)])],[],[],[],[]⟩
def yA(l:(∃f:Nat->Int->Int->XU,(∃c,f c 0 e b)/\∀(c:Nat) (P:Int) (a:Int) (o:Nat->Value) (g:World),f c P a g->an (decide (P<a)) ((∃h i j,(.func (.func y) n U:Value)= .func (.func h) i j/\enters XP h=true/\PC_ h (i++ #[.ii (XG .i64 (iY .u64 (XG .u64 (XG .i64 (P+a))) 1))]++j) g (kB λm k=>an (!m) ((∃d,d<c/\f d (XG .i64 ((XG .i64 (iY .u64 (XG .u64 (XG .i64 (P+a))) 1))+1)) a k)) ((∃d,d<c/\f d P (XG .i64 (iY .u64 (XG .u64 (XG .i64 (P+a))) 1)) k))) (pE z))) (rt z ((.ii P)) g))):ZG 133 #[.ii e,.func (.func y) n U] b z:=DC yz Tryz.func133 rfl l
def AR:kC:=⟨[],[],[],[],[]⟩
def AS(P:((0:Int)<=(if(a:Int)<(if 0>e then 0 else e)then(a:Int)else(if 0>e then 0 else e))/\((if(a:Int)<(if 0>e then 0 else e)then(a:Int)else(if 0>e then 0 else e)):Int)<=(if(a:Int)<(if 0>e then 0 else e)then(a:Int)else(if 0>e then 0 else e))/\((if(a:Int)<(if 0>e then 0 else e)then(a:Int)else(if 0>e then 0 else e)):Int)<=(c:Int)/\PC_ 193 #[.slice d (Int.toNat (if(a:Int)<(if 0>e then 0 else e)then(a:Int)else(if 0>e then 0 else e))) (Int.toNat (if(a:Int)<(if 0>e then 0 else e)then(a:Int)else(if 0>e then 0 else e)))] b (kS_ λf g h i=>rt z ((.tuple #[.slice f g h,.bool (decide (((if(a:Int)<(if 0>e then 0 else e)then(a:Int)else(if 0>e then 0 else e)):Int)<(a:Int)))])) i) (pE z))):ZG 135 #[.slice d a c,.ii e] b z:=DC AR Tryz.func135 rfl P
def ix:kC:=⟨[(3,[(7,XH 0),(8,XH 0)])],[],[],[],[]⟩
def ij(m:(∃j:Nat->Int->Int->XU,(∃h,j h 0 (a:Int) b)/\∀(h:Nat) (P:Int) (f:Int) (B:Nat->Value) (g:World),j h P f g->an (decide (P<f)) ((dr d λn o=>(0:Int)<=(XG .i64 (iY .u64 (XG .u64 (XG .i64 (P+f))) 1))/\(XG .i64 (iY .u64 (XG .u64 (XG .i64 (P+f))) 1))<(a:Int)/\(rI g (ad n (o+Int.toNat (XG .i64 (iY .u64 (XG .u64 (XG .i64 (P+f))) 1)))) λp=>PC_ 271 #[.ii p,.ii e] g (kB λq k=>an q ((∃i,i<h/\j i (XG .i64 ((XG .i64 (iY .u64 (XG .u64 (XG .i64 (P+f))) 1))+1)) f k)) ((∃i,i<h/\j i P (XG .i64 (iY .u64 (XG .u64 (XG .i64 (P+f))) 1)) k))) (pE z)))) (an (decide (P<(a:Int))) ((ix_ d P a λr s=>(rI g (ad r (s+Int.toNat P)) λt=>an (t==e) (rt z ((.tuple #[.ii P,.bool true])) g) ((ix_ d P a λu v=>(rI g (ad u (v+Int.toNat P)) λw=>PC_ 272 #[.ii w] g (kB λx l=>an x (PC_ 272 #[.ii e] l (kB λy A=>rt z ((.tuple #[.ii P,.bool y])) A) (pE z)) (rt z ((.tuple #[.ii P,.bool false])) l)) (pE z))))))) (rt z ((.tuple #[.ii P,.bool false])) g)))):ZG 232 #[.slice d a c,.ii e] b z:=DC ix Tryz.func232 rfl m
end Go.Proofs.YtkpomgifkloklacGreatDoor
namespace Go.aw
open Go
def nK(P:Int×Int):Value:=.agg #[XH P.1,XH P.2]
def Ap(P:Int×Int×Int):Value:=.agg #[XH P.1,XH P.2.1,XH P.2.2]
structure Hn (P:Program) (t ti:TypeId):Prop where
 hu:P.underlying t=some (.struct (P.fieldsOf t))
 ui:P.underlying ti=some (.int .i64)
 hf:∃n1 n2,(P.fieldsOf t).toList.map (λf=>(f.name,f.type,f.offset))=[(n1,ti,0),(n2,ti,1)]/\n1≠ "_"/\n2≠ "_"
 hp:P.stoodInHeld t=false
 hm:P.eqGuardType P.depth t=false
 ag:sr P ti=false
variable{R b9 e q:Int}{Q W:Operand}{m s:XR}{b:World}
section
variable {P:Program} {t ti:TypeId}
def Hn.equalIn(b:Hn P t ti)(f:Nat)(c d:Int×Int)(e:World):(Op.equalIn (f+2) t (nK c) (nK d)).run P e= .ok (c==d) e:=by
 obtain⟨v,w,a,g,h⟩:=b.hf;unfold nK;rw[run_equalIn_struct e (f+1) _ _ _ b.hu b.hp];generalize(P.fieldsOf t).toList=i at a
 match i,a with
 |[x,y],a=>
  simp only[QY,List.map_nil,List.cons.injEq,Prod.mk.injEq,and_true]at a;obtain⟨⟨j,k,l⟩,m,n,o⟩:=a;have p:(isAgg ti).run P e= .ok false e:=cW _ _ _ b.ag ⟨_,b.ui⟩ e;have q:=run_equalIn_int (P:=P) e f ti .i64 .i64 c.1 d.1 b.ui;have r:=run_equalIn_int (P:=P) e f ti .i64 .i64 c.2 d.2 b.ui;unfold Op.eqFields Op.eqFields Op.eqFields;rw[j,k,l,m,n,o];have s:(c==d)=(c.1==d.1&&c.2==d.2):=rfl;rw[s]
  cases b:c.1==d.1<;>simp[part,p,q,r,b,g,h]
  by_cases u:c.2=d.2<;>simp[u]
 |[],a=>simp at a
 |[_],a=>simp at a
 |_::_::_::_,a=>simp at a
def Hn.eql(a:Hn P t ti)(c:m (.bool (e==R&&q==b9)) b):
  aH P (do eqGuard .eql t Q W (.agg #[XH e,XH q]) (.agg #[XH R,XH b9]);binOp .eql t (.agg #[XH e,XH q]) (.agg #[XH R,XH b9]):Sem Value) b m s:=by
 refine aH.mk (v:=.bool (e==R&&q==b9)) ?_ c;rw[Sem.run_bind,run_eqGuard_agg b .eql _ Q W _ _ a.hm,Result.andThen_ok,run_eql_struct];have:=a.equalIn 9998 (e,q) (R,b9) b;unfold nK at this;rw[this];rfl
def Hn.neq(a:Hn P t ti)(c:m (.bool (!(e==R&&q==b9))) b):
  aH P (do eqGuard .neq t Q W (.agg #[XH e,XH q]) (.agg #[XH R,XH b9]);binOp .neq t (.agg #[XH e,XH q]) (.agg #[XH R,XH b9]):Sem Value) b m s:=by
 refine aH.mk (v:=.bool (!(e==R&&q==b9))) ?_ c;rw[Sem.run_bind,run_eqGuard_agg b .neq _ Q W _ _ a.hm,Result.andThen_ok,run_neq_struct];have:=a.equalIn 9998 (e,q) (R,b9) b;unfold nK at this;rw[this];rfl
def Hn.check(c:Hn P t ti)(e:Nat)(h:Int×Int)(b:World)(f:Bool):(Instr.checkKey f (e+2) t (nK h)).run P b= .ok () b:=by
 obtain⟨u,v,a,i,j⟩:=c.hf;have k:(isAgg ti).run P b= .ok false b:=cW _ _ _ c.ag ⟨_,c.ui⟩ b;have l:∀g:Int,(Instr.checkKey f (e+1) ti (XH g)).run P b= .ok () b:=λg=>by simp[Instr.checkKey,run_underlying c.ui]
 unfold nK;have m:=c.hu;unfold Instr.checkKey;rw[Sem.run_bind,run_underlying m,Result.andThen_ok];generalize w:P.fieldsOf t=d at a;obtain⟨d⟩:=d
 match d,a with
 |[x,y],a=>
  simp only[QY,List.map_nil,List.cons.injEq,Prod.mk.injEq,and_true]at a;obtain⟨⟨n,o,p⟩,q,r,s⟩:=a;simp[n,o,p,q,r,s,part,k,l,i,j]
 |[],a=>simp at a
 |[_],a=>simp at a
 |_::_::_::_,a=>simp at a
def Hn.key(a:Hn P t ti):iq P t nK:=
 iq.struct a.hu (λb c=>rfl) (λb c d=>a.equalIn 9998 b c d) (λe d f=>a.check 9998 e d f) (λg b=>by unfold nK;simp[Instr.sameBits]) λ{b c} a=>by
  unfold nK at a;simp only[Value.agg.injEq,Array.mk.injEq,List.cons.injEq,Value.int.injEq,and_true,true_and]at a;exact Prod.ext a.1 a.2
structure uE (P:Program) (t t2 ti:TypeId):Prop where
 two:Hn P t2 ti
 hu:P.underlying t=some (.struct (P.fieldsOf t))
 hf:∃n1 n2,(P.fieldsOf t).toList.map (λf=>(f.name,f.type,f.offset))=[(n1,t2,0),(n2,ti,2)]/\n1≠ "_"/\n2≠ "_"
 hp:P.stoodInHeld t=false
 ag:sr P t2=true
 sz:(P.info? t2).map (·.size)=some 2
variable {t2:TypeId}
def uE.Og(c:uE P t t2 ti)(b:Int×Int×Int)(a:World):(part t2 #[XH b.1,XH b.2.1,XH b.2.2] 0).run P a= .ok (nK (b.1,b.2.1)) a:=by
 obtain⟨h,d,e⟩:=Option.map_eq_some_iff.1 c.sz;have f:(isAgg t2).run P a= .ok true a:=cW _ _ _ c.ag ⟨_,c.two.hu⟩ a;have g:(sizeOf t2).run P a= .ok 2 a:=by simp[sizeOf,typeInfo,d,e]
 unfold part;simp[f,g,nK]
def uE.equalIn(e:uE P t t2 ti)(g:Nat)(a b:Int×Int×Int)(c:World):(Op.equalIn (g+3) t (Ap a) (Ap b)).run P c= .ok (a==b) c:=by
 obtain⟨A,B,d,i,j⟩:=e.hf;have k:=e.Og a c;have l:=e.Og b c;have h:=e.two.equalIn g (a.1,a.2.1) (b.1,b.2.1) c;have n:=run_equalIn_int (P:=P) c (g+1) ti .i64 .i64 a.2.2 b.2.2 e.two.ui;have o:(isAgg ti).run P c= .ok false c:=cW _ _ _ e.two.ag ⟨_,e.two.ui⟩ c;unfold Ap;rw[run_equalIn_struct c (g+2) _ _ _ e.hu e.hp];generalize(P.fieldsOf t).toList=p at d
 match p,d with
 |[C,E],d=>
  simp only[QY,List.map_nil,List.cons.injEq,Prod.mk.injEq,and_true]at d;obtain⟨⟨q,r,s⟩,u,v,w⟩:=d;unfold Op.eqFields Op.eqFields Op.eqFields;rw[q,r,s,u,v,w];have x:(a==b)=(((a.1,a.2.1):Int×Int)==(b.1,b.2.1)&&a.2.2==b.2.2):=by
   show(a.1==b.1&&(a.2.1==b.2.1&&a.2.2==b.2.2))=((a.1==b.1&&a.2.1==b.2.1)&&a.2.2==b.2.2);rw[Bool.and_assoc]
  rw[x];have y:∀f:Int×Int×Int,(part ti #[XH f.1,XH f.2.1,XH f.2.2] 2).run P c= .ok (XH f.2.2) c:=λf=>by simp[part,o]
  cases m:((a.1,a.2.1):Int×Int)==(b.1,b.2.1)with
  |false=>
   rw[m]at h;simp[k,l,h,i,j]
  |true=>
   rw[m]at h;simp[k,l,h,n,y,i,j]
   by_cases z:a.2.2=b.2.2<;>simp[z]
 |[],d=>simp at d
 |[_],d=>simp at d
 |_::_::_::_,d=>simp at d
def uE.check(d:uE P t t2 ti)(e:Nat)(c:Int×Int×Int)(a:World)(f:Bool):(Instr.checkKey f (e+3) t (Ap c)).run P a= .ok () a:=by
 obtain⟨x,y,b,i,j⟩:=d.hf;have k:=d.Og c a;have l:(isAgg ti).run P a= .ok false a:=cW _ _ _ d.two.ag ⟨_,d.two.ui⟩ a;have m:∀h:Int,(Instr.checkKey f (e+2) ti (XH h)).run P a= .ok () a:=λh=>by simp[Instr.checkKey,run_underlying d.two.ui]
 have n:=d.two.check e (c.1,c.2.1) a f;have o:(part ti #[XH c.1,XH c.2.1,XH c.2.2] 2).run P a= .ok (XH c.2.2) a:=by simp[part,l]
 unfold Ap;have p:=d.hu;rw[show e+3=(e+2)+1 from rfl];unfold Instr.checkKey;rw[Sem.run_bind,run_underlying p,Result.andThen_ok];generalize z:P.fieldsOf t=g at b;obtain⟨g⟩:=g
 match g,b with
 |[A,B],b=>
  simp only[QY,List.map_nil,List.cons.injEq,Prod.mk.injEq,and_true]at b;obtain⟨⟨q,r,s⟩,u,v,w⟩:=b;simp[q,r,s,u,v,w,k,o,n,m,i,j]
 |[],b=>simp at b
 |[_],b=>simp at b
 |_::_::_::_,b=>simp at b
def uE.key(a:uE P t t2 ti):iq P t Ap:=
 iq.struct a.hu (λb c=>rfl) (λb c d=>a.equalIn 9997 b c d) (λe d f=>a.check 9997 e d f) (λg b=>by unfold Ap;simp[Instr.sameBits]) λ{b c} a=>by
  unfold Ap at a;simp only[Value.agg.injEq,Array.mk.injEq,List.cons.injEq,Value.int.injEq,and_true,true_and]at a;exact Prod.ext a.1 (Prod.ext a.2.1 a.2.2)
end
end Go.aw
namespace Go.Proofs.YtkpomgifkloklacGreatDoor
open Go.aw
abbrev Ci:Int×Int->Value:=nK
def Jt:Hn XP 39 3:=⟨kR,kR,⟨ "Origin", "Seq",kR,dC,dC⟩,kR,kR,kR⟩
def Th:iq XP 39 Ci:=Jt.key
abbrev qz:aj:=⟨0,0,0,[],0,0,0,0,0,0⟩
abbrev jk(P:aj)(a:ZH)(b c:Nat):Value:=.agg (aD P a b c).toArray
def NX:nU XP 162 39 59 (jk qz none 0 0):=⟨kR,kR⟩
def jC{d:World}{D:XN}:∀{P:List Int} {cs:List Value},bK aQ d D P cs↔cs=ints P/\∀x∈P,aP x
 |[],cs=>by simp[bK,ints]
 |x::P,cs=>by
  constructor
  ·rintro⟨h,i,rfl,⟨rfl,e⟩,f⟩
   obtain⟨rfl,g⟩:=jC.1 f;exact⟨rfl,λb a=>by rcases Q2.1 a with rfl|a;exact e;exact g b a⟩
  ·rintro⟨rfl,c⟩
   exact⟨[XH x],ints P,rfl,⟨rfl,c x (QV ..)⟩,jC.2 ⟨rfl,λb a=>c b (QJ _ a)⟩⟩
variable{U n:Array Value}{e:Int}{b0 u:List Int}{a1:List Value}{K a c i p:Nat}{f:XN}{I:Nat×Nat}{d:ZH}{h:Program}{j:Type}{B g o:TypeId}{t:Value}{m s:XR}{b k:World}{x:XU}{M l:aj}{A:ar}
def NY(h:aU aQ g f b d a c u)(n:i<u.length)(o:aP e)(q:d=some ⟨p,K,none⟩)(j:∀P,aU aQ g f P d a c (u.set i e)->ak (λp=>aI d=some p) b P->P.heap.size=b.heap.size->x P):PS b ⟨p,K+i,none⟩ (XH e) x:=by
 obtain⟨cs,D,r,s,t⟩:=h.body;obtain⟨rfl,k⟩:=jC.1 s;refine r.set (m:=i) (by rw[oD];exact n) q λP v w m=>j P ⟨⟨_,D,v,jC.2 ⟨?_,?_⟩,t⟩,h.self,λp k=>by rw[m];exact h.aF p k⟩ w m
 ·unfold ints;rw[List.map_set]
 ·intro y l
  rcases List.mem_or_eq_of_mem_set l with l|rfl
  ·exact k y l
  ·exact o
def PQ(c:World)(D:XN)(d:Value)(P:aj):Prop:=∃a b e,d=jk P a b e/\Row aQ 8 c D a b P.aN/\P.Ok
def PQ.af{S D:XN}(a:PQ b D t l)(c:ak S b k)(d:∀P,D P->¬S P):PQ k D t l:=by
 obtain⟨e,f,g,h,i,j⟩:=a;exact⟨e,f,g,h,i.af c d,j⟩
def PQ.mono{D P:XN}(c:PQ b D t l)(d:∀a,D a->P a):PQ b P t l:=by
 obtain⟨e,f,g,h,i,j⟩:=c;exact⟨e,f,g,h,i.mono d,j⟩
def zW:qz.Ok:=by constructor<;>simp[aP]
def lH{D:XN}(i:Row aQ 8 b D d a l.aN)(u:∀P,D P->P<b.heap.size):
  ZG 101 #[jk l d a c] b (Ok λv j=>∃d a c G,v=jk l d a c/\Row aQ 8 j G d a l.aN/\(∀P,G P->b.heap.size<=P/\P<j.heap.size)/\ai b j):=by
 have w:=i.dK;have x:=i.len;refine wW (PA.mk λA o B f=>PA.mk λC g E k=>⟨_,_,_,ae (g.get f id) rfl,PC.ok (cy (i.ah (o.then g)) λP e=>by have:=u P e;omega) ?_⟩);rintro _ F ⟨p,q,r,G,rfl,s,h,m⟩;have f:=h.get (g.get f id) id;have k:=h.get k id;refine⟨_,_,_,rfl,PS.mk f (by simp[aD]) λH n I y=>?_⟩;refine au (cs:=aD l p q r) (aX _ _ _ _) y (aB (aX _ _ _ _) (n.get k oM) rfl λJ t K z=>au (aX _ _ _ _) z (Ok.mk ⟨p,q,r,G,rfl,?_,?_,?_⟩))
 ·refine(((s.af n λP e=>?_).af t λP e=>?_).row (bytes:=8) dC (by rw[<-x];exact w))
  ·have:=m P e;omega
  ·have:=m P e;omega
 ·intro P e
  have:=m P e;have:=s.aF P e;omega
 ·have L:=h.size
  exact((ak.new ((o.then g).then h) n λP e=>.inr oM).new t λP e=>.inr oM)
structure NZ where
 a:ZH
 n:Nat
 c:Nat
 r:Nat
 V:XN
 D:XN
 l:List ((Int×Int)×Value)
 L:List ((Int×Int)×aj)
structure pX (w:World) (p:Nat) (F:XN) (S:ar) (q:NZ):Prop where
 at':w.heap[p]? =some (.cells #[.slice q.a q.n q.c,.map (some q.r),XH S.top] 164 (0,0))
 vec:aU aQ 3 q.V w q.a q.n q.c S.vec
 map:cj w q.r Ci q.l
 rel:eZ (PQ w q.D) q.l q.L
 key:∀x∈q.L,x.1=aR x.2
 SO:(q.L.map (·.2)).Perm S.l
 aF:∀b,F b->b<w.heap.size
 sub:∀b,b=p\/b=q.r\/q.V b\/q.D b->F b
 SP:p≠q.r
 RY:¬q.V p/\¬q.V q.r
 SQ:¬q.D p/\¬q.D q.r
 Uh:∀b,q.V b->¬q.D b
def cC(a:World)(b:Nat)(c:XN)(P:ar):Prop:=P.OK/\∃d,pX a b c P d
section
variable {w w' w1:World} {p:Nat} {F T:XN} {S:ar} {q:NZ}
def pX.af(P:pX w p F S q)(b:ak T w w')(d:∀a,F a->¬T a):pX w' p F S q:=
 ⟨b.get P.at' (d p (P.sub p (.inl rfl))),P.vec.af b λa c=>d a (P.sub a (.inr (.inr (.inl c)))),P.map.af b (d _ (P.sub _ (.inr (.inl rfl)))),
  P.rel.mono λf g e=>e.af b λa c=>d a (P.sub a (.inr (.inr (.inr c)))),P.key,P.SO,λa c=>Qk (P.aF a c) b.size,P.sub,P.SP,P.RY,P.SQ,P.Uh⟩
def pX.ah(P:pX w p F S q)(a:ai w w'):pX w' p F S q:=P.af a λ_ _ P=>P
def cC.af(P:cC w p F S)(b:ak T w w')(c:∀a,F a->¬T a):cC w' p F S:=⟨P.1,P.2.imp λq d=>d.af b c⟩
def cC.ah(P:cC w p F S)(a:ai w w'):cC w' p F S:=P.af a λ_ _ P=>P
def cC.aF(a:cC w p F S):∀P,F P->P<w.heap.size:=a.2.elim λq b=>b.aF
def pX.tidy(P:pX w p F S q):Tidy q.L:=by
 have:=P.map.tidy;unfold Tidy at*;rw[<-P.rel.keys];exact this
def pX.len(P:pX w p F S q):q.n=S.n:=by rw[P.vec.len dC,S.bd]
def pX.SR(P:pX w p F S q)(a:S.OK):Row aQ 8 w q.V q.a q.n S.vec:=P.vec.row dC (by rw[S.bd];have:=a.n;unfold aT;omega)
def pX.look(a:pX w p F S q)(d:S.OK)(P:Int×Int):(ax q.l P=none/\S.get P=none)\/∃b c,ax q.l P=some b/\S.get P=some c/\PQ w q.D b c:=by
 rw[<-GU d a.key a.SO a.tidy P];exact a.rel.ax P
def ky(P:cC w p F S):ZG 38 #[XL p] w (Ok (qw aQ 3 w S.vec)):=by
 obtain⟨a,q,P⟩:=P;refine uV ⟨p,0,rfl,_,_,_,ae P.at' rfl,PC.ok (cy (P.SR a) λb c=>P.vec.aF b c) ?_⟩;rintro _ j ⟨d,e,f,G,rfl,g,h,i⟩;exact⟨_,_,_,rfl,Ok.mk ⟨d,e,f,G,rfl,g,h,i⟩⟩
def Ei(P:cC w p F S):ZG 67 #[XL p] w (Ok λa w'=>a= XH S.top/\w=w'):=by
 obtain⟨b,q,P⟩:=P;exact uY ⟨p,0,rfl,_,ae P.at' rfl,Ok.mk ⟨rfl,rfl⟩⟩
def N_(r:cC w p F S){D:XN}(s:Row aQ 8 w D d a l.aN)(he:l.Ok)(hn:l.aN.length=S.n){o:Nat}(ho:o<S.n):
  ZG 100 #[XL p,jk l d a c,XH (o:Int)] w (Ok λk w'=>k= .bool (S.i_ l o)/\ai w w'):=by
 obtain⟨t,q,r⟩:=r;have b1:=s.len;have hN:=t.n;refine tk (PA.mk λw1 j s1 L=>?_);have Z:=s.ah j;obtain⟨u,v,g,ha,hx,-,hc⟩:=Z.mI (i:=o) oM;have M:l.aN.getD o 0=g:=by rw[QQ,hx];rfl
 refine⟨_,_,_,ae L rfl,u,v,ha,oM,oM,g,hc,an.eG (λx=>Ok.mk ⟨?_,j⟩) (λx=>?_)⟩
 ·unfold ar.i_;simp only[M,x];rfl
 have y:=r.ah j;have e:∀{z:Bool} {w':World},ai w w'->(match S.get (o,g)with
  |none=>false
  |some b=>decide (b.ay<l.ay)&&(List.range b.aN.length).all λi=>decide (b.aN.getD i 0<=l.aN.getD i 0))=z->Ok (λk w'=>k= .bool (S.i_ l o)/\ai w w') (.returned (.bool z)) w':=λ{z w'} hg hy=>by
  refine Ok.mk ⟨?_,hg⟩;unfold ar.i_;simp only[M];rw[<-hy,show(g==0)=false by simpa using x]
  rfl
 refine⟨p,0,rfl,_,ae y.at' rfl,lO (enc:=Ci) (k:=((o:Int),g)) NX Th y.map ?_⟩;rcases y.look t (o,g)with⟨A,h⟩|⟨k,b,A,h,N,m,O,rfl,a0,b2⟩
 ·rw[A]
  refine bS (qy qz none 0 0) ⟨_,rfl,PA.mk λw2 B s2 C=>aB (aX qz none 0 0) C rfl λE H s3 I=>an.tt rfl (e (j.then ((B.then (ak.refl _)).new H λu hb=>.inr oM)) ?_)⟩;rw[h]
 ·rw[A]
  refine bS (qy b N m O) ⟨_,rfl,PA.mk λw2 B s2 C=>aB (aX b N m O) C rfl λE H s3 I=>an.ff rfl ?_⟩;have J:ai w1 E:=(B.then (ak.refl _)).new H λu hb=>.inr oM;have n:=j.then J;have Q:=J.get L id;have a1:=ar.get_some h;have b3:b.aN.length=S.n:=by have:=ir (t.Eo b a1.1);omega
  refine⟨_,ae I rfl,_,ae Q rfl,an.dec (λhl=>e n ?_) (λhl=>?_)⟩
  ·rw[h]
   simp only[Bool.and_eq_false_iff,decide_eq_false_iff_not];left;omega
  have a2:=s.ah n;have R:=a0.ah J;have b6:=R.len;refine⟨_,_,_,ae I rfl,λT i w'=>∃P:Nat,i=P/\P<=m/\T=m-P/\(∀f,f<P->b.aN.getD f 0<=l.aN.getD f 0)/\E=w',⟨_,0,rfl,Qj _,rfl,λf K=>oM,rfl⟩,?_⟩;rintro T i _ _ ⟨P,rfl,hj,rfl,U,rfl⟩;refine an.dec (λb7=>?_) (λb8=>?_)
  ·obtain⟨b4,o4,V,a3,a4,-,a5⟩:=R.mI (i:=P) oM
   obtain⟨b5,o5,W,a6,a7,-,a8⟩:=a2.mI (i:=P) oM;have X:b.aN.getD P 0=V:=by rw[QQ,a4];rfl
   have Y:l.aN.getD P 0=W:=by rw[QQ,a7];rfl
   refine⟨b4,o4,a3,oM,oM,V,a5,_,_,_,ae Q rfl,b5,o5,a6,oM,oM,W,a8,an.dec (λa9=>e n ?_) (λb9=>?_)⟩
   ·rw[h]
    simp only[Bool.and_eq_false_iff];right;rw[List.all_eq_false];exact⟨P,by simp;omega,by rw[X,Y];simpa using a9⟩
   ·refine⟨_,oM,P+1,aq oM,oM,rfl,λf K=>?_,rfl⟩
    by_cases b0:f=P
    ·subst b0;rw[X,Y];omega
    ·exact U f oM
  ·refine e n ?_
   rw[h];simp only[QK,ZY,Zk];exact⟨oM,λf K=>U f (by simp at K;omega)⟩
def OB(e:cC w p F S)(k:Int×Int):
  ZG 245 #[XL p,Ci k] w (Ok λz w'=>∃c d f G,z= .tuple #[jk ((S.get k).getD qz) c d f,.bool (S.get k).isSome]/\Row aQ 8 w' G c d ((S.get k).getD qz).aN/\(∀P,G P->w.heap.size<=P/\P<w'.heap.size)/\ai w w'):=by
 obtain⟨L,q,e⟩:=e;obtain⟨i,j⟩:=k;refine vl (PA.mk λw1 M s1 l=>PA.mk λA B s2 u=>λm C=>?_);have v:ai A m:=C.af;have s3:m.heap.size=A.heap.size:=by rw[C.heap]
 have l:=v.get (B.get l id) id;have u:=v.get u id;have E:=(M.then B).then v;have x:=e.ah E;have a2:=e.map.lt;have a3:=az e.at';obtain⟨b,c,d,f,P,g,h,H,N,O⟩:∃(b:aj) (c:ZH) (d f:Nat) (P:Bool),(ax q.l (i,j)).getD (jk qz none 0 0)=jk b c d f/\(ax q.l (i,j)).isSome=P/\(S.get (i,j)).getD qz=b/\(S.get (i,j)).isSome=P/\Row aQ 8 m q.D c d b.aN:=by
  rcases x.look L (i,j)with⟨g,h⟩|⟨z,Q,g,h,R,T,U,rfl,V,a4⟩
  ·exact⟨qz,none,0,0,false,by rw[g];rfl,by rw[g];rfl,by rw[h];rfl,by rw[h];rfl,Row.nil _ _⟩
  ·exact⟨Q,R,T,U,true,by rw[g];rfl,by rw[g];rfl,by rw[h];rfl,by rw[h];rfl,V⟩
 have I:∀P,q.D P->P<w.heap.size:=λP a=>e.aF P (e.sub P (.inr (.inr (.inr a))));refine⟨λP=>P=m.heap.size,p,0,rfl,oM,_,ae x.at' rfl,oM,_,_,ae l rfl,ae l rfl,bS (qy b c d f) ⟨P,λw' W=>?_,PA.mk λw4 n s4 X=>⟨ai.af n,aB (aX b c d f) X rfl λw5 o s5 Y=>⟨o,?_⟩⟩⟩⟩
 ·have:=eA NX Th (x.map.af W oM) (i,j) true
  rw[g,h]at this;exact this
 have Z:=(O.ah n).af o λP a hn=>by have:=I P a;omega
 refine au (aX b c d f) Y (PC.ok (lH Z λP a=>by have:=I P a;omega) ?_);rintro _ w6 ⟨r,s,t,G,rfl,a0,J,y⟩;have a1:=y.get (o.get (n.get u id) oM) id;have z6:=y.size;refine bS (qy b r s t) ⟨rfl,aB (aX b r s t) a1 rfl λw7 K s7 g7=>au (aX b r s t) g7 (Ok.mk ⟨r,s,t,G,by rw[H,N],?_,?_,?_⟩)⟩
 ·rw[H];exact a0.af K λP a hn=>by have:=J P a;omega
 ·intro P a;have:=J P a;omega
 ·exact(((E.then n).new o λP a=>.inr oM).then y).new K λP a=>.inr oM
end
section
variable {w w' w1:World} {p:Nat} {F T:XN} {S:ar} {q:NZ}
def Bm{S:ar}:((List.range a).any λP=>!S.i_ l P)=false↔∀P,P<a->S.i_ l P=true:=by
 simp[List.any_eq_false]
def sT(f:cC w p F S){e:aj}{D:XN}(A:Row aQ 8 w D d a e.aN)(hD:∀P,D P->P<w.heap.size/\¬F P)(he:e.Ok)(hl:S.l.length<4611686018427387904):
  ZG 52 #[XL p,jk e d a c] w (Ok λB w'=>B= XH (S.add e).1/\∃C,cC w' p C (S.add e).2/\dy F w C w'):=by
 have fm:=f;obtain⟨E,q,f⟩:=f;have hN:=E.n;have b2:=f.len;have j3:=az f.at';have j4:=f.map.lt;have d3:=f.SR E;have g:∀{no:Int} {w':World},ai w w'->S.add e=(no,S)->Ok (λB w'=>B= XH (S.add e).1/\∃C,cC w' p C (S.add e).2/\dy F w C w') (.returned (XH no)) w':=λ{no w'} hg ha=>by
  refine Ok.mk ⟨by rw[ha],F,?_,ai.af hg,λP b=>.inl b⟩;rw[ha];exact fm.ah hg
 refine uX (PA.mk λw1 k1 s1 g1=>λw2 d2=>?_);have k2:ai w1 w2:=d2.af;have s2:w2.heap.size=w1.heap.size:=by rw[d2.heap]
 have N:=k1.then k2;have g2:=k2.get g1 id;have h8:=f.ah N;refine au (aX e d a c) g2 ⟨p,0,rfl,_,_,_,ae h8.at' rfl,PC.ok (vZ (A.ah N) (by rw[b2];omega)) ?_⟩;rintro _ w3 ⟨rfl,O⟩;rw[b2];refine⟨_,rfl,an.dX (λH=>g (N.then O) ?_) (λQ=>?_)⟩
 ·rw[ar.add_def,Zx H]
 obtain⟨c1,c5,c3,c6,c7,c8,c9,f0,f1,j5⟩:=ir Q;obtain⟨o,n⟩:∃o:Nat,e.origin=o:=⟨e.origin.toNat,oM⟩
 have I:o<S.n:=oM
 intro w4 d4;have k4:ai w3 w4:=d4.af;have s4:w4.heap.size=w3.heap.size:=by rw[d4.heap]
 have d5:=(N.then O).then k4;have z3:=O.size;have g4:=k4.get (O.get g2 id) id;have b3:=f.ah d5;obtain⟨r,a5,n5,d6,P,m,J,j⟩:∃(r:aj) (d:ZH) (a c:Nat) (P:Bool),(ax q.l (aR e)).getD (jk qz none 0 0)=jk r d a c/\(ax q.l (aR e)).isSome=P/\(S.get (aR e)).isSome=P:=by
  rcases b3.look E (aR e)with⟨m,J⟩|⟨B,a0,m,J,b8,n3,c3,rfl,j6,j7⟩
  ·exact⟨qz,none,0,0,false,by rw[m];rfl,by rw[m];rfl,by rw[J];rfl⟩
  ·exact⟨a0,b8,n3,c3,true,by rw[m];rfl,by rw[m];rfl,by rw[J];rfl⟩
 refine⟨λP=>P=w4.heap.size,p,0,rfl,oM,_,ae b3.at' rfl,oM,_,_,ae g4 rfl,ae g4 rfl,bS (qy r a5 n5 d6) ⟨P,λw' K=>?_,PA.mk λw5 k5 s5 g5=>⟨ai.af k5,aB (aX r a5 n5 d6) g5 rfl λw6 k6 s6 g6=>⟨k6,?_⟩⟩⟩⟩
 ·have:=eA NX Th (b3.map.af K oM) (aR e) true
  rw[m,J]at this;exact this
 have R:ai w w6:=(d5.then k5).new k6 λP b=>.inr oM;have b4:=k6.get (k5.get g4 id) oM;have h9:=f.ah R;refine an.mk (λs=>g R ?_) (λhf=>?_)
 ·rw[ar.add_def,Zq (by simpa using Q),Zx (by rw[j,s])]
 obtain⟨c2,o8,x8,i0,d8,-,i1⟩:=(d3.ah R).mI (i:=o) oM;have d9:x8=(S.mD o:Int):=by rw[S.jw I]at d8;exact(XJ d8).symm
 subst d9;have j8:=S.Ik o;refine⟨_,ae b4 rfl,p,0,rfl,_,_,_,ae h9.at' rfl,_,ae b4 rfl,c2,o8,i0,c1,oM,_,by rw[n];exact i1,λw7 d7=>?_⟩;have k7:ai w6 w7:=d7.af;have s7:w7.heap.size=w6.heap.size:=by rw[d7.heap]
 have b5:=R.then k7;rw[aq oM];refine an.dX (λH=>g b5 ?_) (λe0=>?_)
 ·rw[ar.add_def,Zq (by simpa using Q),Zq (by rw[j,hf];simp),Zx]
  rw[n,Qx,S.gE I];simpa using H
 have i2:=f.ah b5;have i3:=k7.get b4 id;have c4:e.seq=S.vec.getD e.origin.toNat 0+1:=by rw[n,Qx,S.gE I];simpa using e0
 have k:∀{a1:Int×ar},(if(List.range S.n).any λo=>!S.i_ e o then((9:Int),S)else(0,⟨S.n,cX e S.l⟩))=a1->S.add e=a1:=λ{a1} A=>by
  rw[ar.add_def,Zq (by simpa using Q),Zq (by rw[j,hf];simp),Zq (by simpa using c4)];exact A
 refine⟨p,0,rfl,_,_,_,ae i2.at' rfl,λa3 i w'=>∃h:Nat,i=h/\h<=S.n/\a3=S.n-h/\(∀l,l<h->S.i_ e l=true)/\ai w7 w',⟨_,0,rfl,Qj _,rfl,λl s=>oM,ak.refl _⟩,?_⟩;rintro a3 i _ w8 ⟨h,rfl,hj,rfl,a4,T⟩;have U:=b5.then T;have e1:=T.get i3 id;have z8:=T.size;rw[b2];refine an.dec (λj9=>?_) (λk0=>?_)
 ·refine au (aX e d a c) e1 (PC.ok (N_ (fm.ah U) (A.ah U) he oM (o:=h) oM) ?_)
  rintro _ w9 ⟨rfl,k9⟩;refine⟨_,rfl,an.not (an.mk (λK=>?_) (λK=>g (U.then k9) (k (Zx ?_))))⟩
  ·refine⟨_,oM,h+1,aq oM,oM,rfl,λl s=>?_,T.then k9⟩
   by_cases i4:l=h
   ·rw[i4];exact K
   ·exact a4 l oM
  ·rw[List.any_eq_true]
   exact⟨h,by simp;omega,by rw[K];rfl⟩
 ·have a6:=k (Zq (by rw[Bool.not_eq_true,Bm];intro l s;exact a4 l oM))
  intro e2 e3;have e4:ai w8 e2:=e3.af;have l0:e2.heap.size=w8.heap.size:=by rw[e3.heap]
  have L:=U.then e4;have V:=e4.get e1 id;have e5:=f.ah L;have i5:=(A.ah L)
  refine⟨λP=>P=q.r,p,0,rfl,f.SP,_,ae e5.at' rfl,oM,_,_,ae V rfl,ae V rfl,au (aX e d a c) V (PC.ok (lH i5 λP b=>by have:=(hD P b).1;have:=L.size;omega) ?_)⟩;rintro _ i6 ⟨b7,b9,c0,G,rfl,e6,hG,W⟩;have a7:=L.then W;have X:=f.ah a7;have j2:=L.size;refine bS (qy e b7 b9 c0) ⟨rfl,ai.af W,iZ (enc:=Ci) (k:=aR e) NX Th X.map λe7 e8 t l3=>⟨t,λe9 f2=>?_⟩⟩;have u:ai e7 e9:=f2.af;have l4:e9.heap.size=e7.heap.size:=by rw[f2.heap]
  have a8:=u.get (t.get X.at' f.SP) id;have a9:=u.get (t.get (W.get V id) oM) id;have b0:=(X.vec.af t λP b e=>f.RY.2 (e▸b)).ah u;obtain⟨g0,g3,i7,a2,b1,-,g7⟩:=(b0.row (bytes:=8) dC (by rw[S.bd];unfold aT;omega)).mI (i:=o) oM;have d0:i7=(S.mD o:Int):=by rw[S.jw I]at b1;exact(XJ b1).symm
  subst d0;refine⟨p,0,rfl,_,_,_,ae a8 rfl,_,ae a9 rfl,g0,g3,a2,c1,oM,_,by rw[n];exact g7,g0,g3,a2,c1,oM,?_⟩;rw[n,Qx,aq oM];refine NY b0 (by rw[S.bd];exact I) bb a2 λg8 g9 M l5=>λh3 h4=>?_;have v:ai g8 h3:=h4.af;have l6:h3.heap.size=g8.heap.size:=by rw[h4.heap]
  have x:∀P,aI q.a=some P->q.V P:=λP b=>f.vec.self P b;have i8:¬aI q.a=some p:=λe=>f.RY.1 (x p e);have i9:¬aI q.a=some w.heap.size:=λe=>by have:=f.vec.aF _ (x _ e);omega
  have b6:=v.get (M.get a8 i8) id;have h5:=v.get (M.get a9 i9) id;refine⟨p,0,rfl,_,ae b6 rfl,_,ae h5 rfl,p,0,rfl,PS.mk b6 sM λh6 Y l7 j0=>?_⟩;have l8:=W.size;have j1:¬aI q.a=some q.r:=λe=>f.RY.2 (x _ e);refine Ok.mk ⟨by rw[a6],λP=>F P\/G P,?_,?_,?_⟩
  rotate_left
  ·have Z:ak F w h6:=((((ai.af a7).then (t.mono λP _ b=>f.sub P (.inr (.inl b)))).then (ai.af u)).then ((M.mono λP _ b=>f.sub P (.inr (.inr (.inl (x P b))))).then (ai.af v))).then (Y.mono λP _ b=>f.sub P (.inl b))
   exact Z
  ·intro P b;rcases b with b|b
   ·exact .inl b
   ·exact .inr (by have:=hG P b;omega)
  have h7:=(ar.xP E he).1;rw[a6]at h7⊢;have y:∀P,G P->P≠p/\P≠q.r/\¬q.V P:=λP b=>by
   have:=hG P b;refine⟨oM,oM,λhv=>?_⟩;have:=f.vec.aF P hv;omega
  refine⟨h7,⟨q.a,q.n,q.c,q.r,q.V,λP=>q.D P\/G P,aJ q.l (aR e) (jk e b7 b9 c0),aJ q.L (aR e) e⟩,?_,?_,?_,?_,?_,?_,?_,?_,f.SP,f.RY,?_,?_⟩
  ·have s:(if e.ay>S.top then e.ay else S.top)=max S.top e.ay:=by split<;>omega
   rw[j0,ar.PR,<-s];rfl
  ·rw[show ar.vec ⟨S.n,cX e S.l⟩=S.vec.set o ((S.mD o+1:Nat):Int) by rw[ar.PT S e n];simp]
   exact(g9.ah v).af Y λP b e=>f.RY.1 (e▸b)
  ·exact(((e8.ah u).af M j1).ah v).af Y λe=>f.SP e.symm
  ·have Z:ak (λP=>P=q.r\/aI q.a=some P\/P=p) i6 h6:=((t.mono λP _ b=>.inl b).then (ai.af u)).then (((M.mono λP _ b=>.inr (.inl b)).then (ai.af v)).then (Y.mono λP _ b=>.inr (.inr b)))
   have hd:∀P,q.D P\/G P->¬(P=q.r\/aI q.a=some P\/P=p):=by
    rintro P (b|b) (e|e|e)
    ·exact f.SQ.2 (e▸b)
    ·exact f.Uh P (x P e) b
    ·exact f.SQ.1 (e▸b)
    ·exact(y P b).2.1 e
    ·exact(y P b).2.2 (x P e)
    ·exact(y P b).1 e
   refine eZ.aJ ⟨b7,b9,c0,rfl,(e6.mono λP b=>.inr b).af Z hd,he⟩ (X.rel.mono λB f3 hu=>(hu.mono λP b=>.inl b).af Z hd)
  ·intro r j
   rcases fH j with rfl|j
   ·rfl
   ·exact f.key r j
  ·have d1:ax q.L (aR e)=none:=by
    rw[GU E f.key f.SO f.tidy];have:=j.trans hf;simpa using this
   have:∀z:List ((Int×Int)×aj),ax z (aR e)=none->aJ z (aR e) e=z++[(aR e,e)]:=by
    intro z
    induction z with
    |nil=>intro _;rfl
    |cons a0 z ih=>
     intro hL;obtain⟨y1,y2⟩:=a0;unfold ax at hL;unfold aJ;split at hL
     ·cases hL
     ·rename_i H
      rw[Zq H,ih hL];rfl
   rw[this _ d1,Q3];exact(List.perm_append_comm.trans (List.Perm.cons e f.SO)).trans (cV e S.l).symm
  ·intro P b
   rcases b with b|b
   ·have:=f.aF P b;omega
   ·have:=hG P b;omega
  ·rintro P (b|b|b|b|b)
   ·exact .inl (f.sub P (.inl b))
   ·exact .inl (f.sub P (.inr (.inl b)))
   ·exact .inl (f.sub P (.inr (.inr (.inl b))))
   ·exact .inl (f.sub P (.inr (.inr (.inr b))))
   ·exact .inr b
  ·refine⟨?_,?_⟩
   ·rintro(b|b)
    ·exact f.SQ.1 b
    ·exact(y _ b).1 rfl
   ·rintro(b|b)
    ·exact f.SQ.2 b
    ·exact(y _ b).2.1 rfl
  ·rintro P hv (b|b)
   ·exact f.Uh P hv b
   ·exact(y _ b).2.2 hv
def PU(e:iI h g o 1 8)(b:(h.info? o).bind (·.zero)=some (XH 0))(f:a<=c)(P:c*8<=aT){w:World}(d:∀w',aU aQ o (·=w.heap.size) w' (XM w.heap.size) a c (List.replicate a 0)->ai w w'->w'.heap.size=w.heap.size+1->m (.slice (XM w.heap.size) a c) w'):
  aH h (Instr.makeSlice g (XH (a:Int)) (XH (c:Int))) w m s:=by
 unfold aT at P;obtain⟨l,n,i,j,p,q,y⟩:=e.info;have r:n= XH 0:=by
  rw[i]at b;simp only[Option.bind_some,j]at b;exact XJ b
 subst r;have k:=run_make (P:=h) w g o l _ e.under i j .i64 .i64 a c oM oM (by rw[q];omega) oM;rw[Qx,Qx,p,Nat.mul_one]at k;have t:ai w (w.alloc (.cells (madeCells (Value.int .i64 0).cells c) o)):=ak.alloc w _;have u:(madeCells (Value.int .i64 0).cells c).toList=List.replicate c (XH 0):=by
  unfold madeCells;rw[Array.toList_map];apply List.ext_getElem
  ·simp
  ·intro z A B
   simp[Value.cells,Nat.mod_one]
 refine aH.mk k (d _ ⟨⟨List.replicate a (XH 0),λ_=>False,⟨⟨by simp[aQ,flat],.inr ⟨w.heap.size,c,_,rfl,Qj _,heap_alloc_new w _,f,by unfold maxLen;omega,by simp[size_madeCells,aQ,flat],?_⟩⟩⟩,?_,λ_ d=>d.elim⟩,λv P=>by simpa[aI]using P.symm,λv P=>by subst P;simp⟩ t sM)
 ·rw[u]
  simp only[aQ,flat,Nat.mul_one,List.take_replicate];rw[X2 f]
 ·exact jC.2 ⟨by simp[ints],λC x=>by rw[List.eq_of_mem_replicate x];simp[aP]⟩
def CB(g:a<=64):ZG 49 #[XH (a:Int)] w (Ok λh w'=>∃p F,h= XL p/\cC w' p F ⟨a,[]⟩/\(∀P,F P->w.heap.size<=P)/\ai w w'):=by
 refine CT (PU sX kR (Q4 _) ba λw1 i j r=>⟨_,_,_,rfl,PA.mk λe f s k=>PA.mk λl c t m=>Ok.mk ⟨_,λP=>w.heap.size<=P/\P<l.heap.size,rfl,⟨ar.rC g,⟨_,a,a,w1.heap.size,(·=w.heap.size),λ_=>False,[],[]⟩,m,?_,cj.new (c.get k id),trivial,sM,List.Perm.refl _,λP b=>b.2,?_,by show e.heap.size≠w1.heap.size;omega,⟨by show e.heap.size≠_;omega,by show w1.heap.size≠_;omega⟩,⟨id,id⟩,λ_ _ n=>n⟩,λP b=>b.1,(j.then f).then c⟩⟩)
 ·have o:ar.vec ⟨a,[]⟩=List.replicate a 0:=by
   apply X3;intro q
   by_cases d:q<a
   ·rw[ar.jw ⟨a,[]⟩ d];simp[d,ar.mD]
   ·rw[Q7 (by rw[ar.bd];exact Nat.le_of_not_lt d),Q7 bc]
  rw[o];exact(i.ah f).ah c
 ·rintro P (rfl|rfl|rfl|b)
  ·show _/\_;omega
  ·show _<=w1.heap.size/\w1.heap.size<_;omega
  ·omega
  ·exact b.elim
end
def d_{c:jB j}{q p:Nat}{r:List j}{bytes:Nat}{x:j}(l:aU c g f b d q p r)(J:iI h o g c.k bytes)(N:b.heap[a]? =some (.cells n g I)){D:XN}(z:c.rep b D x n.toList)(t:∀P,D P->P<b.heap.size/\aI d≠some P)(e:(r.length+1)*bytes<=aT)(O:r.length+1<=maxLen)(A:∀u k C v,aU c g v C u (q+1) k (r++[x])->ak (λF=>aI d=some F) b C->(∀P,v P->f P\/D P\/b.heap.size<=P)->m (.slice u (q+1) k) C):
  aH h (Builtin.append_ #[o,o] B #[.slice d q p,.slice (XM a) 1 1]) b m s:=by
 have K:=l.len J.pos;obtain⟨cs,Q,R,S,w⟩:=l.body;have V:=c.len z;refine xv J (news:=n.toList) R N (by rw[Qz oM]) oM (c.one z) (by rw[K];exact e) (by rw[K];exact O) λu T y L M E=>?_;have H:ak (λF=>aI d=some F) b y:=(M.mono λ_ _ l=>l.symm)
 let v:XN:=λP=>f P\/D P\/(b.heap.size<=P/\P<y.heap.size)
 have W:b.heap.size<=y.heap.size:=M.size;refine A u T y v ⟨⟨_,λP=>Q P\/D P,L,bK.append ((S.af H λP e=>(w P e).2).mono λP e=>.inl e) (bK.one (c.mono (c.af z H λP e=>(t P e).2) λP e=>.inr e)),?_⟩,?_,?_⟩ H ?_
 ·intro P e
  have X:P<b.heap.size:=e.elim (λi=>l.aF P (w P i).1) λi=>(t P i).1;refine⟨e.elim (λi=>.inl (w P i).1) λi=>.inr (.inl i),?_⟩;rcases E with E|E
  ·rw[E];exact e.elim (λi=>(w P i).2) λi=>(t P i).2
  ·rw[E];intro U;cases U;omega
 ·intro P e
  rcases E with E|E
  ·exact .inl (l.self P (E▸e))
  ·have:=L.lt e
   rw[E]at e;cases e;exact .inr (.inr ⟨oM,this⟩)
 ·rintro P (e|e|e)
  ·have:=l.aF P e;omega
  ·have:=(t P e).1;omega
  ·exact e.2
 ·rintro P (e|e|e)
  ·exact .inl e
  ·exact .inr (.inl e)
  ·exact .inr (.inr e.1)
def Jj{D j:XN}(e:Row aQ 8 b D d a u)(f:Row aQ 8 b j d a b0):u=b0:=by
 have o:=e.len;have p:=f.len;apply List.ext_getElem oM;intro i k l;obtain⟨q,r,s,m,g,-,n⟩:=e.mI (i:=i) oM;obtain⟨t,v,w,P,h,-,c⟩:=f.mI (i:=i) oM;rw[m]at P;cases P
 rw[n]at c;cases c
 rw[Qq k]at g;rw[Qq l]at h;rw[XJ g,XJ h]
section
def Af(c:World)(D:XN)(d:ar)(e:List Value)(P:aj):Prop:=∃a b f,e=[jk P a b f]/\Row aQ 8 c D a b P.aN/\P.Ok/\P∈d.l
def p_{P b:Type}(c:P->b->Prop):List P->List b->Prop
 |[],[]=>True
 |a::d,e::f=>c a e/\p_ c d f
 |_,_=>False
def p_.snoc{P a:Type}{b:P->a->Prop}{c:P}{d:a}(e:b c d):∀{f:List P} {g:List a},p_ b f g->p_ b (f++[c]) (g++[d])
 |[],[],_=>⟨e,trivial⟩
 |_::_,_::_,h=>⟨h.1,p_.snoc e h.2⟩
def p_.length{P a:Type}{d:P->a->Prop}:∀{b:List P} {c:List a},p_ d b c->b.length=c.length
 |[],[],_=>rfl
 |_::_,_::_,e=>by simp[p_.length e.2]
def Af.unique{D:XN}(a:Af b D A a1 l)(c:Af b D A a1 M):l=M:=by
 obtain⟨f,g,h,rfl,d,-,-⟩:=a;obtain⟨i,j,k,P,e,-,-⟩:=c;simp only[aD,List.cons.injEq,Value.agg.injEq,Array.mk.injEq,Value.int.injEq,XX,and_true,true_and]at P;obtain⟨m,n,o,⟨rfl,rfl,rfl⟩,p,q,r,s,t,u⟩:=P;have:=Jj d e
 cases l;cases M;simp_all
def p_.unique{a:World}{D:XN}{b:ar}:∀{P:List (List Value)} {c d:List aj},p_ (Af a D b) P c->p_ (Af a D b) P d->c=d
 |[],[],[],_,_=>rfl
 |_::_,_::_,_::_,e,f=>by rw[e.1.unique f.1,p_.unique e.2 f.2]
variable {w w9 w1 A B:World} {p bo:Nat} {F:XN} {S:ar} {q:NZ} {Pr:aj->Bool} {s:World×(XN)} {pre:List (List Value)}
structure SJ (w9:World) (bo:Nat) (D:XN) (S:ar) (Pr:aj->Bool) (s:World×(XN)) (pre:List (List Value)) (A:World):Prop where
 af:ak (·=bo) w9 A
 own:ak (fJ s.2) s.1 A
 out:∀b,s.2 b->b≠w9.heap.size/\b≠w9.heap.size+1/\b≠bo
 aF:∀b,s.2 b->b<A.heap.size
 dK:w9.heap.size+2<=A.heap.size
 nC:∃a n c G L,A.heap[bo]? =some (.cells #[.slice a n c] 50 (0,0))/\aU iX 59 G A a n c (L.filter Pr)/\(∀b,G b->w9.heap.size+2<=b/\¬s.2 b)/\p_ (Af w9 D S) pre L/\L.length<=S.l.length
def SJ.ah(a:SJ w9 bo q.D S Pr s pre A)(P:ai A B):SJ w9 bo q.D S Pr s pre B:=by
 obtain⟨b,c,d,e,f,g,h,i,G,j,k,l,m,n⟩:=a;exact⟨b.ah P,c.ah P,d,λo p=>Qk (e o p) P.size,Xx f P.size,g,h,i,G,j,P.get k id,l.ah P,m,n⟩
def SJ.fC(t:bo<w9.heap.size)(c:SJ w9 bo q.D S Pr s pre A)(f:tD (w9.heap.size+1) A B):SJ w9 bo q.D S Pr s pre B:=by
 obtain⟨g,h,d,i,u,j,k,l,G,m,n,o,e,p⟩:=c;obtain⟨b,v⟩:=f;exact⟨g.new b λP a=>.inr oM,h.trans b (λ_ _ c=>c) λP _ a r=>(d P r).2.1 a,d,λP a=>by have:=i P a;omega,oM,j,k,l,G,m,b.get n oM,o.af b λP a w=>by have:=(e P a).1;omega,e,p⟩
def SJ.re(P:SJ w9 bo q.D S Pr s pre A):SJ w9 bo q.D S Pr (A,s.2) pre A:=⟨P.af,ak.refl _,P.out,P.aF,P.dK,P.nC⟩
def Oa{R:XU}(c1:bo<w9.heap.size)(hS:S.OK)(f:pX w9 p F S q)(v:∃d a3,w9.heap[a]? =some (.cells #[.map (some q.r)] d a3))(w:a≠bo)(x:¬F bo)(y:∀A B,R A->ak (qR w9) A B->R B)(hy:∀s pre n A,SJ w9 bo q.D S Pr s pre A->R A->zZ [jk qz none 0 0] n->(pre.length<S.l.length/\∃d,Af w9 q.D S n d)->mU XP (w9.heap.size+1) n A λP z=>P=true/\SJ w9 bo q.D S Pr s (pre++[n]) z/\R z)(o:SJ w9 bo q.D S Pr (w9,no) [] w1)(a7:R w1):
  ZG 167 #[.func (.yield (w9.heap.size+1)) #[] #[],XL a] w1 (Ok λa4 g=>R g/\∃s l,SJ w9 bo q.D S Pr s l g/\∃r,p_ (Af w9 q.D S) l r/\r.Perm S.l):=by
 obtain⟨e2,f2,v⟩:=v;have c2:=f.map.lt;have a8:pX w1 p F S q:=f.af o.af λP b d=>x (d▸b);have hD:∀P,q.D P->P<w9.heap.size/\P≠bo:=λP b=>⟨f.aF P (f.sub P (.inr (.inr (.inr b)))),λd=>x (d▸f.sub P (.inr (.inr (.inr b))))⟩
 have c3:=o.dK;have c4:q.r≠bo:=λd=>x (d▸f.sub _ (.inr (.inl rfl)));refine dj ⟨_,ae (o.af.get v w) rfl,mapRange NX a8.map λN b0 t s6=>?_⟩;obtain⟨j1,j2,j3,jd,j5,ja,jn,jc,G0,L0,j4,O,Q,j8⟩:=o;have b1:SJ w9 bo q.D S Pr (N,λP=>P=w1.heap.size\/P=q.r) [] N:=by
  refine⟨j1.ah t,ak.refl _,λP b=>by rcases b with rfl|rfl<;>omega,λP b=>by rcases b with rfl|rfl<;>omega,oM,ja,jn,jc,G0,L0,t.get j4 id,O.ah t,λP b=>⟨(Q P b).1,λd=>?_⟩,j8⟩;rcases d with rfl|rfl
  ·have:=O.aF _ b;omega
  ·have:=(Q _ b).1;omega
 refine⟨λT g=>∃pre left c k,T=left.length/\dQ g w1.heap.size q.r Ci q.l left/\eZ (PQ w9 q.D) left c/\p_ (Af w9 q.D S) pre k/\(k++c.map (·.2)).Perm S.l/\SJ w9 bo q.D S Pr (g,λP=>P=w1.heap.size\/P=q.r) pre g/\R g,
  ⟨_,[],q.l,q.L,[],rfl,b0,f.rel,trivial,by simpa using f.SO,b1,y _ _ a7 (ai.af t)⟩,?_⟩
 rintro T _ c5 ⟨pre,left,c,k,rfl,hr,U,C,E,V,W⟩;refine vx hr (λh0=>.inl ⟨rfl,?_⟩) (λc6 a4 l1 l2 H a6 a9 b2 u c7=>.inr ⟨_,_,rfl,?_⟩)
 ·subst h0
  obtain rfl:c=[]:=by
   have:=U.length;simp at this;exact QW this.symm
  exact Ok.mk ⟨W,_,pre,V,k,C,by simpa using E⟩
 subst a6;obtain⟨X,e,Y,rfl,⟨h,i,j,rfl,Z,a0⟩,b3⟩:=U.Uq;have a1:e∈S.l:=E.mem_iff.1 sM;have a2:((k++[e])++(X++Y).map (·.2)).Perm S.l:=by
  refine List.Perm.trans ?_ E;simp only[Q3,QY,XQ,List.singleton_append];exact List.Perm.append_left _ List.perm_middle.symm
 have b4:pre.length<S.l.length:=by
  have I:=a2.length_eq;have w:=C.length;simp at I;omega
 have b5:SJ w9 bo q.D S Pr (H,λP=>P=w1.heap.size\/P=q.r) pre H:=by
  obtain⟨I,w,h3,hd,h5,h,i,j,G,r,h4,h6,h7,h8⟩:=V;exact⟨I.new u λP b=>.inr oM,ak.refl _,h3,λP b=>by have:=hd P b;omega,oM,h,i,j,G,r,u.get h4 (λd=>(h3 _ (.inl rfl)).2.2 d.symm),h6.af u λP b d=>(h7 P b).2 (.inl d),h7,h8⟩
 have b6:=y _ _ W (u.mono λP _ b=>(⟨oM,oM⟩:qR w9 P));refine yQ b2 ⟨_,_,_,_,_,_,_,_,_,_,_,_,_,rfl,PA.mk λc8 J c9 b7=>aB (aX e h i j) b7 rfl λa5 K d0 b8=>au (aX e h i j) b8 ⟨_,rfl,(hy _ pre _ a5 ((b5.ah (J.new K λP b=>.inr oM)).re) ?_ ?_ ⟨b4,e,h,i,j,rfl,Z,a0,a1⟩).mono ?_⟩⟩
 ·exact y _ _ b6 (ai.af (J.new K λP b=>.inr oM))
 ·exact λφ L=>L e.origin e.seq e.ay h i j e.aW e.agg e.field e.op e.arg e.key
 ·rintro _ z ⟨rfl,m,b9⟩
  have c0:ai H a5:=J.new K λP b=>.inr oM;refine an.ff rfl ⟨_,?_,pre++[_],l1++l2,X++Y,k++[e],rfl,(a9.ah c0).af m.own (λM=>M (.inl rfl)) (λM=>M (.inr rfl)),b3,C.snoc ⟨h,i,j,rfl,Z,a0,a1⟩,a2,m.re,b9⟩;simp
def Ag(d:cC w p F S)(hl:S.l.length<=20000000)(hg:enters XP a=true)(hp:∀c j y M D w1,ai w w1->Row aQ 8 w1 D j y c.aN->c.Ok->c∈S.l->ZG a (n++ #[jk c j y M]++U) w1 (Ok λz C=>z= .bool (Pr c)/\ai w1 C)):
  ZG 57 #[XL p,.func (.func a) n U] w (Ok (qw iX 59 w (S.l.filter Pr))):=by
 have fm:=d;obtain⟨X,q,d⟩:=d;refine tC (PA.mk λk k3 s3 g3=>PA.mk λN k4 s4 g4=>?_);have b4:=k3.then k4;have c7:=d.ah b4;refine⟨p,0,rfl,_,ae c7.at' rfl,PC.ok (φ:=λz C=>z= .func (.func 167) #[] #[XL N.heap.size]/\(∃c c8,C.heap[N.heap.size]? =some (.cells #[.map (some q.r)] c c8))/\ai N C/\C.heap.size=N.heap.size+1)
  (dA (PA.mk λw5 E s5 g5=>Ok.mk ⟨rfl,⟨_,_,g5⟩,E,s5⟩)) ?_⟩
 rintro _ w9 ⟨rfl,c9,Y,s9⟩;have Z:=b4.then Y;have b5:=d.ah Z;have hw:=d.aF;have b6:=az d.at';have d0:=Y.get (k4.get g3 id) id;have d1:=Y.get g4 id;have b7:¬F k.heap.size:=λhf=>by have:=hw _ hf;omega
 have a0:k.heap.size<w9.heap.size:=oM
 refine⟨_,rfl,167,_,rfl,kR,World×(XN),(w9,no),SJ w9 k.heap.size q.D S Pr,λ_ _ _=>False,
  λpre vs=>pre.length<S.l.length/\∃c,Af w9 q.D S vs c,λg=>∃e,p_ (Af w9 q.D S) g e/\e.Perm S.l,?_,λs pre A B l h=>l.fC a0 h,λ_ _ _ _ d _=>d,?_,?_,?_,trivial⟩
 ·intro w6 k6 s6
  exact⟨ai.af k6,ai.af k6,λb P=>P.elim,λb P=>P.elim,oM,none,0,0,λ_=>False,[],k6.get d1 id,aU.nil _,λb P=>P.elim,trivial,Qj _⟩
 ·rintro s pre A l f8 t1 t2 t3 r tn t t4 t5 t6 t7 t8 t9 ⟨f9,c,j,y,M,he,hr,O,a1⟩
  simp only[aD,List.cons.injEq,Value.agg.injEq,Array.mk.injEq,Value.int.injEq,XX,and_true,true_and]at he;obtain⟨rfl,rfl,rfl,⟨rfl,rfl,rfl⟩,rfl,rfl,rfl,rfl,rfl,rfl⟩:=he;refine PA.mk λg0 d2 g1 d3=>aB (aX c r tn t) d3 rfl λd4 d5 g2 d6=>?_;have k2:ai A d4:=d2.new d5 λb P=>.inr oM;refine⟨ai.af k2,λb8 h=>?_⟩;have H:=(l.ah k2).fC a0 h;have b9:=h.1.get d6 oM;have g6:=h.2;have c0:∀b,q.D b->b<w9.heap.size/\b≠k.heap.size:=λb P=>⟨b5.aF b (d.sub b (.inr (.inr (.inr P)))),λc=>b7 (c▸d.sub b (.inr (.inr (.inr P))))⟩
  have c1:=hr.af H.af λb P=>(c0 b P).2;have d7:ai w b8:=Z.new H.af λb P=>.inr oM;refine⟨_,ae (H.af.get d0 oM) rfl,au (aX c r tn t) b9 ⟨a,n,U,rfl,hg,PC.ok (hp c r tn t _ b8 d7 c1 O a1) ?_⟩⟩;rintro _ d8 ⟨rfl,a2⟩;refine⟨_,rfl,an.mk (λh=>λc2 d9=>?_) (λhf=>?_)⟩
  ·have e0:ai d8 c2:=d9.af
   have Q:=a2.then e0;have e1:=H.ah Q;obtain⟨I,R,J,u,h5,T,ln,lc,G,e,m,i,f,o,h9⟩:=e1;have e2:=c1.ah Q;have b6:=o.length;refine⟨no,id,_,_,_,ae m rfl,au (aX c r tn t) (Q.get b9 id) (PC.ok (lH e2 λb P=>by have:=(c0 b P).1;omega) ?_)⟩;rintro _ g7 ⟨e3,cn,cc,G2,rfl,e4,V,a3⟩;have g8:=a3.size;refine⟨_,_,_,_,_,_,_,_,_,_,_,_,rfl,ai.af a3,PA.mk λg9 a4 h0 e5=>⟨ai.af a4,?_⟩⟩;have kk:=a3.then a4;refine d_ (c:=iX) (i.ah kk) Hj e5 (D:=G2) (x:=c) ⟨e3,cn,cc,rfl,e4.ah a4,O⟩ (λb P=>⟨by have:=V b P;omega,λc=>by have:=V b P;have:=i.aF _ (i.self _ c);omega⟩) ?_ ?_ λa' K h1 F' e6 a5 c3=>⟨_,_,_,rfl,?_⟩
   ·have:=List.length_filter_le Pr e;unfold aT;omega
   ·have:=List.length_filter_le Pr e;unfold maxLen;omega
   have W:=i.self;have a6:¬aI T=some k.heap.size:=λc=>by have:=(f _ (W _ c)).1;omega
   have e7:=a5.get (kk.get m id) a6;refine PS.mk e7 sM λe8 c4 i0 e9=>?_;have E:ak (λb=>aI T=some b\/b=k.heap.size) c2 e8:=((ai.af kk).then (a5.mono λb _ P=>.inl P)).then (c4.mono λb _ P=>.inr P);have i1:=a5.size;refine⟨(ai.af Q).trans E (λ_ _ d=>d) λb _ P=>?_,?_⟩
   ·rcases P with P|rfl
    ·have:=(f _ (W _ P)).1;exact⟨oM,oM⟩
    ·exact⟨oM,oM⟩
   refine⟨I.new E ?_,R.trans E (λ_ _ d=>d) λb _ P v=>?_,J,λb P=>by have:=u b P;omega,oM,a',ln+1,K,F',e++[c],?_,?_,?_,o.snoc ⟨r,tn,t,rfl,hr,O,a1⟩,?_⟩
   ·rintro b (P|P)
    ·exact .inr (by have:=(f _ (W _ P)).1;omega)
    ·exact .inl P
   ·rcases P with P|P
    ·exact(f _ (W _ P)).2 v
    ·exact(J b v).2.2 P
   ·rw[e9];rfl
   ·have a7:(e++[c]).filter Pr=e.filter Pr++[c]:=by rw[List.filter_append];simp[h]
    rw[a7];refine e6.af c4 λb P c=>?_;rcases c3 b P with P|P|P
    ·have:=(f b P).1;omega
    ·have:=V b P;omega
    ·omega
   ·intro b P
    rcases c3 b P with P|P|P
    ·exact f b P
    ·have:=V b P;exact⟨oM,λv=>by have:=u b v;omega⟩
    ·exact⟨oM,λv=>by have:=u b v;omega⟩
   ·simp;omega
  ·refine⟨ai.af a2,?_⟩
   obtain⟨I,R,J,u,h5,T,ln,lc,G,e,m,i,f,o,h9⟩:=H.ah a2;have b6:=o.length;refine⟨I,R,J,u,h5,T,ln,lc,G,e++[c],m,?_,f,o.snoc ⟨r,tn,t,rfl,hr,O,a1⟩,by simp;omega⟩;have a7:(e++[c]).filter Pr=e.filter Pr:=by rw[List.filter_append];simp[hf]
   rw[a7];exact i
 ·intro f0 Rx hR _ i2 hy w6 f1 f2
  refine Calls.mono (Oa (R:=f0) a0 X b5 c9 oM b7 hR (λs pre vs A l f3 h hN=>(hy s pre vs A l f3 h hN).mono ?_) f1 f2) ?_
  ·rintro b A' (d|⟨-,x,d,-⟩)
   ·exact d
   ·exact d.elim
  ·rintro _ A' ⟨z,rfl,f4,s,g,a8,hT⟩
   exact⟨⟨z,rfl⟩,.inl ⟨f4,s,g,a8,hT⟩⟩
 ·rintro s g A l ⟨L',f5,f6⟩ hm
  obtain⟨I,R,J,u,h5,j,y,M,G,e,m,i,f,o,h9⟩:=l;obtain rfl:=p_.unique o f5;have a9:(e.filter Pr).Perm (S.l.filter Pr):=f6.filter _;refine⟨_,_,_,ae m rfl,PC.ok (GV i (by rw[a9.length_eq];exact Xx (List.length_filter_le ..) hl)) ?_⟩;rintro _ i3 ⟨rfl,l',L,b0,b1,b2⟩;have b3:=i.self;have a6:¬aI j=some k.heap.size:=λc=>by have:=(f _ (b3 _ c)).1;omega
  have f7:¬aI j=some w9.heap.size:=λc=>by have:=(f _ (b3 _ c)).1;omega
  refine⟨rfl,_,_,_,ae (b2.get m a6) rfl,b2.get hm f7,λi4 ⟨c5,i5⟩=>Ok.mk ?_⟩;have c6:=List.filter_sublist (p:=Pr) (l:=S.l);obtain rfl:l'=S.l.filter Pr:=Jk b0 (X.Hi.sublist c6) (L.trans a9) (((L.trans a9).map aR).nodup_iff.2 (X.ids.sublist (c6.map _)));refine⟨j,y,M,G,rfl,b1.af c5 λb P c=>by have:=(f b P).1;omega,?_,λb P=>by have:=(f b P).1;omega⟩;exact((Z.new I λb P=>.inr oM).new b2 λb P=>.inr (by have:=(f b (b3 b P)).1;omega)).new c5 λb P=>.inr oM
end
end Go.Proofs.YtkpomgifkloklacGreatDoor
namespace Go.aw
variable{u:List Int}{a:Nat}{f:XN}{d:ZH}{j:Type}{g:TypeId}{b:World}
def Row.rH{D:XN}(P:Row aQ 8 b D d a u):Ints b d a u:=by
 have n:=P.len;refine⟨n,P.dK,λh o=>?_,λi h c=>?_⟩
 ·obtain⟨i,c,rfl⟩:=List.getElem_of_mem o
  obtain⟨j,k,p,g,e,l,m⟩:=P.mI (i:=i) oM;rw[Qq c]at e;rw[XJ e];exact l
 ·have r:=(Qv.1 c).1
  obtain⟨j,k,s,g,q,t,v,w⟩:=P.el i h c;obtain⟨x,y,p,f,e,l,m⟩:=P.mI (i:=i) oM;rw[c]at e;rw[g]at f;cases f
  exact⟨j,k,g,q,by rw[m,XJ e]⟩
def Own.take{c:World}{d:TypeId}{k:Nat}{e:ZH}{a f m:Nat}{cs:List Value}(g:Own c d k e a f cs)(h:m<=a):Own c d k e m f (cs.take (m*k)):=by
 have i:=g.length;have j:m*k<=a*k:=Q0 _ h;refine⟨⟨by rw[Qy,i];omega,?_⟩⟩;rcases g.row.2 with⟨P,rfl⟩|⟨l,n,b,P,o,p,t,q,r,s⟩
 ·obtain rfl:m=0:=oM
  exact .inl ⟨P,rfl⟩
 ·simp only[XX]at P
  refine .inr ⟨l,n,b,by rw[P.1,P.2.2],o,p,oM,q,r,?_⟩;rw[<-s,List.take_take,X2 j]
def aU.take{c:jB j}{e P m:Nat}{h:List j}(a:aU c g f b d e P h)(i:m<=e):aU c g f b d m P (h.take m):=by
 obtain⟨cs,D,k,l,n⟩:=a.body;exact⟨⟨_,D,k.take i,l.take m,n⟩,a.self,a.aF⟩
end Go.aw
namespace Go.Proofs.YtkpomgifkloklacGreatDoor
section
open Go.aw
variable{e:Int}{u:List Int}{a c:Nat}{d:ZH}
section
variable {w w' w1:World} {p:Nat} {F T:XN} {S:ar} {q:NZ}
def sU(d:cC w p F S)(P:S.l.length<=20000000):ZG 32 #[XL p] w (Ok (qw iX 59 w S.l)):=by
 refine uU (PC.ok (Ag d P (Pr:=λ_=>true) kR λh a b c D w1 i j k l=>?_) ?_)
 ·exact rO (PA.mk λm e n o=>Ok.mk ⟨rfl,e⟩)
 ·rintro _ q ⟨a,b,c,G,rfl,P,f,g⟩
  rw[List.filter_eq_self.2 sM]at P;exact⟨_,_,_,rfl,Ok.mk ⟨a,b,c,G,rfl,P,f,g⟩⟩
def wA(q:cC w p F S)(r:S.l.length<=20000000){D:XN}(s:Row aQ 8 w D d a u):
  ZG 77 #[XL p,.slice d a c,XH e] w (Ok (qw iX 59 w (S.missing u e))):=by
 refine oP (PA.mk λw1 h E t=>PC.ok (Ag (q.ah h) r (Pr:=λP=>decide (max 0 (cP u P.origin)<P.seq)) kR λP k f l H I v J K L=>?_) ?_)
 ·refine mR (PA.mk λm n M g=>λx y=>⟨no,id,?_⟩)
  have i:ai m x:=y.af;have g:=i.get g id;have o:=v.then (n.then i);refine⟨_,ae g rfl,_,_,_,ae (o.get t id) rfl,_,ae g rfl,PC.ok (mM (s.rH.ah (h.then o))) ?_⟩;rintro _ _ ⟨rfl,rfl⟩;refine⟨_,rfl,ak.refl _,Ok.mk ⟨?_,n.then i⟩⟩
  congr 1
  rw[decide_eq_decide];split<;>omega
 ·rintro _ m ⟨k,f,l,G,rfl,b,z,A⟩
  have N:=b.len dC;have O:=b.lb;have j:(if e>0 then e else 0)=max 0 e:=by split<;>omega
  refine⟨_,_,_,rfl,?_⟩;refine⟨by rw[j];split<;>omega,by rw[j];split<;>omega,Ok.mk ⟨k,_,l,G,rfl,?_,h.then z,λB C=>by have:=A B C;omega⟩⟩;rw[j];have:=b.take (m:=Int.toNat (if max 0 e<(f:Int)then max 0 e else(f:Int))) (by split<;>omega);unfold ar.missing;have P:(List.filter (λP=>decide (max 0 (cP u P.origin)<P.seq)) S.l).take (Int.toNat (if max 0 e<(f:Int)then max 0 e else(f:Int)))=(List.filter (λP=>decide (max 0 (cP u P.origin)<P.seq)) S.l).take (max 0 e).toNat:=by
   split
   ·rfl
   ·rw[Qz oM,Qz oM]
  rw[<-P];exact this
def wD{a:Type}(p:a->Bool):∀P:List a,P.find? p=(P.filter p).head?
 |[]=>rfl
 |x::P=>by
  rw[List.find?_cons,List.filter_cons]
  cases p x
  ·exact wD p P
  ·rfl
def LN(C:cC w p F S)(q:S.l.length<=20000000){key:Int}:
  ZG 60 #[XL p,XH key] w (Ok λE w'=>∃r s H G,E= .tuple #[jk ((S.keyed key).getD qz) r s H,.bool (S.keyed key).isSome]/\Row aQ 8 w' G r s ((S.keyed key).getD qz).aN/\(∀P,G P->w.heap.size<=P/\P<w'.heap.size)/\ai w w'):=by
 refine rQ (PA.mk λw1 m Z t=>PA.mk λw2 j s2 I=>PC.ok (Ag ((C.ah m).ah j) q (Pr:=λa=>key !=0&&a.key==key) kR λa J K L D' M N hr u hm=>?_) ?_)
 ·refine oQ (PA.mk λv d x f=>?_)
  have y:=(j.then N).then d;refine⟨_,ae (y.get t id) rfl,an.dX (λO=>⟨_,ae f rfl,_,ae (y.get t id) rfl,Ok.mk ⟨?_,d⟩⟩) (λu=>Ok.mk ⟨?_,d⟩)⟩
  ·rw[show(key !=0)=true by simpa using O];rfl
  ·rw[u];rfl
 ·rintro _ M ⟨J,K,L,G,rfl,b,n,z⟩
  have k:=b.len dC;have A:=n.get I id;have B:S.keyed key=(S.l.filter λa=>key !=0&&a.key==key).head? :=wD _ _;refine⟨_,_,_,rfl,an.eG (λQ=>?_) (λQ=>?_)⟩
  ·have:(S.l.filter λa=>key !=0&&a.key==key)=[]:=QW oM
   rw[B,this];refine aB (aX qz none 0 0) A rfl λv d x f=>au (aX qz none 0 0) f (Ok.mk ⟨none,0,0,λ_=>False,rfl,Row.nil _ _,λP c=>c.elim,((m.then j).then n).new d λP c=>.inr oM⟩)
  ·cases l:S.l.filter λa=>key !=0&&a.key==key with
   |nil=>rw[l]at k;simp at k;omega
   |cons e R=>
    rw[l]at b k;have a0:(e::R).length<=20000000:=by rw[<-l];exact Xx (List.length_filter_le ..) q
    have T:=b.row (bytes:=96) dC ba;obtain⟨P,U,es,V,c,a1,W,g,h,i,rfl,X,a3⟩:=T.el 0 e rfl
    with_reducible (conv=>whnf)
    rw[B,l];refine⟨P,U,V,oM,by simp at k;omega,?_⟩;refine bq (es:=aD e g h i) (k:=10) (aX e g h i) rfl (λY o=>?_) (aB (aX e g h i) A rfl λv d x f=>au (aX e g h i) f (Ok.mk ⟨g,h,i,G,rfl,?_,?_,?_⟩))
    ·have:=W Y o
     simpa using this
    ·exact X.af d λP c a=>by have:=z P c;omega
    ·intro P c;have:=z P c;have:=b.aF P c;omega
    ·exact((m.then j).then n).new d λP c=>.inr oM
end
end
section
open Go.aw
variable{e q:Int}{u:List Int}{a c:Nat}{d:ZH}{j:Type}
def QI(b:a+c<4611686018427387904):XG .i64 (iY .u64 (XG .u64 (XG .i64 ((a:Int)+(c:Int)))) 1)=(((a+c)/2:Nat):Int):=by
 rw[wrap_i64 (x:=(a:Int)+c) bb];have P:XG .u64 ((a:Int)+(c:Int))=((a+c:Nat):Int):=by
  unfold XG;simp[IntKind.signed,IntKind.bits];omega
 rw[P,show(1:Int)=((1:Nat):Int)from rfl,KA dC,wrap_i64 bb]
def posOf{P:Type}(a:P->Bool)(b:List P):Nat:=(b.takeWhile a).length
def xU(P:j->Bool)(a:List j):posOf P a<=a.length:=(List.takeWhile_sublist P).length_le
def xV{d:Type}{p:d->Bool}:∀{l:List d} {i:Nat},i<=l.length->(∀P x,P<i->l[P]? =some x->p x=true)->(∀x,l[i]? =some x->p x=false)->posOf p l=i
 |[],i,a,_,_=>by simp at a;subst a;rfl
 |x::l,0,_,_,f=>by
  have:=f x rfl;simp[posOf,this]
 |x::l,i+1,a,e,g=>by
  have h:=e 0 x oM rfl;have:=xV (p:=p) (l:=l) (i:=i) (by simpa using a) (λP b j c=>e (P+1) b oM (by simpa using c)) (λb c=>g b (by simpa using c));unfold posOf at this⊢;rw[List.takeWhile_cons,h];simp[this]
section
variable {w w':World} {D:XN}
def QL{w:World}:ZG 272 #[XH e] w (Ok λP w'=>P= .bool false/\w=w'):=rD (Ok.mk ⟨sM,rfl⟩)
def Mn{w:World}:ZG 271 #[XH e,XH q] w (Ok λP w'=>P= .bool (decide (e<q))/\w=w'):=by
 refine xW (PC.ok isNaN ?_);rintro _ _ ⟨rfl,rfl⟩;exact⟨_,rfl,an.ff rfl (Ok.mk ⟨rfl,rfl⟩)⟩
abbrev uL(P:List Int):Prop:=P.Pairwise (·<·)
def rE(s:Row aQ 8 w D d a u)(F:uL u):
  ZG 232 #[.slice d a c,XH e] w (Ok λH w'=>H= .tuple #[XH (posOf (λP=>decide (P<e)) u:Nat),.bool (decide (e∈u))]/\w=w'):=by
 have N:=s.len;have I:=s.dK;unfold aT at I;have z:∀{i k:Nat} {P m:Int},u[i]? =some P->u[k]? =some m->i<=k->P<=m:=λ{i k P m} g n O=>by
  obtain⟨o,rfl⟩:=Qv.1 g;obtain⟨p,rfl⟩:=Qv.1 n;rcases Nat.lt_or_ge i k with h|h
  ·exact Int.le_of_lt (List.pairwise_iff_getElem.1 F i k o p h)
  ·obtain rfl:i=k:=oM
   exact Int.le_refl _
 refine ij ⟨λE i k w'=>∃b j:Nat,i=b/\k=j/\E=j-b/\b<=j/\j<=a/\(∀f P,f<b->u[f]? =some P->P<e)/\(∀f P,j<=f->u[f]? =some P->e<=P)/\w=w',
  ⟨_,0,a,rfl,rfl,rfl,oM,oM,λf P l=>oM,λf P l g=>by have:=(Qv.1 g).1;omega,rfl⟩,?_⟩
 rintro E _ _ _ _ ⟨b,j,rfl,rfl,rfl,Q,J,o,p,rfl⟩;refine an.dec (λR=>?_) (λS=>?_)
 ·rw[QI oM]
  obtain⟨t,v,P,x,g,-,y⟩:=s.mI (i:=(b+j)/2) oM;refine⟨t,v,x,oM,oM,P,by rw[Qx];exact y,PC.ok Mn ?_⟩;rintro _ _ ⟨rfl,rfl⟩;refine⟨_,rfl,an.dec (λK=>⟨_,?_,(b+j)/2+1,j,aq oM,rfl,rfl,oM,J,λf m l n=>?_,p,rfl⟩) (λK=>⟨_,?_,b,(b+j)/2,rfl,rfl,rfl,oM,oM,o,λf m l n=>?_,rfl⟩)⟩
  ·omega
  ·have:=z n g oM;omega
  ·omega
  ·have:=z g n l;omega
 ·obtain rfl:b=j:=oM
  have L:posOf (λP=>decide (P<e)) u=b:=xV oM (λf P l g=>by simpa using o f P l g) (λP g=>by have:=p b P (Q4 _) g;simp;omega);rw[L];have A:e∈u↔u[b]? =some e:=by
   constructor
   ·intro q
    obtain⟨f,l,rfl⟩:=List.getElem_of_mem q;have r:u[f]? =some u[f]:=Qq l;rcases Nat.lt_or_ge f b with h|h
    ·have:=o f _ h r;omega
    ·have B:b<u.length:=oM
     have T:=p b _ (Q4 _) (Qq B);have U:=z (Qq B) r h;rw[Qq B];congr 1;omega
   ·exact QZ
  refine an.dec (λM=>?_) (λM=>?_)
  ·obtain⟨t,v,P,x,g,-,y⟩:=s.mI (i:=b) oM
   refine⟨t,v,x,oM,oM,P,y,an.eG (λC=>Ok.mk ⟨?_,rfl⟩) (λC=>⟨t,v,x,oM,oM,P,y,PC.ok QL ?_⟩)⟩
   ·rw[Zy (A.2 (C▸g))]
   ·rintro _ _ ⟨rfl,rfl⟩
    refine⟨_,rfl,an.ff rfl (Ok.mk ⟨?_,rfl⟩)⟩;rw[Xv];intro q;have:=A.1 q;rw[g]at this;exact C (XJ this)
  ·refine Ok.mk ⟨?_,rfl⟩
   rw[Xv];intro q;have:=(Qv.1 (A.1 q)).1;omega
end
def ED{a:Int}:∀{P:List Int},uL P->a∉P->oF a P=P.take (posOf (λy=>decide (y<a)) P)++a::P.drop (posOf (λy=>decide (y<a)) P)
 |[],_,_=>rfl
 |y::P,d,b=>by
  obtain⟨f,e⟩:=List.pairwise_cons.1 d;simp only[Q2,not_or]at b;unfold oF posOf
  by_cases c:a<y
  ·rw[Zx c,List.takeWhile_cons,Xv oM];rfl
  ·rw[Zq c,Zq b.1,List.takeWhile_cons,Zy (show y<a by omega),ED e b.2];rfl
def sS{b:Int}:∀{P:List Int},b∈P->uL P->oF b P=P
 |y::P,a,c=>by
  obtain⟨d,e⟩:=List.pairwise_cons.1 c;unfold oF;rcases Q2.1 a with rfl|a
  ·rw[Zq oM,Zx rfl]
  ·have:=d b a
   rw[Zq oM,Zq oM,sS a e]
def EE{b P:Int}:∀{a:List Int},P∈oF b a↔P=b\/P∈a
 |[]=>by simp[oF]
 |y::a=>by
  unfold oF;split
  ·simp
  ·split
   ·rename_i h;subst h;simp
   ·simp only[Q2,EE]
    constructor
    ·rintro(h|h|h)<;>simp[h]
    ·rintro(h|h|h)<;>simp[h]
def Bs{e:Int}:∀{a:List Int},uL a->uL (oF e a)
 |[],_=>List.pairwise_singleton ..
 |y::a,b=>by
  obtain⟨d,f⟩:=List.pairwise_cons.1 b;unfold oF;split
  ·rename_i g
   exact List.pairwise_cons.2 ⟨λc P=>by
    rcases Q2.1 P with rfl|P
    ·exact g
    ·have:=d c P;omega,b⟩
  ·split
   ·exact b
   ·refine List.pairwise_cons.2 ⟨λc P=>?_,Bs f⟩
    rcases EE.1 P with rfl|P
    ·omega
    ·exact d c P
def Jw{a:Int}:∀{P:List Int},uL P->a∈P->(P.filter λy=>y !=a)=P.eraseIdx (posOf (λy=>decide (y<a)) P)/\posOf (λy=>decide (y<a)) P<P.length
 |y::P,f,c=>by
  obtain⟨e,g⟩:=List.pairwise_cons.1 f;rcases Q2.1 c with rfl|c
  ·have d:posOf (λy=>decide (y<a)) (a::P)=0:=by simp[posOf]
   rw[d];refine⟨?_,sM⟩;rw[List.filter_cons_of_neg sM,List.eraseIdx_zero,List.tail_cons];refine List.filter_eq_self.2 λb h=>?_;have:=e b h;simp;omega
  ·have i:=e a c
   obtain⟨j,k⟩:=Jw g c;have d:posOf (λb=>decide (b<a)) (y::P)=posOf (λb=>decide (b<a)) P+1:=by simp[posOf,i]
   rw[d,List.filter_cons_of_pos bc,List.eraseIdx_cons_succ,j];exact⟨rfl,by simp;exact k⟩
def EF(P:e∉u):(u.filter λa=>a !=e)=u:=List.filter_eq_self.2 λc b=>by
 simp only[bne_iff_ne,ne_eq];rintro rfl;exact P b
end
end Go.Proofs.YtkpomgifkloklacGreatDoor
namespace Go.aw
open Go
variable{z:XT}{K a c c6 e4 i p:Nat}{f:XN}{Q W:Operand}{d r:ZH}{j:Type}{g o:TypeId}{m s:XR}{b:World}{x:XU}
def yd{l:Program}{i bytes:Nat}{f:j->List Value}{n:j->Prop}{hl hone}(r:iI l g o i bytes)(H:0<bytes){k:List j}{D:XN}(h:Row (flat i f n hl hone) bytes b D d a k)(t:∀P,D P->P<b.heap.size)(u:∀v w,qw (flat i f n hl hone) o b k v w->z (.returned v) w):
  aH l (do eqGuard .eql g Q W (.slice d a c) (.slice none 0 0);binOp .eql g (.slice d a c) (.slice none 0 0)) b (λI p=>∃(x:Bool),I= .bool x/\an x (z (.returned (.slice none 0 0)) p) (PA p (.cells #[] o) λJ=>
   aH l (Builtin.append_ #[g,g] g #[.slice (XM p.heap.size) 0 0,.slice d a c]) J (λK L=>∃(y:ZH) (A:Nat) (B:Nat),K= .slice y A B/\z (.returned (.slice y A B)) L) m)) s:=by
 have C:=h.len;have e:=h.dK;refine jt r.under ⟨_,rfl,an.mk (λq=>?_) (λq=>PA.mk λM E a0 N=>?_)⟩
 ·have:k=[]:=by
   cases d with
   |none=>
    cases k with
    |nil=>rfl
    |cons Q a1=>obtain⟨P,O,es,R,_⟩:=h.el 0 Q rfl;cases R
   |some S=>cases q
  subst this;exact u _ _ ⟨none,0,0,λ_=>False,rfl,aU.nil b,ak.refl _,λ_ h=>h.elim⟩
 ·cases d with
  |none=>cases q
  |some S=>
   have T:aU (flat i f n hl hone) o (·=b.heap.size) M (XM b.heap.size) 0 0 []:=
    ⟨⟨[],λ_=>False,Own.xR (cur:= #[]) N sM (Qj _),rfl,λ_ h=>h.elim⟩,λP e=>by simpa[aI]using e.symm,λP e=>oM⟩
   have U:a<=maxLen:=by
    unfold aT at e;unfold maxLen;have:a*1<=a*bytes:=Nat.mul_le_mul_left _ H;omega
   refine jQ T r (D:=D) (h.ah E) (λP e=>⟨by have:=t P e;omega,by have:=t P e;simp only[aI];intro o;cases o;omega⟩) (by rw[ZQ,Xz,<-C];exact e) (by rw[ZQ,Xz,<-C];exact U) λF V w2 F' X Y _ Z=>?_;refine⟨_,_,_,rfl,u _ _ ⟨F,_,V,λP=>aI F=some P,rfl,by have h:=X.alone;rw[List.nil_append]at h;exact h,E.new Y λP e=>.inr ?_,λP e=>?_⟩⟩
   ·simp only[aI,Q1]at e;omega
   ·rcases Z P e with h|h<;>omega
structure Bx (α:Type) where
 x:α
 a:ZH
 n:Nat
 c:Nat
structure ez (α β:Type) where
 k:Nat
 ci:jB β
 ib:Nat
 inner:α->List β
 hd:α->ZH->Nat->Nat->List Value
 ok:α->Prop
 hl:∀x a n c,(hd x a n c).length=k
 h1:∀x a n c,∀u∈hd x a n c,u.oneCell'=true
 o:Nat
 ho:o<k
 fm:∀x a n c a' n' c',(hd x a n c).set o (.slice a' n' c')=hd x a' n' c'
section
variable {α β:Type} (N:ez α β)
def ez.ju:jB (Bx α):=flat N.k (λP=>N.hd P.x P.a P.n P.c) (λ_=>True) (λP=>N.hl ..) (λP=>N.h1 P.x P.a P.n P.c)
def ez.KF:jB α where
 k:=N.k
 rep:=λi D d cs=>∃P a b,cs=N.hd d P a b/\Row N.ci N.ib i D P a (N.inner d)/\N.ok d
 af:=λ⟨P,a,b,c,e,f⟩ j g=>⟨P,a,b,c,e.af j g,f⟩
 mono:=λ⟨P,a,b,c,e,f⟩ g=>⟨P,a,b,c,e.mono g,f⟩
 len:=λ⟨P,a,b,c,_,_⟩=>by rw[c];exact N.hl ..
 one:=λ⟨P,a,b,c,_,_⟩ k h=>by rw[c]at h;exact N.h1 _ _ _ _ k h
variable {N} {w w':World} {D:XN}
def ez.In(N:ez α β)(w:World)(D:XN)(P:Bx α):Prop:=Row N.ci N.ib w D P.a P.n (N.inner P.x)/\N.ok P.x
def ez.In.af{S:XN}{P:Bx α}(a:N.In w D P)(b:ak S w w')(c:∀P,D P->¬S P):N.In w' D P:=⟨a.1.af b c,a.2⟩
def ez.In.mono{P:Bx α}(a:N.In w D P)(b:∀P,D P->f P):N.In w f P:=⟨a.1.mono b,a.2⟩
def ez.bB:∀{a:List α} {cs:List Value},bK N.KF w D a cs->∃P:List (Bx α),P.map (·.x)=a/\bK N.ju w D P cs/\∀b∈P,N.In w D b
 |[],_,d=>⟨[],rfl,d,sM⟩
 |x::a,_,⟨e,f,g,⟨h,i,j,k,l,m⟩,n⟩=>by
  obtain⟨P,o,p,q⟩:=ez.bB n;refine⟨⟨x,h,i,j⟩::P,by simp[o],⟨e,f,g,⟨k,trivial⟩,p⟩,λb c=>?_⟩;rcases Q2.1 c with rfl|c
  ·exact⟨l,m⟩
  ·exact q b c
def ez.ND{c:XN}:∀{P:List (Bx α)} {cs:List Value},bK N.ju w c P cs->(∀b∈P,N.In w D b)->bK N.KF w D (P.map (·.x)) cs
 |[],_,d,_=>d
 |b::P,_,⟨e,f,g,⟨h,_⟩,i⟩,a=>⟨e,f,g,⟨b.a,b.n,b.c,h,a b (QV ..)⟩,ez.ND i λj k=>a j (QJ _ k)⟩
def ez.boxes{bytes:Nat}{c:List α}(e:Row N.KF bytes w D d a c):∃P:List (Bx α),P.map (·.x)=c/\Row N.ju bytes w D d a P/\∀i∈P,N.In w D i:=by
 obtain⟨cs,n,o⟩:=e.bB;obtain⟨P,j,p,q⟩:=ez.bB n;have f:P.length=c.length:=by rw[<-j];simp
 have r:0<N.KF.k:=Nat.lt_of_le_of_lt (Qj _) N.ho;refine⟨P,j,⟨by rw[f];exact e.len,e.dK,λB i g=>?_⟩,q⟩;have s:c≠[]:=by rintro rfl;rw[ZQ]at f;rw[QW f]at g;simp at g
 obtain⟨t,h,u,v,x,y⟩:=o s r;obtain⟨k,z,l⟩:=p.at g;refine⟨t,h,k,u,v,x,λm A=>?_,l⟩;have C:=N.ju.len l;have b:=z m A;rw[Qq (show m<k.length by omega)]at b⊢;rw[Nat.add_assoc];exact y _ _ b
def ez.unbox{e:List (Bx α)}(j:aU N.ju g f w d a c e)(b:∀P∈e,N.In w D P)(h:∀P,D P->P<w.heap.size/\aI d≠some P):aU N.KF g (λP=>aI d=some P\/D P) w d a c (e.map (·.x)):=by
 obtain⟨cs,l,i,k,m⟩:=j.body;refine⟨⟨cs,D,i,ez.ND k b,λP b=>⟨.inr b,(h P b).2⟩⟩,λP b=>.inl b,λP b=>?_⟩;rcases b with b|b
 ·exact i.lt b
 ·exact(h P b).1
def ez.set{b:List (Bx α)}(h:aU N.ju g f w d a c b){P:Bx α}(k:b[i]? =some P)(l:d=some ⟨c6,e4,none⟩)(e:∀j,aU N.ju g f j d a c (b.set i ⟨P.x,r,p,K⟩)->ak (λP=>aI d=some P) w j->j.heap.size=w.heap.size->x j):PS w ⟨c6,e4+i*N.k+N.o,none⟩ (.slice r p K) x:=
 aU.set (x':=⟨P.x,r,p,K⟩) h k N.ho (N.fm ..).symm l e
end
end Go.aw
namespace Go.Proofs.YtkpomgifkloklacGreatDoor
open Go.aw
def jq.Ok(P:jq):Prop:=aP P.bE/\aP P.lf/\aP P.ko/\aP P.least
def mJ(P:jq):List Value:=[XH P.bE,XH P.lf,XH P.ko,XH P.least]
def fy:jB jq:=flat 4 mJ jq.Ok (λ_=>rfl) (λa b P=>by simp[mJ]at P;rcases P with rfl|rfl|rfl|rfl<;>rfl)
def dv(P:bg)(a:ZH)(b c:Nat):List Value:=[XH P.kind,XH P.dE,.bool P.floor,.slice a b c]
def nV:jB bg where
 k:=4
 rep:=λi D d cs=>∃P a b,cs=dv d P a b/\Row fy 32 i D P a d.bl/\aP d.kind/\aP d.dE
 af:=λ⟨P,a,b,c,e,f⟩ j g=>⟨P,a,b,c,e.af j g,f⟩
 mono:=λ⟨P,a,b,c,e,f⟩ g=>⟨P,a,b,c,e.mono g,f⟩
 len:=λ⟨P,a,b,c,_,_⟩=>by rw[c];rfl
 one:=λ⟨P,a,b,c,_,_⟩ k h=>by
  rw[c]at h;simp[dv]at h;rcases h with rfl|rfl|rfl|rfl<;>rfl
def jG:jB (List bg) where
 k:=1
 rep:=λg D h cs=>∃P a b,cs=[.slice P a b]/\Row nV 48 g D P a h
 af:=λ⟨P,a,b,c,d⟩ i e=>⟨P,a,b,c,d.af i e⟩
 mono:=λ⟨P,a,b,c,d⟩ e=>⟨P,a,b,c,d.mono e⟩
 len:=λ⟨P,a,b,c,_⟩=>by rw[c];rfl
 one:=λ⟨P,a,b,c,_⟩ j f=>by rw[c]at f;simp at f;subst f;rfl
def iH.Ok(P:iH):Prop:=aP P.aW/\aP P.field/\aP P.group/\aP P.Cq/\aP P.make
def mG(P:iH):List Value:=[XH P.aW,XH P.field,XH P.group,XH P.Cq,XH P.make]
def tP:jB iH:=flat 5 mG iH.Ok (λ_=>rfl) (λa b P=>by simp[mG]at P;rcases P with rfl|rfl|rfl|rfl|rfl<;>rfl)
def Im:iI XP 102 106 4 32:=⟨kR,kR,dC⟩
def MK:iI XP 107 104 4 48:=⟨kR,kR,dC⟩
def Ju:iI XP 22 111 1 24:=⟨kR,kR,dC⟩
def HY:iI XP 23 109 5 40:=⟨kR,kR,dC⟩
def Hu(P:jq):iJ XP 106 (mJ P)=true:=kR
def eL(P:bg)(a:ZH)(b c:Nat):iJ XP 104 (dv P a b c)=true:=kR
def Gs(P:bg)(a:ZH)(b c:Nat):Ph (fz XP 104) (.agg (dv P a b c).toArray)=true:=kR
def oy(P:iH):iJ XP 109 (mG P)=true:=kR
def SM:bg:=⟨0,0,false,[]⟩
structure aZ (w:World) (D:XN) (d:aM) (ta:ZH) (tn:Nat) (pa:ZH) (pn:Nat):Prop where
 aW:Row jG 24 w D ta tn d.types
 xM:Row tP 40 w D pa pn d.projs
variable{n:Array Value}{y:FuncId}{R e q:Int}{g0:List jq}{a c:Nat}{b3:bg}
section
variable {w w':World} {D D' S:XN} {d:aM} {ta pa:ZH} {tn tc pn pc:Nat}
def aZ.af(P:aZ w D d ta tn pa pn)(a:ak S w w')(b:∀c,D c->¬S c):aZ w' D d ta tn pa pn:=⟨P.aW.af a b,P.xM.af a b⟩
def aZ.ah(P:aZ w D d ta tn pa pn)(a:ai w w'):aZ w' D d ta tn pa pn:=P.af a λ_ _ P=>P
def aZ.mono(P:aZ w D d ta tn pa pn)(a:∀b,D b->D' b):aZ w D' d ta tn pa pn:=⟨P.aW.mono a,P.xM.mono a⟩
structure eu (w:World):Prop where
 kinds:∀i,i<6->w.cell? ⟨1,i,none⟩=some (XH (pk i))
 SN:∀i,i<5->w.cell? ⟨0,i,none⟩=some (XH (([0,2,14,6,6]:List Int).getD i 0))
 lt:1<w.heap.size/\0<w.heap.size
def eu.ah(P:eu w)(b:ai w w'):eu w':=
 ⟨λa c=>(b.cell (a:=⟨1,a,none⟩) P.lt.1 id).trans (P.kinds a c),λa c=>(b.cell (a:=⟨0,a,none⟩) P.lt.2 id).trans (P.SN a c),
  Qk P.lt.1 b.size,Qk P.lt.2 b.size⟩
def bu:within e q R=true↔q<=e/\e<=R:=by simp[within]
def bY:ZG 84 #[XH e,XH q,XH R] w (Ok λP w'=>P= .bool (within e q R)/\w=w'):=by
 refine wU (an.dec (λa=>Ok.mk ⟨?_,rfl⟩) (λa=>Ok.mk ⟨?_,rfl⟩))
 ·simp[within];omega
 ·simp[within];omega
def rz{d:ZH}(h:Row fy 32 w D d a g0)(f:∀P,D P->P<w.heap.size):
  ZG 89 #[.slice d a c] w (Ok (qw fy 106 w g0)):=by
 have v:=h.len;have b:=h.dK;refine gH (jt Im.under ⟨_,rfl,an.mk (λe=>?_) (λe=>PA.mk λj g x k=>?_)⟩)
 ·have:g0=[]:=by
   cases d with
   |none=>
    cases g0 with
    |nil=>rfl
    |cons l y=>obtain⟨P,m,z,n,_⟩:=h.el 0 l rfl;cases n
   |some o=>cases e
  subst this;exact Ok.mk ⟨none,0,0,λ_=>False,rfl,aU.nil w,ak.refl _,λ_ h=>h.elim⟩
 ·cases d with
  |none=>cases e
  |some o=>
   have p:aU fy 106 (·=w.heap.size) j (XM w.heap.size) 0 0 []:=
    ⟨⟨[],λ_=>False,Own.xR (cur:= #[]) k rfl (Qj _),rfl,λ_ h=>h.elim⟩,λP b=>by simpa[aI]using b.symm,λP b=>oM⟩
   refine jQ p Im (D:=D) (h.ah g) (λP b=>⟨by have:=f P b;omega,by have:=f P b;simp only[aI];intro q;cases q;omega⟩) bc (by unfold aT at b;unfold maxLen;simp;omega) λi r A B s t _ u=>?_;refine⟨_,_,_,rfl,Ok.mk ⟨i,_,r,λP=>aI i=some P,rfl,by have h:=s.alone;rw[List.nil_append]at h;exact h,g.new t λP b=>.inr ?_,λP b=>?_⟩⟩
   ·simp only[aI,Q1]at b;omega
   ·rcases u P b with h|h<;>omega
def GK{p:jq->Bool}{o:ZH}(i:Row fy 32 w D o a g0)(t:enters XP y=true)(u:∀d e,ai w e->ZG y (#[]++ #[.agg (mJ d).toArray]++n) e (Ok λf q=>f= .bool (p d)/\ai e q)):
  ZG 88 #[.slice o a c,.func (.func y) #[] n] w (Ok λf w'=>f= .bool (g0.any p)/\ai w w'):=by
 have E:=i.len;have v:=i.dK;unfold aT at v;refine eY (PC.ok (φ:=λf w'=>(∃b:Int,f= XH b/\(0<=b↔g0.any p=true))/\ai w w') (fA ⟨λd b w'=>∃P:Nat,b=P/\P<=a/\d=a-P/\(g0.take P).any p=false/\ai w w',
  ⟨_,0,rfl,Qj _,rfl,sM,ak.refl _⟩,?_⟩) ?_)
 ·rintro d b _ e ⟨P,rfl,F,rfl,j,g⟩
  refine an.dec (λx=>?_) (λx=>?_)
  ·obtain⟨z,k,l,H,rfl,_,_,r,A,rfl,_⟩:=(i.ah g).uH (i:=P) oM
   refine⟨z,k,rfl,oM,oM,bq (Hu l) rfl A ⟨y,_,_,rfl,t,PC.ok (u l e g) ?_⟩⟩;rintro _ q ⟨rfl,s⟩;refine⟨_,rfl,an.mk (λm=>?_) (λm=>?_)⟩
   ·exact Ok.mk ⟨⟨_,rfl,λ_=>List.any_eq_true.2 ⟨l,QZ r,m⟩,λ_=>oM⟩,g.then s⟩
   ·refine⟨_,oM,P+1,aq oM,oM,rfl,?_,g.then s⟩
    rw[Qw,r,List.any_append,j];simp[m]
  ·rw[Qz oM]at j
   exact Ok.mk ⟨⟨_,rfl,λh=>oM,λh=>by rw[j]at h;cases h⟩,g⟩
 ·rintro _ w' ⟨⟨b,rfl,B⟩,C⟩
  exact⟨_,rfl,Ok.mk ⟨by cases h:g0.any p<;>simp[h]at B⊢<;>omega,C⟩⟩
def aM.o_(P:d.Ar e q=some b3):0<=e/\e<d.types.length/\∃a,d.types[e.toNat]? =some a/\d.at e=a/\0<=q/\q<a.length/\a[q.toNat]? =some b3:=by
 unfold aM.Ar at P;split at P
 ·rename_i b
  simp only[QK,bu]at b;have c:e.toNat<d.types.length:=oM
  have f:d.at e=d.types[e.toNat]:=by unfold aM.at;rw[Zx (bu.2 b.1)];simp[c]
  rw[f]at b P;exact⟨oM,oM,_,by simp[c],f,oM,oM,P⟩
 ·cases P
def nu(n:aZ w D d ta tn pa pn)(y:∀P,D P->P<w.heap.size):
  ZG 48 #[.agg #[.slice ta tn tc,.slice pa pn pc],XH e,XH q] w (Ok λz w'=>ai w w'/\match d.Ar e q with
   |none=>z= .tuple #[.agg (dv SM none 0 0).toArray,.bool false]
   |some c=>∃A B C E,z= .tuple #[.agg (dv c A B C).toArray,.bool true]/\aU fy 106 E w' A B C c.bl/\(∀P,E P->w.heap.size<=P)):=by
 have o:=n.aW.len;have a:=n.aW.dK;unfold aT at a;have b:within e 0 ((tn:Int)-1)=false->d.Ar e q=none:=λF=>by unfold aM.Ar;rw[o]at F;rw[Zq (by simp[F])]
 refine yq (PA.mk λw1 V s1 p=>PA.mk λw2 k s2 r=>⟨_,_,_,ae (k.get p id) rfl,PC.ok bY ?_⟩);rintro _ _ ⟨rfl,rfl⟩;rw[wrap_i64 bb];have f:=V.then k;refine⟨_,rfl,an.not (an.mk (λh=>?_) (λh=>?_))⟩
 rotate_left
 ·refine aB (cs:=dv SM none 0 0) (eL _ _ _ _) r rfl λH g I i=>au (eL _ _ _ _) i (Ok.mk ⟨f.new g λP a=>.inr oM,?_⟩)
  rw[b h]
 have W:=bu.1 h;refine⟨_,_,_,ae (k.get p id) rfl,?_⟩;obtain⟨P,j,X,es,rfl,a8,a9,Y,Z,b0,n1,c1,rfl,s⟩:=((n.ah f).aW).at (i:=e) oM oM;have J:=s.len;have a0:=s.dK;unfold aT at a0;have K:d.at e=X:=by
  unfold aM.at;rw[Zx (by rw[<-o];exact h),QQ,Y];rfl
 have t:=Z 0 dC;simp only[jG,Nat.mul_one,Nat.add_zero]at t;refine⟨P,j,rfl,oM,oM,_,_,_,t,PC.ok bY ?_⟩;rintro _ _ ⟨rfl,rfl⟩;rw[wrap_i64 bb];refine⟨_,rfl,an.not (an.mk (λl=>?_) (λl=>?_))⟩
 rotate_left
 ·refine aB (cs:=dv SM none 0 0) (eL _ _ _ _) r rfl λH g I i=>au (eL _ _ _ _) i (Ok.mk ⟨f.new g λP a=>.inr oM,?_⟩)
  rw[show d.Ar e q=none by unfold aM.Ar;rw[K,<-J,Zq (by simp[l])]]
 have a1:=bu.1 l;refine⟨_,_,_,ae (k.get p id) rfl,P,j,rfl,oM,oM,_,_,_,t,?_⟩;obtain⟨b2,a2,c,b1,rfl,b3,b4,a3,a4,L,M,N,rfl,hM,b5,b6⟩:=s.at (i:=q) oM oM;have a5:d.Ar e q=some c:=by unfold aM.Ar;rw[K,<-J,<-o,Zx (by simp[h,l])];exact a3
 refine⟨b2,a2,rfl,oM,oM,bq (eL c L M N) rfl a4 (PA.mk λH g I i=>aB (eL c L M N) i rfl λw4 u s4 O=>⟨_,_,_,ae O rfl,PC.ok (rz ((hM.ah g).af u λP a Q=>by have:=y P a;have:=f.size;omega) λP a=>by have:=y P a;have:=f.size;omega) ?_⟩)⟩;rintro _ w5 ⟨R,S,T,F5,rfl,a6,m,v⟩;have z5:=m.size;refine⟨_,_,_,rfl,PS.mk (m.get O id) (by simp[dv]) λw6 x s6 g6=>au (cs:=dv c R S T) (eL _ _ _ _) g6 (aB (eL _ _ _ _) (x.get (m.get (u.get (g.get r id) oM) id) oM) rfl λw7 U s7 g7=>au (eL _ _ _ _) g7 (Ok.mk ⟨?_,?_⟩))⟩
 ·have a7:ai w w6:=((((f.then g).new u λP a=>.inr oM).then m)).new x λP a=>.inr oM
  exact a7.new U λP a=>.inr oM
 ·rw[a5]
  exact⟨R,S,T,F5,rfl,(a6.af x λP a Q=>by have:=v P a;omega).af U λP a Q=>by have:=v P a;omega,λP a=>by have:=v P a;have:=f.size;omega⟩
end
variable{b9:Int}{K c6 i p:Nat}{c0 d r:ZH}{M l:aj}
section
variable {w w':World} {D E:XN}
def tH(h:Row aQ 8 w E r i M.aN):ZG 265 #[jk l d a c,jk M r i p] w (Ok λj w'=>j= .bool (yF l M)/\ai w w'):=by
 refine yy (PA.mk λq k s P=>PA.mk λm f t b=>λn o=>⟨no,?_⟩);have e:ai m n:=o.af;have P:=e.get (f.get P id) id;have b:=e.get b id;have g:=(k.then f).then e;refine⟨_,_,_,ae b rfl,_,ae P rfl,id,_,ae P rfl,PC.ok (mM (h.rH.ah g)) ?_⟩;rintro _ _ ⟨rfl,rfl⟩;exact⟨_,rfl,ak.refl _,Ok.mk ⟨rfl,g⟩⟩
def Fe(k:Row aQ 8 w D d a l.aN)(m:Row aQ 8 w E r i M.aN):ZG 219 #[jk l d a c,jk M r i p] w (Ok λn w'=>n= .bool (tI l M)/\ai w w'):=by
 refine AP (PA.mk λt o u P=>PA.mk λv j x f=>?_);have P:=j.get P id;have b:=o.then j;refine⟨_,_,ae P rfl,ae P rfl,_,_,ae f rfl,ae f rfl,Jt.neq ⟨_,rfl,?_⟩⟩;have q:(!(l.origin==M.origin&&l.seq==M.seq))=(aR l !=aR M):=rfl;rw[q];refine an.mk (λg=>au (aX l d a c) P (au (aX M r i p) f (PC.ok (tH (m.ah b)) ?_))) (λg=>Ok.mk ⟨by unfold tI;rw[g];rfl,b⟩);rintro _ y ⟨rfl,e⟩;refine⟨_,rfl,an.not (an.mk (λh=>Ok.mk ⟨by unfold tI;rw[g,h];rfl,b.then e⟩) (λh=>au (aX M r i p) (e.get f id) (au (aX l d a c) (e.get P id) (PC.ok (tH (k.ah (b.then e))) ?_))))⟩;rintro _ z ⟨rfl,s⟩;exact⟨_,rfl,Ok.mk ⟨by unfold tI;rw[g,h];rfl,(b.then e).then s⟩⟩
def kH:Hn XP 360 3:=⟨kR,kR,⟨ "op", "arg",kR,dC,dC⟩,kR,kR,kR⟩
abbrev Ul(P:bg)(a:ZH)(b c:Nat):Value:=.agg (dv P a b c).toArray
def vq:ZG 218 #[Ul b3 d a c,XH e,XH q,XH R,XH b9] w (Ok λx w'=>x= .bool (eh b3 (e,q) (R,b9))/\ai w w'):=by
 refine sd (PA.mk λN C T E=>PA.mk λO y U F=>PA.mk λV o W H=>PS.mk (o.get F id) sM λX p Y I=>PS.mk I sM λZ r s5 J=>PS.mk (r.get (p.get H oM) oM) sM λw6 s s6 K=>PS.mk K sM λt u s7 L=>?_);have Q:ai w t:=(((((C.then y).then o).new p λi z=>.inr oM).new r λi z=>.inr oM).new s λi z=>.inr oM).new u λi z=>.inr oM;have S:=u.get (s.get (r.get (p.get (o.get (y.get E id) id) oM) oM) oM) oM;have b:t.heap[N.heap.size]? =some (.cells #[XH e,XH q] 360 (0,0)):=u.get (s.get J oM) oM;have f:t.heap[O.heap.size]? =some (.cells #[XH R,XH b9] 360 (0,0)):=L
 clear E F H I J K L C y o p r s u
 have P:∀{i:Bool},eh b3 (e,q) (R,b9)=i->Ok (λx w'=>x= .bool (eh b3 (e,q) (R,b9))/\ai w w') (.returned (.bool i)) t:=λ{i} j=>Ok.mk ⟨by rw[j],Q⟩;have M:(((e,q):Int×Int) !=(R,b9))= !(e==R&&q==b9):=rfl;refine⟨_,ae S rfl,an.eG (λg=>?_) (λg=>an.eG (λm=>?_) (λm=>an.eG (λA=>?_) (λA=>P ?_)))⟩
 ·refine⟨_,ae b rfl,an.eG (λh=>⟨_,ae f rfl,an.eG (λk=>⟨_,_,ae b rfl,ae b rfl,_,_,ae f rfl,ae f rfl,kH.neq ⟨_,rfl,P ?_⟩⟩) (λk=>P ?_)⟩) (λh=>P ?_)⟩
  ·unfold eh;rw[Zx g,M,show e=2 from h,show R=2 from k];rfl
  ·unfold eh;rw[Zx g,show e=2 from h,show(R==2)=false by simpa using k];rfl
  ·unfold eh;rw[Zx g,show(e==2)=false by simpa using h];rfl
 ·refine⟨_,ae b rfl,an.eG (λh=>⟨_,ae f rfl,an.eG (λk=>⟨_,_,ae b rfl,ae b rfl,_,_,ae f rfl,ae f rfl,kH.neq ⟨_,rfl,P ?_⟩⟩) (λk=>P ?_)⟩) (λh=>P ?_)⟩
  ·unfold eh;rw[Zq g,Zx m,M,show e=5 from h,show R=5 from k];rfl
  ·unfold eh;rw[Zq g,Zx m,show e=5 from h,show(R==5)=false by simpa using k];rfl
  ·unfold eh;rw[Zq g,Zx m,show(e==5)=false by simpa using h];rfl
 ·have n:eh b3 (e,q) (R,b9)=((e==3&&q==b9)&&(R==4&&b9==q)||(e==4&&q==b9)&&(R==3&&b9==q)):=by
   unfold eh;rw[Zq g,Zq m,Zx A];rfl
  refine⟨_,_,ae b rfl,ae b rfl,kH.eql ⟨_,rfl,an.mk (λv=>⟨_,_,ae f rfl,ae f rfl,kH.eql ⟨_,rfl,an.mk (λB=>P ?_) (λB=>?_)⟩⟩) (λv=>?_)⟩⟩
  ·rw[n,v,B];rfl
  ·have j:((e==3&&q==b9)&&(R==4&&b9==q))=false:=by rw[v,B];rfl
   exact⟨_,_,ae b rfl,ae b rfl,kH.eql ⟨_,rfl,an.mk (λl=>⟨_,_,ae f rfl,ae f rfl,kH.eql ⟨_,rfl,P (by rw[n,j,l];rfl)⟩⟩) (λl=>P (by rw[n,j,l];rfl))⟩⟩
  ·have j:((e==3&&q==b9)&&(R==4&&b9==q))=false:=by rw[v];rfl
   exact⟨_,_,ae b rfl,ae b rfl,kH.eql ⟨_,rfl,an.mk (λl=>⟨_,_,ae f rfl,ae f rfl,kH.eql ⟨_,rfl,P (by rw[n,j,l];rfl)⟩⟩) (λl=>P (by rw[n,j,l];rfl))⟩⟩
 ·unfold eh;rw[Zq g,Zq m,Zq A]
def yG{f:bg}(t:Row aQ 8 w D r i l.aN)(u:Row aQ 8 w E c0 K M.aN):
  ZG 165 #[Ul f d a c,jk l r i p,jk M c0 K c6] w (Ok λv w'=>v= .bool (lv f l M)/\ai w w'):=by
 refine vi (PA.mk λC x F y=>PA.mk λH q I z=>PA.mk λA j J g=>?_);have k:=j.get (q.get y id) id;have h:=j.get z id;have e:=(x.then q).then j;refine⟨λs w'=>s=(f.dE==2||f.dE==3&&decide (M.arg<l.arg))/\A=w',?_,?_⟩
 ·refine⟨_,ae k rfl,an.eG (λP=>⟨by rw[show f.dE=2 from P];rfl,rfl⟩) (λP=>⟨_,ae k rfl,an.eG (λm=>⟨_,ae h rfl,_,ae g rfl,?_,rfl⟩) (λm=>⟨?_,rfl⟩)⟩)⟩
  ·rw[show f.dE=3 from m];rfl
  ·rw[show(f.dE==2)=false by simpa using P,show(f.dE==3)=false by simpa using m];rfl
 ·rintro s _ _ ⟨n,rfl⟩
  refine an.mk (λP=>?_) (λP=>Ok.mk ⟨by unfold lv;rw[<-n,P];rfl,e⟩);refine au (eL f d a c) k ⟨_,ae h rfl,_,ae h rfl,_,ae g rfl,_,ae g rfl,PC.ok vq ?_⟩;rintro _ L ⟨rfl,b⟩;refine⟨_,rfl,an.mk (λo=>au (aX l r i p) (b.get h id) (au (aX M c0 K c6) (b.get g id) (PC.ok (Fe (t.ah (e.then b)) (u.ah (e.then b))) ?_))) (λo=>Ok.mk ⟨by unfold lv;rw[<-n,P,o];rfl,e.then b⟩)⟩;rintro _ N ⟨rfl,B⟩;exact⟨_,rfl,Ok.mk ⟨by unfold lv;rw[<-n,P,o];rfl,(e.then b).then B⟩⟩
end
def jH:ez cO Int where
 k:=2
 ci:=aQ
 ib:=8
 inner:=(·.set)
 hd:=λP a b c=>[XH P.n,.slice a b c]
 ok:=λP=>aP P.n/\uL P.set/\P.set.length<=64
 hl:=λ_ _ _ _=>rfl
 h1:=λP a b c e d=>by simp at d;rcases d with rfl|rfl<;>rfl
 o:=1
 ho:=dC
 fm:=λ_ _ _ _ _ _ _=>rfl
abbrev eT:jB cO:=jH.KF
def Mq:iI XP 40 73 2 32:=⟨kR,kR,dC⟩
abbrev OC(P:Int):Nat:=if P=1 then 173 else if P=3 then 178 else if P=5 then 181 else 176
abbrev Td(P:Int):Nat:=if P=1 then 174 else if P=2 then 177 else if P=3 then 179 else if P=4 then 180 else 182
def oI(P:Int):Value:=.agg #[.func (.func (OC P)) #[] #[],.func (.func (Td P)) #[] #[]]
def xY:nU XP 224 3 222 (.agg #[.nilFunc,.nilFunc]):=⟨kR,kR⟩
def CD:iq XP 3 (Value.int .i64):=Sc kR
variable{b4:List cO}
section
variable {w w':World} {D E:XN}
def xZ:ZG 113 #[] w (Ok λc w'=>∃b,c= .map (some b)/\cj w' b (Value.int .i64) [((1:Int),oI 1),(2,oI 2),(3,oI 3),(4,oI 4),(5,oI 5)]/\ai w w'):=by
 refine CE (PA.mk λp d q e=>?_);refine iZ (k:=(1:Int)) xY CD (cj.new e) λr f g s=>iZ (k:=(2:Int)) xY CD f λt h i u=>iZ (k:=(3:Int)) xY CD h λv j k x=>iZ (k:=(4:Int)) xY CD j λy l m z=>iZ (k:=(5:Int)) xY CD l λA n o B=>Ok.mk ⟨_,rfl,n,?_⟩;exact((((d.new g λP a=>.inr oM).new i λP a=>.inr oM).new k λP a=>.inr oM).new m λP a=>.inr oM).new o λP a=>.inr oM
def Jy(P:1<=e)(a:e<=5):ax [((1:Int),oI 1),(2,oI 2),(3,oI 3),(4,oI 4),(5,oI 5)] e=some (oI e):=by
 have:e=1\/e=2\/e=3\/e=4\/e=5:=oM
 rcases this with rfl|rfl|rfl|rfl|rfl<;>rfl
def Sd(P:bg)(a:ZH)(b c:Nat)(d:ZH)(e f:Nat)(g arg:Int):List Value:=[XH P.kind,XH P.dE,.bool P.floor,.slice a b c,.slice d e f,XH g,XH arg]
abbrev x_(P:bg)(a:ZH)(b c:Nat)(d:ZH)(e f:Nat)(g arg:Int):Value:=.agg (Sd P a b c d e f g arg).toArray
def sW(P:bg)(a:ZH)(b c:Nat)(d:ZH)(e f:Nat)(g arg:Int):iJ XP 227 (Sd P a b c d e f g arg)=true:=kR
variable {f:bg} {ma ca:ZH} {mn mc cn cc i:Nat} {arg:Int}
def gC(b:ca=some ⟨a,c,none⟩)(g:i<cn):ZG 175 #[x_ f ma mn mc ca cn cc (i:Int) arg] w (Ok λd w'=>d= .pointer (some ⟨a,c+i*2,none⟩)/\ai w w'):=
 wL (PA.mk λh e j P=>⟨_,_,_,ae P rfl,_,ae P rfl,a,c,b,oM,oM,Ok.mk ⟨rfl,e⟩⟩)
def Mr(e:List bg)(d:List cO)(P c arg:Int):Bool:=
 let f:=e.getD P.toNat ⟨0,0,false,[]⟩
 let a:=d.getD P.toNat ⟨0,[]⟩
 if c=1 then(arg==0||Jz a.n arg)&& !(f.floor&&decide (lN (a.n+arg)<0))
 else if c=3 then decide (arg∈a.set)||decide (a.set.length<64)
 else if c=5 then(let b:=f.bl.getD arg.toNat ⟨0,0,0,0⟩;a.n==b.bE&&(decide (b.ko<0)||decide (b.least<=(d.getD b.ko.toNat ⟨0,[]⟩).n)))
 else true
def CF(a:List bg)(b:List cO)(P c arg:Int):uP a b P c arg=if Mr a b P c arg then 0 else 10:=rfl
def lJ{bytes:Nat}(f:Row eT bytes w D ca cn b4)(g:i<cn):∃P a b c d,ca=some ⟨P,a,none⟩/\P<w.heap.size/\D P/\w.cell? ⟨P,a+i*2,none⟩=some (XH (b4.getD i ⟨0,[]⟩).n)/\w.cell? ⟨P,a+i*2+1,none⟩=some (.slice b c d)/\Row aQ 8 w D b c (b4.getD i ⟨0,[]⟩).set/\aP (b4.getD i ⟨0,[]⟩).n/\uL (b4.getD i ⟨0,[]⟩).set/\(b4.getD i ⟨0,[]⟩).set.length<=64:=by
 have h:=f.len;obtain⟨P,a,p,k,l,m,j,b,c,d,rfl,n,e⟩:=f.el i b4[i] (by simp[h▸g]);have o:b4.getD i ⟨0,[]⟩=b4[i]:=by simp[QQ,h▸g]
 rw[o];exact⟨P,a,b,c,d,k,l,m,by have:=j 0 dC;simpa[jH,ez.KF]using this,by have:=j 1 dC;simpa[jH,ez.KF]using this,n,e.1,e.2.1,e.2.2⟩
def Ms:ZG 231 #[XH e,XH q] w (Ok λP w'=>P= .bool (Jz e q)/\w=w'):=Ht (Ok.mk ⟨rfl,rfl⟩)
def EK{bytes:Nat}(l:Row eT bytes w D ca cn b4)(h:i<cn):
  ZG 173 #[x_ f ma mn mc ca cn cc (i:Int) arg] w (Ok λm w'=>m= .bool ((arg==0||Jz (b4.getD i ⟨0,[]⟩).n arg)&& !(f.floor&&decide (lN ((b4.getD i ⟨0,[]⟩).n+arg)<0)))/\ai w w'):=by
 refine Ax (PA.mk λs j t k=>au (sW ..) k ?_);obtain⟨n,o,u,v,x,p,q,y,r,b,-⟩:=lJ (l.ah j) h;refine PC.ok (gC p h) ?_;rintro _ z ⟨rfl,e⟩;have a:=e.get k id;have c:=j.then e;refine⟨_,rfl,_,_,rfl,_,(e.cell (a:=⟨n,o+i*2,none⟩) q id).trans r,_,ae a rfl,an.eG (λd=>⟨_,ae a rfl,an.mk (λP=>⟨_,ae a rfl,Ok.mk ⟨?_,c⟩⟩) (λP=>Ok.mk ⟨?_,c⟩)⟩) (λd=>⟨_,ae a rfl,PC.ok Ms ?_⟩)⟩
 ·rw[show(arg==0)=true by simpa using d,P];rfl
 ·rw[show(arg==0)=true by simpa using d,P];rfl
 ·rintro _ _ ⟨rfl,rfl⟩
  have g:(arg==0)=false:=by simpa using d
  refine⟨_,rfl,an.mk (λb=>⟨_,ae a rfl,an.mk (λP=>⟨_,ae a rfl,Ok.mk ⟨?_,c⟩⟩) (λP=>Ok.mk ⟨?_,c⟩)⟩) (λb=>Ok.mk ⟨?_,c⟩)⟩
  ·rw[g,b,P];rfl
  ·rw[g,b,P];rfl
  ·rw[g,b];rfl
def EM{bytes:Nat}(n:Row eT bytes w D ca cn b4)(a:i<cn):
  ZG 178 #[x_ f ma mn mc ca cn cc (i:Int) arg] w (Ok λo w'=>o= .bool (decide (arg∈(b4.getD i ⟨0,[]⟩).set)||decide ((b4.getD i ⟨0,[]⟩).set.length<64))/\ai w w'):=by
 refine Ay (PA.mk λp q A r=>λs t=>⟨no,?_⟩);have d:ai p s:=t.af;have b:=d.get r id;have c:=q.then d;obtain⟨e,g,B,C,E,h,j,F,H,u,k,-,v,-⟩:=lJ (n.ah c) a;refine au (sW ..) b ⟨id,_,ae b rfl,PC.ok (gC h a) ?_⟩;rintro _ I ⟨rfl,P⟩;have l:=(P.cell (a:=⟨e,g+i*2+1,none⟩) j id).trans u;refine⟨_,rfl,ai.af P,_,_,rfl,_,_,_,l,PC.ok (rE (k.ah P) v) ?_⟩;rintro _ _ ⟨rfl,rfl⟩;refine⟨_,_,rfl,ak.refl _,an.mk (λx=>Ok.mk ⟨by rw[x];rfl,c.then P⟩) (λy=>au (sW ..) (P.get b id) (PC.ok (gC h a) ?_))⟩;rintro _ J ⟨rfl,m⟩;have z:=k.len;refine⟨_,rfl,_,_,rfl,_,_,_,(m.cell (a:=⟨e,g+i*2+1,none⟩) (Qk j P.size) id).trans l,Ok.mk ⟨?_,(c.then P).then m⟩⟩;rw[y,z]
 congr 1
 rw[Bool.false_or,decide_eq_decide];omega
def CG{bytes:Nat}(n:Row eT bytes w D ca cn b4)(o:i<cn)(p:Row fy 32 w E ma mn f.bl)(h0:0<=arg)(h1:arg<(mn:Int))(q:((f.bl.getD arg.toNat ⟨0,0,0,0⟩).ko)<(cn:Int)):
  ZG 181 #[x_ f ma mn mc ca cn cc (i:Int) arg] w (Ok λC w'=>C= .bool (let P:=f.bl.getD arg.toNat ⟨0,0,0,0⟩;(b4.getD i ⟨0,[]⟩).n==P.bE&&(decide (P.ko<0)||decide (P.least<=(b4.getD P.ko.toNat ⟨0,[]⟩).n)))/\ai w w'):=by
 refine yb (PA.mk λF r s1 g=>?_);have a0:=p.len;obtain⟨a,rfl⟩:∃a:Nat,arg=a:=⟨arg.toNat,oM⟩
 have s:a<f.bl.length:=oM
 obtain⟨H,I,es,J,a1,-,t,rfl,-⟩:=(p.ah r).el a f.bl[a] (by simp[s]);have K:f.bl.getD a ⟨0,0,0,0⟩=f.bl[a]:=by simp[QQ,s]
 simp only[Qx,K]at q⊢;generalize f.bl[a]=P at t q;refine⟨_,_,_,ae g rfl,_,ae g rfl,H,I,J,oM,oM,bq (es:=mJ P) (k:=4) (Hu P) rfl (λL M=>t L M) (PA.mk λw2 N s2 O=>aB (Hu P) O rfl λu Q s3 R=>λS T=>⟨no,?_⟩)⟩;have v:ai F u:=N.new Q λx y=>.inr oM;have h:ai u S:=T.af;have z:=(r.then v).then h;have A:=h.get (v.get g id) id;have b:=h.get R id;obtain⟨x,U,a2,a3,a4,V,y,a5,W,hs,-⟩:=lJ (n.ah z) o;refine au (sW ..) A ⟨id,_,ae b rfl,PC.ok (gC V o) ?_⟩;rintro _ w5 ⟨rfl,c⟩;have b:=c.get b id;have d:=z.then c;refine⟨_,rfl,ai.af c,_,_,rfl,_,(c.cell (a:=⟨x,U+i*2,none⟩) y id).trans W,an.eG (λe=>⟨_,ae b rfl,an.dec (λj=>Ok.mk ⟨?_,d⟩) (λj=>?_)⟩) (λe=>Ok.mk ⟨?_,d⟩)⟩
 ·rw[show((b4.getD i ⟨0,[]⟩).n==P.bE)=true by simpa using e,Zy j];rfl
 ·obtain⟨k,B⟩:∃k:Nat,P.ko=k:=⟨P.ko.toNat,oM⟩
  obtain⟨X,Y,a',n',c',l,Z,-,m,-⟩:=lJ (n.ah d) (i:=k) oM;refine⟨_,_,_,ae (c.get A id) rfl,_,ae b rfl,X,Y,l,oM,oM,_,by rw[B,Qx];exact m,_,ae b rfl,Ok.mk ⟨?_,d⟩⟩;rw[show((b4.getD i ⟨0,[]⟩).n==P.bE)=true by simpa using e,Xv j,B,Qx];rfl
 ·rw[show((b4.getD i ⟨0,[]⟩).n==P.bE)=false by simpa using e];rfl
end
variable{a1:List Value}{h:Program}{m s:XR}
section
variable {w w':World} {D E:XN}
structure EN (t:List bg) (cells:List cO) (fi op arg:Int):Prop where
 f0:0<=fi
 f1:fi<(t.length:Int)
 len:cells.length=t.length
 Se:1<=op
 Sf:op<=5
 mv:op=5->0<=arg/\arg<((t.getD fi.toNat ⟨0,0,false,[]⟩).bl.length:Int)/\(((t.getD fi.toNat ⟨0,0,false,[]⟩).bl.getD arg.toNat ⟨0,0,0,0⟩).ko)<(t.length:Int)
variable {t:List bg} {cells:List cO} {op arg:Int} {ma ca ta:ZH} {mn mc cn cc tn tc i:Nat} {bytes:Nat}
def Mt(P:EN t cells (i:Int) op arg)(a:Row eT bytes w D ca cn cells)(d:Row fy 32 w E ma mn (t.getD i ⟨0,0,false,[]⟩).bl):
  enters XP (OC op)=true/\ZG (OC op) (#[]++ #[x_ (t.getD i ⟨0,0,false,[]⟩) ma mn mc ca cn cc (i:Int) arg]++ #[]) w (Ok λg w'=>g= .bool (Mr t cells (i:Int) op arg)/\ai w w'):=by
 have b:i<cn:=by have:=a.len;have:=P.f1;have:=P.len;omega
 have m:=P.Se;have n:=P.Sf;have:op=1\/op=2\/op=3\/op=4\/op=5:=oM
 rcases this with rfl|rfl|rfl|rfl|rfl
 ·exact⟨kR,EK a b⟩
 ·exact⟨kR,qX (PA.mk λh c j k=>Ok.mk ⟨rfl,c⟩)⟩
 ·exact⟨kR,EM a b⟩
 ·exact⟨kR,qX (PA.mk λh c j k=>Ok.mk ⟨rfl,c⟩)⟩
 ·obtain⟨l,e,f⟩:=P.mv rfl
  rw[Qx]at e f;exact⟨kR,CG a b d l (by rw[d.len];exact e) (by rw[a.len,P.len];exact f)⟩
def Mu(op:Int):iJ XP 222 [.func (.func (OC op)) #[] #[],.func (.func (Td op)) #[] #[]]=true:=kR
def CH{bytes:Nat}(f:Row nV bytes w D ta tn t)(g:i<tn):∃P a b c e,ta=some ⟨P,a,none⟩/\P<w.heap.size/\D P/\w.cell? ⟨P,a+i*4,none⟩=some (XH (t.getD i ⟨0,0,false,[]⟩).kind)/\w.cell? ⟨P,a+i*4+1,none⟩=some (XH (t.getD i ⟨0,0,false,[]⟩).dE)/\w.cell? ⟨P,a+i*4+2,none⟩=some (.bool (t.getD i ⟨0,0,false,[]⟩).floor)/\w.cell? ⟨P,a+i*4+3,none⟩=some (.slice b c e)/\Row fy 32 w D b c (t.getD i ⟨0,0,false,[]⟩).bl:=by
 have h:=f.len;obtain⟨P,a,o,j,k,l,d,b,c,e,rfl,m,p⟩:=f.el i t[i] (by simp[h▸g]);have n:t.getD i ⟨0,0,false,[]⟩=t[i]:=by simp[QQ,h▸g]
 rw[n];exact⟨P,a,b,c,e,j,k,l,d 0 dC,d 1 dC,d 2 dC,d 3 dC,m⟩
def EO(P:EN t cells e op arg)(g:Row nV 48 w E ta tn t)(n:Row eT bytes w D ca cn cells):
  ZG 65 #[.agg #[.slice ta tn tc],.slice ca cn cc,XH e,XH op,XH arg] w (Ok λo w'=>o= XH (uP t cells e op arg)/\ai w w'):=by
 obtain⟨i,rfl⟩:∃i:Nat,e=i:=⟨e.toNat,by have:=P.f0;omega⟩
 refine Hv (PA.mk λL p M q=>PC.ok xZ ?_);rintro _ N ⟨O,rfl,r,b⟩;refine⟨_,rfl,lO xY CD r ?_⟩;rw[Jy P.Se P.Sf];refine⟨_,_,_,rfl,PA.mk λQ h R s=>aB (Mu op) s rfl λu j S d=>λk v=>an.tt rfl ?_⟩;have f:ai u k:=v.af;have c:ai w k:=((p.then (b.then h)).new j λl a=>.inr (by have:=b.size;omega)).then f;have d:=f.get d id;have x:=f.get (j.get (h.get (b.get q id) id) (by have:=b.size;omega)) id;have T:=P.f1;have U:=g.len;obtain⟨l,y,V,W,z,A,a,X,B,C,F,H,I⟩:=CH (g.ah c) (i:=i) oM;obtain⟨J,K⟩:=Mt (mc:=z) (cc:=cc) P (n.ah c) I;refine⟨_,ae d rfl,_,_,_,ae x rfl,l,y,A,oM,oM,_,_,_,_,_,_,B,C,F,H,_,_,_,rfl,J,PC.ok K ?_⟩;rintro _ Y ⟨rfl,m⟩;rw[CF];exact⟨_,rfl,an.not (an.mk (λa=>Ok.mk ⟨by rw[a];rfl,c.then m⟩) (λa=>Ok.mk ⟨by rw[a];rfl,c.then m⟩))⟩
def Mv(P:c<a*a1.length):((List.replicate a a1).flatten)[c]? =a1[c % a1.length]? :=by
 induction a generalizing c with
 |zero=>simp at P
 |succ a e=>
  rw[List.replicate_succ,List.flatten_cons]
  by_cases b:c<a1.length
  ·rw[XW b,Nat.mod_eq_of_lt b]
  ·rw[X8 oM,e (by rw[X7,Nat.one_mul]at P;omega)]
   obtain⟨d,rfl⟩:∃d,c=d+a1.length:=⟨c-a1.length,oM⟩
   rw[Nat.add_sub_cancel,Nat.add_mod_right]
def Sg{t d:TypeId}{P bytes:Nat}(g:iI h t d P bytes){z:Value}(j:(h.info? d).bind (·.zero)=some z)(l:a<=c)(r:c*bytes<=aT)(u:c<=aT){w:World}(v:∀w',Own w' d P (XM w.heap.size) a c (List.replicate a z.cells.toList).flatten->ai w w'->w'.heap.size=w.heap.size+1->m (.slice (XM w.heap.size) a c) w'):
  aH h (Instr.makeSlice t (XH (a:Int)) (XH (c:Int))) w m s:=by
 unfold aT at r u;obtain⟨i,b,n,o,x,y,e⟩:=iI.info g;have A:b=z:=by
  rw[n]at j;simp only[Option.bind_some,o]at j;exact XJ j
 subst A;have p:=run_make (P:=h) w t d i _ g.under n o .i64 .i64 a c oM oM (by rw[y,Int.mul_comm,<-Int.natCast_mul];omega) oM;rw[Qx,Qx,x]at p;have B:ai w (w.alloc (.cells (madeCells b.cells (c*P)) d)):=ak.alloc w _;have H:a*P<=c*P:=Q0 _ l;have C:(madeCells b.cells (c*P)).size=c*P:=size_madeCells ..;have E:((List.replicate a b.cells.toList).flatten).length=a*P:=by simp[e]
 refine aH.mk p (v _ ⟨⟨E,.inr ⟨w.heap.size,c,_,rfl,Qj _,heap_alloc_new w _,l,by unfold maxLen;omega,C,?_⟩⟩⟩ B sM);apply X3;intro f
 by_cases k:f<a*P
 ·rw[Xw,Zx k,Mv (by simp[e];exact k)]
  unfold madeCells;have F:=g.pos;have q:f % P<b.cells.size:=by rw[e];exact Nat.mod_lt _ F
  simp[e,show f<c*P by omega];rw[getElem!_pos b.cells (f % P) q,X6 q]
 ·rw[Xw,Zq k,Q7 oM]
def EP(j:ta=ta)(d:tn=t.length)(P:tn<=20000000):ZG 62 #[.agg #[.slice ta tn tc]] w (Ok (qw eT 73 w (c_ t))):=by
 refine Hw (PA.mk λe f k a=>⟨_,_,_,ae a rfl,Sg Mq (z:=.agg #[XH 0,.slice none 0 0]) kR (Q4 _) ba ba λl b g m=>⟨_,_,_,rfl,Ok.mk ⟨_,_,_,(·=e.heap.size),rfl,⟨⟨_,λ_=>False,b,?_,λ_ h=>h.elim⟩,λc P=>by simpa[aI]using P.symm,λc P=>oM⟩,f.then g,λc P=>oM⟩⟩⟩);subst d
 clear b a
 unfold c_
 induction t with
 |nil=>rfl
 |cons n t i=>exact⟨_,_,rfl,⟨none,0,0,rfl,Row.nil _ _,by simp[aP],List.Pairwise.nil,sM⟩,i (by simp at P;omega)⟩
end
end Go.Proofs.YtkpomgifkloklacGreatDoor
namespace Go.aw
open Go
def EI(i:Program)(f tn:TypeId)(j:Nat)(A q:FuncId)(h:ZH)(b c:Nat)(P:Int)(n:ZH)(a o:Nat)(d:World)(g:XT):Prop:=
 ((0:Int)<=P/\(P:Int)<=((b:Nat):Int)/\an ((((a:Nat):Int):Int)==0) (g (.returned (.slice h b c)) d) (an ((P:Int)==((b:Nat):Int)) (aH i (Builtin.append_ #[f,f] f #[.slice h b c,.slice n a o]) d (λB C=>∃(r:ZH) (s:Nat) (t:Nat),B= .slice r s t/\g (.returned (.slice r s t)) C) (λe d=>g (.panicked [{v:=e,recovered:=false}]) d)) (aH i (Builtin.cap_ #[f] tn #[.slice h b c]) d (λE u=>∃(v:Int),E= XH v/\an (decide (((XG .i64 (((b:Nat):Int)+((a:Nat):Int))):Int)>v)) (((0:Int)<=P/\(P:Int)<=((c:Nat):Int)/\aH i (Builtin.append_ #[f,tn] f #[.slice h (Int.toNat P) c,XH (XG .i64 ((XG .i64 (((b:Nat):Int)+((a:Nat):Int)))-P))]) u (λF H=>∃(p:ZH) (l:Nat) (m:Nat),F= .slice p l m/\((0:Int)<=P/\(P:Int)<=((l:Nat):Int)/\aH i (Builtin.copy_ #[f,f] tn #[.slice (cz p (Int.toNat P) m j) (l-Int.toNat P) (m-Int.toNat P),.slice n a o]) H (λI J=>∃(K:Int),I= XH K/\(∀w,bO J w->((0:Int)<=(XG .i64 (P+((a:Nat):Int)))/\((XG .i64 (P+((a:Nat):Int))):Int)<=((l:Nat):Int)/\((0:Int)<=P/\(P:Int)<=((b:Nat):Int)/\aH i (Builtin.copy_ #[f,f] tn #[.slice (cz p (Int.toNat (XG .i64 (P+((a:Nat):Int)))) m j) (l-Int.toNat (XG .i64 (P+((a:Nat):Int)))) (m-Int.toNat (XG .i64 (P+((a:Nat):Int)))),.slice (cz h (Int.toNat P) c j) (b-Int.toNat P) (c-Int.toNat P)]) w (λL M=>∃(N:Int),L= XH N/\g (.returned (.slice p l m)) M) (λe k=>∀(_:bU) (_:cQ),g (.panicked [{v:=e,recovered:=false}]) k))))) (λe d=>g (.panicked [{v:=e,recovered:=false}]) d))) (λe d=>g (.panicked [{v:=e,recovered:=false}]) d))) (((0:Int)<=(XG .i64 (((b:Nat):Int)+((a:Nat):Int)))/\((XG .i64 (((b:Nat):Int)+((a:Nat):Int))):Int)<=((c:Nat):Int)/\((0:Int)<=(XG .i64 (P+((a:Nat):Int)))/\((XG .i64 (P+((a:Nat):Int))):Int)<=(((Int.toNat (XG .i64 (((b:Nat):Int)+((a:Nat):Int)))):Nat):Int)/\OL i A #[.slice n a o,.slice (cz h (Int.toNat (XG .i64 (P+((a:Nat):Int)))) c j) ((Int.toNat (XG .i64 (((b:Nat):Int)+((a:Nat):Int))))-Int.toNat (XG .i64 (P+((a:Nat):Int)))) (c-Int.toNat (XG .i64 (P+((a:Nat):Int))))] u (λO x=>∃(y:Bool),O= .bool y/\an (!y) ((∀z,bO x z->((0:Int)<=(XG .i64 (P+((a:Nat):Int)))/\((XG .i64 (P+((a:Nat):Int))):Int)<=(((Int.toNat (XG .i64 (((b:Nat):Int)+((a:Nat):Int)))):Nat):Int)/\((0:Int)<=P/\(P:Int)<=(((Int.toNat (XG .i64 (((b:Nat):Int)+((a:Nat):Int)))):Nat):Int)/\aH i (Builtin.copy_ #[f,f] tn #[.slice (cz h (Int.toNat (XG .i64 (P+((a:Nat):Int)))) c j) ((Int.toNat (XG .i64 (((b:Nat):Int)+((a:Nat):Int))))-Int.toNat (XG .i64 (P+((a:Nat):Int)))) (c-Int.toNat (XG .i64 (P+((a:Nat):Int)))),.slice (cz h (Int.toNat P) c j) ((Int.toNat (XG .i64 (((b:Nat):Int)+((a:Nat):Int))))-Int.toNat P) (c-Int.toNat P)]) z (λQ R=>∃(S:Int),Q= XH S/\((0:Int)<=P/\(P:Int)<=(((Int.toNat (XG .i64 (((b:Nat):Int)+((a:Nat):Int)))):Nat):Int)/\aH i (Builtin.copy_ #[f,f] tn #[.slice (cz h (Int.toNat P) c j) ((Int.toNat (XG .i64 (((b:Nat):Int)+((a:Nat):Int))))-Int.toNat P) (c-Int.toNat P),.slice n a o]) R (λT U=>∃(V:Int),T= XH V/\g (.returned (.slice h (Int.toNat (XG .i64 (((b:Nat):Int)+((a:Nat):Int)))) c)) U) (λe d=>g (.panicked [{v:=e,recovered:=false}]) d))) (λe k=>∀(_:bU) (_:cQ),g (.panicked [{v:=e,recovered:=false}]) k))))) (((0:Int)<=((b:Nat):Int)/\(((b:Nat):Int):Int)<=(((Int.toNat (XG .i64 (((b:Nat):Int)+((a:Nat):Int)))):Nat):Int)/\aH i (Builtin.copy_ #[f,f] tn #[.slice (cz h (Int.toNat ((b:Nat):Int)) c j) ((Int.toNat (XG .i64 (((b:Nat):Int)+((a:Nat):Int))))-Int.toNat ((b:Nat):Int)) (c-Int.toNat ((b:Nat):Int)),.slice n a o]) x (λW X=>∃(Y:Int),W= XH Y/\((0:Int)<=P/\(P:Int)<=(((Int.toNat (XG .i64 (((b:Nat):Int)+((a:Nat):Int)))):Nat):Int)/\PC i q #[.slice (cz h (Int.toNat P) c j) ((Int.toNat (XG .i64 (((b:Nat):Int)+((a:Nat):Int))))-Int.toNat P) (c-Int.toNat P),XH ((a:Nat):Int)] X (λZ b8=>Z= .tuple #[]/\g (.returned (.slice h (Int.toNat (XG .i64 (((b:Nat):Int)+((a:Nat):Int)))) c)) b8) (λch d=>g (.panicked ch) d))) (λe d=>g (.panicked [{v:=e,recovered:=false}]) d)))) (λe d=>g (.panicked [{v:=e,recovered:=false}]) d))))) (λe d=>g (.panicked [{v:=e,recovered:=false}]) d))))
def EJ(m:Program)(f p:TypeId)(n:Nat)(i:ZH)(P c:Nat)(d a:Int)(g:World)(h:XT):Prop:=
 ((0:Int)<=d/\(d:Int)<=a/\(a:Int)<=((P:Nat):Int)/\(((P:Nat):Int):Int)<=((c:Nat):Int)/\an ((d:Int)==a) (h (.returned (.slice i P c)) g) ((∀o,bO g o->((0:Int)<=d/\(d:Int)<=((c:Nat):Int)/\((0:Int)<=a/\(a:Int)<=((P:Nat):Int)/\aH m (Builtin.append_ #[f,f] f #[.slice i (Int.toNat d) c,.slice (cz i (Int.toNat a) c n) (P-Int.toNat a) (c-Int.toNat a)]) o (λq r=>∃(j:ZH) (b:Nat) (e:Nat),q= .slice j b e/\((0:Int)<=((b:Nat):Int)/\(((b:Nat):Int):Int)<=((P:Nat):Int)/\(((P:Nat):Int):Int)<=((e:Nat):Int)/\aH m (Builtin.clear_ #[f] p #[.slice (cz j (Int.toNat ((b:Nat):Int)) e n) (Int.toNat ((P:Nat):Int)-Int.toNat ((b:Nat):Int)) (e-Int.toNat ((b:Nat):Int))]) r (λt s=>h (.returned (.slice j b e)) s) (λk g=>h (.panicked [{v:=k,recovered:=false}]) g))) (λk l=>∀(_:bU) (_:cQ),h (.panicked [{v:=k,recovered:=false}]) l))))))
def oX(P:World)(a:Nat)(b:Array Value):ak (·=a) P (P.setRow a b):=by
 refine⟨rfl,rfl,rfl,by simp[World.setRow],λc f d=>?_⟩;show(P.heap.modify a _)[c]? =_;rw[Array.getElem?_modify,Zq (λe=>d e.symm)]
variable{c7:Addr}{n:Array Value}{z:XT}{g1 y:FuncId}{a1 e2:List Value}{K a c i p:Nat}{f:XN}{d:ZH}{h:Program}{j:Type}{B d4 g o:TypeId}{m s:XR}{b:World}
def JJ{l bytes:Nat}(r:iI h g o l bytes){c f d i a e n:Nat}{P:Array Value}{cs:List Value}(p:b.heap[c]? =some (.cells P d4 (0,0)))(u:Nat.min a d=n)(v:cs.length=n*l)(w:∀t j,cs[t]? =some j->b.cell? (c7.add t)=some j)(x:f+cs.length<=P.size)(y:∀j∈cs,j.oneCell'=true)(q:∀k,k.heap[c]? =some (.cells (P.toList.take f++cs++P.toList.drop (f+cs.length)).toArray d4 (0,0))->ak (·=c) b k->k.heap.size=b.heap.size->m (XH (n:Int)) k):
  aH h (Builtin.copy_ #[g,g] B #[.slice (some ⟨c,f,none⟩) d i,.slice (some c7) a e]) b m s:=by
 obtain⟨F,H,z,I,A,J,K⟩:=iI.info r;have C:=run_firstCells_some (P:=h) b l n c7 a e cs v w;have E:=run_storeCells_at h c f d4 cs 0 P b p (by simpa using x) y;refine aH.mk (w':=b.setRow c (P.toList.take f++cs++P.toList.drop (f+cs.length)).toArray) ?_ (q _ (setRow_heap b c P _ d4 (0,0) p) (oX b c _) ?_)
 ·simp[Builtin.copy_,run_underlying r.under,Builtin.lenOf,sizeOf,typeInfo,z,A,u,C,E,goInt]
 ·have L:=az p
  simp[World.setRow]
def bK.drop{d:Type}{a:jB d}{e:World}{D:XN}:∀{b:List d} {cs:List Value},bK a e D b cs->∀(P:Nat),bK a e D (b.drop P) (cs.drop (P*a.k))
 |b,cs,c,0=>by simpa using c
 |[],cs,c,P+1=>by
  have:cs=[]:=c;subst this;simp[bK]
 |x::b,cs,⟨j,k,g,h,i⟩,P+1=>by
  subst g;have f:=a.len h;rw[List.drop_succ_cons,X7,Nat.one_mul,Nat.add_comm,<-List.drop_drop,<-f,List.drop_left];rw[f];exact bK.drop i P
def fp(P:p≠i):cz (some ⟨a,c,none⟩) i p K=some ⟨a,c+i*K,none⟩:=by
 unfold cz;rw[Zq P];simp[Addr.add_lit]
def K_{cs news ROW:List Value}{A B C k:Nat}(e:cs.length=B)(f:news.length=k)(g:A<=B)(h:ROW.length=C)(i:B+k<=C)(b:ROW.take A=cs.take A)(P:a1=ROW.take A++news++ROW.drop (A+k))(a:e2=a1.take (A+k)++cs.drop A++a1.drop (A+k+(B-A))):a1.length=C/\e2.length=C/\e2.take (B+k)=cs.take A++news++cs.drop A:=by
 have c:a1.length=C:=by rw[P];simp;omega
 have d:a1.take (A+k)=cs.take A++news:=by
  rw[P,b,List.take_append_of_le_length bc,Qz bc]
 refine⟨c,by rw[a];simp;omega,?_⟩;rw[a,d,List.take_append_of_le_length bc,Qz bc]
def Ij{cs news cur:List Value}{A B C k:Nat}(f:cs.length=B)(g:news.length=k)(h:A<=B)(i:cur.length=C)(j:B+k<=C)(b:cur.take A=cs.take A)(P:a1=cur.take (A+k)++cs.drop A++cur.drop (A+k+(B-A)))(a:e2=a1.take A++news++a1.drop (A+k)):a1.length=C/\e2.length=C/\e2.take (B+k)=cs.take A++news++cs.drop A:=by
 have c:a1.length=C:=by rw[P];simp;omega
 have d:a1.take A=cs.take A:=by
  rw[P,XQ,List.take_append_of_le_length bc,List.take_take,X2 oM,b]
 have e:a1.drop (A+k)=cs.drop A++cur.drop (A+k+(B-A)):=by
  rw[P,XQ,List.drop_left' bc]
 refine⟨c,by rw[a];simp;omega,?_⟩;rw[a,d,e,<-XQ,List.take_append_of_le_length bc,Qz bc]
def EI.own{x tn c:TypeId}{k bytes:Nat}(q:iI h x c k bytes)(b2:h.underlying tn=some (.int .i64))(b3:∀t b,(callFunc y t).run h b=((Extern.SlicesOverlaps.overlaps #[x,x] #[g] t).run h b).andThen λm l=>.ok (.value m) l){n a P A:Nat}{cs:List Value}{e:Array Value}(B:Own b c k d n a cs)(hi:P<=n)(C:b.heap[A]? =some (.cells e c (0,0)))(J:e.size=k)(W:∀m∈e.toList,m.oneCell'=true)(h1:∀m∈cs,m.oneCell'=true)(b4:aI d≠some A)(O:(n+1)*bytes<=aT)(hm:n+1<=maxLen)(X:∀F u l,Own l c k F (n+1) u (cs.take (P*k)++e.toList++cs.drop (P*k))->ak (λH=>aI d=some H) b l->(aI F=aI d\/aI F=some b.heap.size)->z (.returned (.slice F (n+1) u)) l):
  EI h x tn k y g1 d n a P (XM A) 1 1 b z:=by
 have hk:=q.pos;obtain⟨Q,Y,a6,hz,hs,a7,b5⟩:=iI.info q;have v:=B.length;have d5:=Own.M_ B;unfold aT at O;unfold maxLen at hm;have b6:XG .i64 ((n:Int)+((1:Nat):Int))=((n+1:Nat):Int):=by rw[wrap_i64 bb];simp
 have b7:XG .i64 ((P:Int)+((1:Nat):Int))=((P+1:Nat):Int):=by rw[wrap_i64 bb];simp
 unfold EI;rw[b6,b7];simp only[Qx];refine⟨oM,oM,an.ff rfl (an.eG (λhe=>?_) (λd6=>?_))⟩
 ·
  obtain rfl:P=n:=oM
  refine xv q (news:=e.toList) B C (by rw[Qz (by simp[J])]) (by simp[J]) W ba (by unfold maxLen;omega) λF c' K b8 b9 c0=>⟨_,_,_,rfl,X F c' K ?_ (b9.mono λH _ c=>c.symm) c0⟩
  rw[Qz oM,List.drop_of_length_le oM,List.append_nil];exact b8
 have c4:P<n:=oM
 rcases B.cases with⟨_,h0,_,_⟩|⟨w,cur,rfl,I,c5,Z,a1⟩
 ·omega
 have a5:w≠A:=λc=>b4 (by rw[c];rfl);have a2:P*k<=n*k:=Q0 _ hi;have d7:(P+1)*k<=n*k:=Q0 _ c4;have e1:(P+1)*k=P*k+k:=by rw[X7,Nat.one_mul]
 have e2:(n+1)*k=n*k+k:=by rw[X7,Nat.one_mul]
 have d8:n*k<=a*k:=Q0 _ c5;have c7:∀j,j<=n*k->cur.toList.take j=cs.take j:=λj f=>by rw[<-a1,List.take_take,X2 f]
 have a0:∀l:World,l.heap[w]? =some (.cells cur c (0,0))->∀j o,cs[j]? =some o->l.cell? ⟨w,j,none⟩=some o:=λl E j o f=>by
  refine ae E ?_;rw[<-a1,Xw]at f;split at f
  ·simpa using f
  ·cases f
 have p:(cs.drop (P*k)).length=(n-P)*k:=by rw[XZ,v,Nat.sub_mul]
 have s:e.toList.length=1*k:=by simp[J]
 have a3:a<=maxLen:=by
  obtain⟨_,cp,_,R,_,_,_,a3,_⟩:=B.row.2.resolve_left (by rintro⟨B,_⟩;cases B);simp only[XX]at R;rw[R.2.2];exact a3
 have a8:∀l:World,l.heap[A]? =some (.cells e c (0,0))->∀j o,e.toList[j]? =some o->l.cell? ((⟨A,0,none⟩:Addr).add j)=some o:=λl E j o f=>by
  rw[Addr.add_lit,Xz];exact ae E (by simpa using f)
 refine aH.mk (v:=XH (a:Int)) (w':=b) (by simp[Builtin.cap_,run_underlying q.under,goInt]) ⟨_,rfl,an.dec (λd9=>?_) (λe0=>?_)⟩
 ·
  have a4:a=n:=oM
  have c8:XG .i64 (((n+1:Nat):Int)-(P:Int))=((n+1-P:Nat):Int):=by rw[wrap_i64 bb];omega
  rw[c8];have c6:(Builtin.firstCells Q.size P (.slice (XM w) P a)).run h b.drew= .ok (cs.take (P*k)).toArray b.drew:=by
   rw[hs];exact run_firstCells_some b.drew k P ⟨w,0,none⟩ P a (cs.take (P*k)) (by rw[Qy,v];omega) (λj m f=>by
    rw[Addr.add_lit,Xz];rw[Xw]at f;split at f
    ·exact a0 b.drew I j m f
    ·cases f)
  have S:=Lib.run_append_grow_zeros (P:=h) b x tn x c Q Y .i64 .i64 q.under b2 a6 hz (XM w) P a (cs.take (P*k)) c6 (n+1-P) oM oM oM oM (by rw[a7];have:(n+1-P)*bytes<=(n+1)*bytes:=Q0 _ oM;omega)
   (by rw[a7,show P+(n+1-P)=n+1 by omega];exact growslice_fits oM O)
  rw[show P+(n+1-P)=n+1 by omega]at S;have hG:=grownCap_ge b (n+1) a c;have b0:=grownCap_le_maxLen b (n+1) a c (by unfold maxLen;omega);generalize grownCap b (n+1) a c=G at S hG b0;have e3:(n+1)*k<=G*k:=Q0 _ hG;generalize a9:(cs.take (P*k)).toArray++Builtin.zeroCells Y.cells (n+1-P)++Builtin.zeroCells Y.cells (G-(n+1))=i at S;have T:i.size=G*k:=by
   rw[<-a9];simp only[Array.size_append,List.size_toArray,Qy,v,Builtin.zeroCells,Array.size_map,Array.size_range,b5];rw[Nat.sub_mul,Nat.sub_mul];omega
  have R:(cs.take (P*k)).length=P*k:=by rw[Qy,v];omega
  have c9:i.toList.take (P*k)=cs.take (P*k):=by
   rw[<-a9];simp only[Array.toList_append,XQ];rw[List.take_left' R]
  have e4:=az I;have e5:=az C;have kd:ai b (b.drew.alloc (.cells i c)):=(ak.drewN b 1).then (ak.alloc _ _);have b1:(b.drew.alloc (.cells i c)).heap[b.heap.size]? =some (.cells i c (0,0)):=heap_alloc_new b.drew _;have d0:(b.drew.alloc (.cells i c)).heap.size=b.heap.size+1:=by
   rw[show b.heap.size=b.drew.heap.size from rfl];generalize b.drew=wd;simp
  refine⟨oM,oM,aH.mk S ?_⟩;generalize b.drew.alloc (.cells i c)=L at b1 kd d0;refine⟨_,_,_,rfl,oM,oM,?_⟩;have r:(n-P)*k=n*k-P*k:=Nat.sub_mul ..;have d2:=K_ (cs:=cs) (news:=e.toList) (ROW:=i.toList) (A:=P*k) (B:=n*k) (C:=G*k) (k:=k) v (by simp[J]) a2 (by simp[T]) oM c9 rfl rfl;obtain⟨c1,c2,c3⟩:=d2;rw[fp (show G≠P by omega)];refine JJ q b1 (n:=1) (by simp only[Nat.min_def];split<;>omega) s (a8 L (kd.get C id)) (by rw[s,T];omega) W λw2 g2 M s2=>⟨_,rfl,λK d3=>?_⟩
  have N:ai w2 K:=d3.af;have U:=N.get g2 id;have d4:=N.get (M.get (kd.get I id) oM) id;refine⟨oM,oM,oM,oM,?_⟩;rw[fp (show G≠P+1 by omega),fp (show a≠P by omega)];simp only[Xz,s,Nat.one_mul]at U⊢;rw[e1];refine JJ q U (n:=n-P) (by simp only[Nat.min_def];split<;>omega) p (λj o f=>?_) (by rw[List.size_toArray,c1,p,r];omega) (λm hv=>h1 m (List.mem_of_mem_drop hv)) λw4 g4 k4 s4=>⟨_,rfl,X _ _ _ ⟨⟨?_,.inr ⟨b.heap.size,G,_,rfl,Qj _,g4,hG,b0,?_,?_⟩⟩⟩ ?_ (.inr rfl)⟩
  ·rw[Addr.add_lit]
   rw[List.getElem?_drop]at f;exact a0 K d4 _ o f
  ·simp only[QX,Qy,v,s,p,r];omega
  ·rw[p,r,List.size_toArray];exact c2
  ·rw[p,r,e2];exact c3
  ·exact ai.af ((kd.new M λH O=>.inr oM).then N|>.new k4 λH O=>.inr oM)
 ·
  have e6:Q=Q:=rfl;have a4:n+1<=a:=oM
  have r:(n-P)*k=n*k-P*k:=Nat.sub_mul ..;have e7:(n+1)*k<=a*k:=Q0 _ a4;obtain⟨c1,c2,c3⟩:=Ij (cs:=cs) (news:=e.toList) (cur:=cur.toList) (A:=P*k) (B:=n*k) (C:=a*k) (k:=k) v (by simp[J]) a2 (by simp[Z]) oM (c7 _ a2) rfl rfl;rw[fp (show a≠P+1 by omega),fp (show a≠P by omega)];refine⟨oM,oM,oM,oM,_,b3 _,aH.mk (v:=.bool false) (w':=b) ?_ ⟨_,rfl,an.tt rfl λL d1=>?_⟩⟩
  ·have T:∀b,(sizeOf c).run h b= .ok k b:=λb=>by simp[sizeOf,typeInfo,a6,hs]
   refine Lib.run_overlaps_apart (P:=h) b x g c q.under k T ⟨A,0,none⟩ ⟨w,0+(P+1)*k,none⟩ 1 1 _ _ (λc=>a5 c.symm) c c e.size cur.size (by simp[World.shape?,C]) (by simp[World.shape?,I]) (by rw[Z];omega) ?_ ?_
   ·simp[World.frozen?,C]
   ·simp[World.frozen?,C]
  have V:ai b L:=d1.af;have s1:L.heap.size=b.heap.size:=by rw[d1.heap]
  refine⟨oM,oM,oM,oM,?_⟩;simp only[Xz,e1];refine JJ q (V.get I id) (n:=n-P) (by simp only[Nat.min_def];split<;>omega) p (λj o f=>?_) (by rw[Z,p,r];omega) (λm hv=>h1 m (List.mem_of_mem_drop hv)) λw2 g2 M s2=>⟨_,rfl,oM,oM,?_⟩
  ·rw[Addr.add_lit]
   rw[List.getElem?_drop]at f;exact a0 L (V.get I id) _ o f
  refine JJ q g2 (n:=1) (by simp only[Nat.min_def];split<;>omega) s (a8 w2 (M.get (V.get C id) (λc=>a5 c.symm))) (by rw[List.size_toArray,p,r,c1,s];omega) W λK U N s3=>⟨_,rfl,X _ _ _ ⟨⟨?_,.inr ⟨w,a,_,rfl,Qj _,U,a4,a3,?_,?_⟩⟩⟩ ?_ (.inl rfl)⟩
  ·simp only[QX,Qy,v,s,p,r];omega
  ·simp only[p,r,s,Nat.one_mul];rw[List.size_toArray];exact c2
  ·simp only[p,r,s,Nat.one_mul];rw[e2];exact c3
  ·exact((ai.af V).then (M.mono λH _ c=>by rw[c];rfl)).then (N.mono λH _ c=>by rw[c];rfl)
def EI.one{h:Program}{q tn r:TypeId}{bytes:Nat}{H y:FuncId}{z:Type}{c:jB z}(I:iI h q r c.k bytes)(N:h.underlying tn=some (.int .i64)){tb:TypeId}(O:∀e w,(callFunc H e).run h w=((Extern.SlicesOverlaps.overlaps #[q,q] #[tb] e).run h w).andThen λA f=>.ok (.value A) f){w:World}{i:ZH}{j k g C:Nat}{l:Array Value}{E D:XN}{m:List z}{x:z}(n:aU c r E w i j k m)(Q:g<=j)(R:w.heap[C]? =some (.cells l r (0,0)))(F:c.rep w D x l.toList)(s:∀P,D P->P<w.heap.size/\aI i≠some P)(S:aI i≠some C)(a:(m.length+1)*bytes<=aT)(T:m.length+1<=maxLen){J:XT}(U:∀t b f K,aU c r K f t (j+1) b (m.take g++x::m.drop g)->ak (λP=>aI i=some P) w f->(∀P,K P->E P\/D P\/w.heap.size<=P)->J (.returned (.slice t (j+1) b)) f):
  EI h q tn c.k H y i j k g (XM C) 1 1 w J:=by
 have L:=n.len I.pos;obtain⟨cs,V,W,M,u⟩:=n.body;have X:=c.len F;refine EI.own I N O W Q R (by simpa using X) (c.one F) (λA Y=>M.Na A Y) S (by rw[L];exact a) (by rw[L];exact T) λt b f o v B=>?_;have a0:=v.size;refine U t b f (λP=>E P\/D P\/(w.heap.size<=P/\P<f.heap.size)) ⟨⟨_,λP=>V P\/D P,o,?_,?_⟩,?_,?_⟩ v ?_
 ·rw[XQ]
  have p:=(M.af v λP a=>(u P a).2)
  exact bK.append ((p.take g).mono λP a=>.inl a) (bK.append (xs:=[x]) (bK.one (c.mono (c.af F v λP a=>(s P a).2) λP a=>.inr a)) ((p.drop g).mono λP a=>.inl a))
 ·intro P a
  have a1:P<w.heap.size:=a.elim (λd=>n.aF P (u P d).1) λd=>(s P d).1;refine⟨a.elim (λd=>.inl (u P d).1) λd=>.inr (.inl d),?_⟩;rcases B with B|B
  ·rw[B];exact a.elim (λd=>(u P d).2) λd=>(s P d).2
  ·rw[B];intro Z;cases Z;omega
 ·intro P a
  rcases B with B|B
  ·exact .inl (n.self P (B▸a))
  ·have:=o.lt a
   rw[B]at a;cases a;exact .inr (.inr ⟨oM,this⟩)
 ·rintro P (a|a|a)
  ·have:=n.aF P a;omega
  ·have:=(s P a).1;omega
  ·exact a.2
 ·rintro P (a|a|a)
  ·exact .inl a
  ·exact .inr (.inl a)
  ·exact .inr (.inr a.1)
def Ku(P:Program)(a:TypeId):Bool:=match(P.info? a).bind (·.zero)with
 |some b=>b.cells.toList.all (·.oneCell')
 |none=>false
def Nb{e bytes:Nat}(j:iI h g o e bytes)(k:Ku h o=true)(t:b.heap[a]? =some (.cells n d4 (0,0)))(v:c+i*e<=n.size)(f:∀l P,l.heap[a]? =some (.cells P d4 (0,0))->P.size=n.size->P.toList.take c=n.toList.take c->ak (·=a) b l->l.heap.size=b.heap.size->m (.tuple #[]) l):
  aH h (Builtin.clear_ #[g] B #[.slice (some ⟨a,c,none⟩) i p]) b m s:=by
 obtain⟨I,d,w,x,J,K,u⟩:=iI.info j;have A:∀q∈d.cells.toList,q.oneCell'=true:=by
  unfold Ku at k;rw[w]at k;simp only[Option.bind_some,x,ZY]at k;exact k
 cases i with
 |zero=>exact aH.mk (w':=b) (by simp[Builtin.clear_,run_underlying j.under]) (f b n t rfl rfl (ak.refl _) rfl)
 |succ i=>
  have y:(Builtin.zeroCells d.cells (i+1)).toList.length=(i+1)*e:=by simp[Builtin.zeroCells,u]
  have C:∀q∈(Builtin.zeroCells d.cells (i+1)).toList,q.oneCell'=true:=by
   intro q r;simp only[Builtin.zeroCells,Array.toList_map,Xk,u]at r;obtain⟨z,-,rfl⟩:=r;have E:z % e<d.cells.size:=by rw[u];exact Nat.mod_lt _ j.pos
   rw[getElem!_pos d.cells (z % e) E];exact A _ sM
  have F:=run_storeCells_at h a c d4 _ 0 n b t (by rw[y];simpa using v) C;have r:(zeroValue o).run h b= .ok d b:=by simp[zeroValue,typeInfo,w,x]
  refine aH.mk (w':=b.setRow a (n.toList.take c++(Builtin.zeroCells d.cells (i+1)).toList++n.toList.drop (c+(Builtin.zeroCells d.cells (i+1)).toList.length)).toArray) ?_ (f _ _ (setRow_heap b a n _ d4 (0,0) t) ?_ ?_ (oX b a _) ?_)
  ·simp[Builtin.clear_,run_underlying j.under,r,F]
  ·have H:n.size=n.toList.length:=sM
   simp only[List.size_toArray,QX,Qy,XZ,y];rw[H]at v⊢;omega
  ·rw[XQ,List.take_left']
   simp;omega
  ·simp[World.setRow]
def EJ.own{P bytes:Nat}(p:iI h g B P bytes)(Q:Ku h B=true){cs:List Value}(m:Own b B P d a c cs)(R:i<a)(S:∀k∈cs,k.oneCell'=true)(T:a<=maxLen)(U:∀r,Own r B P d (a-1) c (cs.take (i*P)++cs.drop ((i+1)*P))->ak (λs=>aI d=some s) b r->z (.returned (.slice d (a-1) c)) r):
  EJ h g o P d a c i (XG .i64 ((i:Int)+1)) b z:=by
 have hk:=p.pos;obtain⟨iT,a5,V,hz,W,b2,b3⟩:=iI.info p;have q:=m.length;unfold maxLen at T;rcases m.cases with⟨_,h0,_,_⟩|⟨f,e,rfl,X,Y,F,H⟩
 ·omega
 have t:c<=maxLen:=by
  obtain⟨_,cp,_,I,_,_,_,t,_⟩:=m.row.2.resolve_left (by rintro⟨m,_⟩;cases m);simp only[XX]at I;rw[I.2.2];exact t
 have Z:XG .i64 ((i:Int)+1)=((i+1:Nat):Int):=by rw[wrap_i64 bb];simp
 have a6:i*P<=a*P:=Q0 _ oM;have b1:(i+1)*P<=a*P:=Q0 _ R;have e1:(i+1)*P=i*P+P:=by rw[X7,Nat.one_mul]
 have e3:(a-1)*P=a*P-P:=by rw[Nat.sub_mul,Nat.one_mul]
 have e4:(a-(i+1))*P=a*P-(i+1)*P:=Nat.sub_mul ..;have a7:a*P<=c*P:=Q0 _ Y;unfold EJ;rw[Z];simp only[Qx];refine⟨oM,oM,oM,oM,an.eG (λhe=>oM) (λu j J=>⟨oM,oM,oM,oM,?_⟩)⟩;have K:ai b j:=J.af;have s1:j.heap.size=b.heap.size:=by rw[J.heap]
 have v:=K.get X id;have w:(cs.drop ((i+1)*P)).length=(a-(i+1))*P:=by rw[XZ,q,Nat.sub_mul]
 have x:∃n,cz (XM f) (i+1) c P=some ⟨f,n,none⟩/\(a≠i+1->n=(i+1)*P):=by
  by_cases L:c=i+1
  ·exact⟨0,by unfold cz;rw[Zx L],λu=>oM⟩
  ·exact⟨_,fp L,λ_=>oM⟩
 obtain⟨n,x,a8⟩:=x;rw[x];have a0:∀y k,(cs.drop ((i+1)*P))[y]? =some k->j.cell? ((⟨f,n,none⟩:Addr).add y)=some k:=λy k l=>by
  have a9:=(Qv.1 l).1;have u:a≠i+1:=by
   intro B;rw[w,B,Nat.sub_self,Nat.zero_mul]at a9;omega
  rw[a8 u,Addr.add_lit];rw[List.getElem?_drop]at l;refine ae v ?_;rw[<-H,Xw]at l;split at l
  ·simpa using l
  ·cases l
 have hf:=run_firstCells_some (P:=h) j P (a-(i+1)) ⟨f,n,none⟩ (a-(i+1)) (c-(i+1)) _ w a0;have M:=run_storeCells_at h f (i*P) B (cs.drop ((i+1)*P)) 0 e j v (by rw[w,F];omega) (λk hv=>S k (List.mem_of_mem_drop hv));have a1:i+(a-(i+1))=a-1:=oM
 refine aH.mk (v:=.slice (XM f) (a-1) c) (w':=j.setRow f (e.toList.take (i*P)++cs.drop ((i+1)*P)++e.toList.drop (i*P+(cs.drop ((i+1)*P)).length)).toArray) ?_ ⟨_,_,_,rfl,oM,oM,oM,?_⟩
 ·have a2:i+(a-(i+1))<=c:=oM
  have a3:a<=c+1:=oM
  simp only[Nat.add_zero]at M;simp[Builtin.append_,run_underlying p.under,sizeOf,typeInfo,V,W,Builtin.lenOf,a2,a3,hf,Addr.add_lit,M,a1]
 have A:=setRow_heap j f e (e.toList.take (i*P)++cs.drop ((i+1)*P)++e.toList.drop (i*P+(cs.drop ((i+1)*P)).length)).toArray B (0,0) v;have C:=oX j f (e.toList.take (i*P)++cs.drop ((i+1)*P)++e.toList.drop (i*P+(cs.drop ((i+1)*P)).length)).toArray;have b0:e.toList.length=c*P:=by simp[F]
 have E:(e.toList.take (i*P)++cs.drop ((i+1)*P)++e.toList.drop (i*P+(cs.drop ((i+1)*P)).length)).length=c*P:=by
  simp only[QX,Qy,XZ,q,b0];omega
 have N:(e.toList.take (i*P)++cs.drop ((i+1)*P)++e.toList.drop (i*P+(cs.drop ((i+1)*P)).length)).take ((a-1)*P)=cs.take (i*P)++cs.drop ((i+1)*P):=by
  rw[show e.toList.take (i*P)=cs.take (i*P) by rw[<-H,List.take_take,X2 a6]];rw[List.take_left'];simp only[QX,Qy,XZ,q];omega
 generalize e.toList.take (i*P)++cs.drop ((i+1)*P)++e.toList.drop (i*P+(cs.drop ((i+1)*P)).length)=R1 at A C E N;generalize j.setRow f R1.toArray=w2 at A C;rw[fp (show c≠a-1 by omega)];refine Nb p Q A (by rw[List.size_toArray,E,show a-(a-1)=1 by omega];omega) λw3 a4 g3 c3 O k3 s3=>U w3 ⟨⟨?_,.inr ⟨f,c,a4,rfl,Qj _,g3,oM,t,?_,?_⟩⟩⟩ ?_
 ·simp only[QX,Qy,XZ,q];omega
 ·rw[c3,List.size_toArray,E]
 ·rw[Xz]at O;rw[O,N]
 ·exact((ai.af K).then (C.mono λs _ B=>by rw[B];rfl)).then (k3.mono λs _ B=>by rw[B];rfl)
def EJ.one{p tz k:TypeId}{bytes:Nat}{c:jB j}(t:iI h p k c.k bytes)(u:Ku h k=true){w:World}{a P b:Nat}{q:List j}(l:aU c k f w d a P q)(v:b<a)(x:a<=maxLen)(y:∀e,aU c k f e d (a-1) P (q.eraseIdx b)->ak (λg=>aI d=some g) w e->z (.returned (.slice d (a-1) P)) e):
  EJ h p tz c.k d a P b (XG .i64 ((b:Int)+1)) w z:=by
 obtain⟨cs,A,B,r,s⟩:=l.body;refine EJ.own t u B v r.Na x λe m n=>y e ⟨⟨_,A,m,?_,s⟩,l.self,λg o=>Qk (l.aF g o) n.size⟩ n;have i:=(r.af n λg o=>(s g o).2)
 rw[List.eraseIdx_eq_take_drop_succ];exact bK.append (i.take b) (i.drop (b+1))

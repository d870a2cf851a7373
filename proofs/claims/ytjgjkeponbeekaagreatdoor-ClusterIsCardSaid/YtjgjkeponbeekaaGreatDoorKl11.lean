import Derived.Test.YtjgjkeponbeekaaGreatDoorKl10
import Derived.Shelf.SlSortCmp.WholeK
import Derived.Shelf.SlMaps.Clone
import Derived.Ground.SlsfProg
import Derived.Ground.SlmcProg
import Derived.Shelf.SlGeneric
import Derived.Shelf.SlSortCmp.NoneTotal
import Derived.Laws.StructEq
import Derived.Carry
import Derived.SizedLaws
import Derived.WalkKit
import Derived.ProofKit
import Derived.OpenShut
import Derived.Deep.DeepHandedRow
import Derived.Deep.Slices
set_option maxHeartbeats 4000000
set_option linter.all false
set_option maxRecDepth 100000
open Go.IntKind renaming wrap→ZG
namespace Go.Proofs.YtjgjkeponbeekaaGreatDoor
open Go.au
def TH:jS ZP 42 3 1 8:=⟨kR,kR,dC⟩
def fD(P:List Int)(n:Int):Int:=if n<0 then 0 else max (P.getD n.toNat 0) 0
variable{e r:Int}{b1 t:List Int}{a c i p:Nat}{d u:YQ}{b:World}{o:aj}
def Tc(P:0<=e)(n:t[e.toNat]? =some r):fD t e=max r 0:=by
 unfold fD;rw[Zq oM];simp[List.getD,n]
def Rw(n:(t.length:Int)<=e):fD t e=0:=by
 unfold fD;split
 ·rfl
 ·have:t[e.toNat]? =none:=by simp;omega
  simp[List.getD,this]
def nY{i:Int}(f:Ints b d a t):
  YX 196 #[.slice d a c,ZH i] b (Ok λg h=>g= ZH (fD t i)/\b=h):=by
 refine Nq ?_;refine al.mk (λP=>?_) (λP=>al.mk (λn=>?_) (λn=>?_))
 ·have:=XV P
  exact Ok.mk ⟨by simp[fD,this],rfl⟩
 ·have n:=XV n
  exact Ok.mk ⟨by rw[Rw (by rw[<-f.len];exact n)],rfl⟩
 ·have P:=Xy P
  have n:=Xy n;obtain⟨j,e,k,rfl,o,l,p,m⟩:=f.at (i:=i) oM oM;refine⟨j,e,rfl,oM,oM,k,m,Ok.mk ⟨?_,rfl⟩⟩;rw[Tc oM l]
  congr 1
  omega
def qf(P a:List Int)(b:Nat):List Int:=(List.range b).map λ(n:Nat)=>max (fD P n) (fD a n)
def jV(n P:List Int):List Int:=qf n P (max n.length P.length)
def JF(P a:List Int)(n:Nat):qf P a (n+1)=qf P a n++[max (fD P n) (fD a n)]:=by simp[qf,List.range_succ]
def sE(P a:List Int)(n:Nat):(qf P a n).length=n:=by simp[qf]
def G_(P:World)(e:TypeId)(f:List Int)(g:Value)(a:World):Prop:=
 ∃n b c,g= .slice n b c/\Own a e 1 n b c (ints f)/\ai P a/\∀d,aD n=some d->P.heap.size<=d
def Td:(if r>e then r else e)=max e r:=oM
def AN(h:Ints b d a t)(n:Ints b u c b1):
  YX 192 #[.slice d a i,.slice u c p] b (Ok (G_ b 3 (jV t b1))):=by
 have v:=h.len;have w:=n.len;have x:=h.ef;have y:=n.ef;unfold aK at x y;refine Kx ⟨λm j P o q r=>q=(P:Int)/\P<=max a c/\m=max a c-P/\Own r 3 1 j P o (ints (qf t b1 P))/\ai b r/\∀u,aD j=some u->b.heap.size<=u,
  ⟨_,rfl,oM,rfl,Own.nil _ _ _,ak.refl _,by simp[aD]⟩,?_⟩
 rintro m j P o q _ C ⟨rfl,E,rfl,s,e,k⟩;refine al.mk (λf=>?_) (λf=>?_)
 ·have f:=XV f
  refine PC.ok (nY (h.ah e)) ?_;rintro _ _ ⟨rfl,rfl⟩;refine⟨_,rfl,PC.ok (nY (n.ah e)) ?_⟩;rintro _ _ ⟨rfl,rfl⟩;refine⟨_,rfl,PA.mk λF l H z=>?_⟩;refine LW TH (s.ah l) z ba λI J K A B g=>?_;refine⟨_,_,_,rfl,_,?_,?_,oM,rfl,?_,(e.ah l).new B ?_,?_⟩
  ·omega
  ·rw[wrap_i64 bc];simp
  ·rw[JF,<-Td];exact A
  ·intro u n;exact .inr (k u n.symm)
  ·intro u n
   rcases g with g|g
   ·exact k u (g▸n)
   ·rw[g]at n;cases n;have:=e.size;have:=l.size;omega
 ·have f:=Xy f
  have:P=max a c:=oM
  subst this;refine Ok.mk ⟨_,_,_,rfl,?_,e,k⟩;unfold jV;rw[<-v,<-w];exact s
def yB(n P:List Int):Nat->Int
 |0=>0
 |k+1=>if fD n k<fD P k then PH .i64 (yB n P k) 1 else if fD n k>fD P k then PH .i64 (yB n P k) 2 else yB n P k
def kv(n P:List Int):Int:=yB n P (max n.length P.length)
def MM(g:Ints b d a t)(h:Ints b u c b1):
  YX 193 #[.slice d a i,.slice u c p] b (Ok λq j=>q= ZH (kv t b1)/\b=j):=by
 have r:=g.len;have s:=h.len;have v:=g.ef;have w:=h.ef;unfold aK at v w;refine Np ⟨λl m o j=>∃n:Nat,o=n/\n<=max a c/\l=max a c-n/\m=yB t b1 n/\j=b,
  ⟨_,0,rfl,oM,rfl,rfl,rfl⟩,?_⟩
 rintro l m o _ x ⟨n,rfl,y,rfl,rfl,rfl⟩;refine al.mk (λf=>?_) (λf=>?_)
 ·have f:=XV f
  refine PC.ok (nY g) ?_;rintro _ _ ⟨rfl,rfl⟩;refine⟨_,rfl,PC.ok (nY h) ?_⟩;rintro _ _ ⟨rfl,rfl⟩;have k:ZG .i64 ((n:Int)+1)=((n+1:Nat):Int):=by rw[wrap_i64 bc];simp
  refine⟨_,rfl,al.mk (λP=>?_) (λP=>al.mk (λe=>?_) (λe=>?_))⟩
  ·have P:=XV P
   exact⟨_,oM,n+1,k,oM,rfl,by simp[yB,P],rfl⟩
  ·have P:=Xy P
   have e:=XV e;exact⟨_,oM,n+1,k,oM,rfl,by simp[yB,P,e],rfl⟩
  ·have P:=Xy P
   have e:=Xy e;exact⟨_,oM,n+1,k,oM,rfl,by simp[yB,P,e],rfl⟩
 ·have f:=Xy f
  have:n=max a c:=oM
  subst this;exact Ok.mk ⟨by unfold kv;rw[<-r,<-s],rfl⟩
structure jU where
 bl:Int
 lX:Int
 lu:Int
 least:Int
 deriving DecidableEq
structure bg where
 kind:Int
 dE:Int
 floor:Bool
 bw:List jU
 deriving DecidableEq
structure jm where
 aU:Int
 field:Int
 group:Int
 ET:Int
 make:Int
 deriving DecidableEq
structure aN where
 types:List (List bg)
 projs:List jm
 deriving DecidableEq
structure lx where
 aU:Int
 agg:Int
 field:Int
 op:Int
 arg:Int
 expect:Int
 key:Int
 deriving DecidableEq
structure cG where
 n:Int
 set:List Int
 deriving DecidableEq
structure mG where
 version:Int
 cells:List cG
 deriving DecidableEq
structure cC where
 ev:aj
 void:Bool
 ET:Int×Int
structure dx where
 group:Int
 value:Int
 count:Int
 deriving DecidableEq
abbrev pd(n:Int):Int:=ZG .i64 n
def within(n P a:Int):Bool:=decide (P<=n)&&decide (n<=a)
def aN.at(n:aN)(P:Int):List bg:=if within P 0 (n.types.length-1)then n.types.getD P.toNat []else []
def aN.Dw(n:aN)(P a:Int):Option bg:=
 if within P 0 (n.types.length-1)&&within a 0 ((n.at P).length-1)then(n.at P)[a.toNat]? else none
def qK(n:Int):Int:=if n=1 then 1 else if n=2 then 2 else if n=3 then 3 else if n=4 then 3 else if n=5 then 4 else 0
def lg(P:aN)(a b op arg:Int):Int:=match P.Dw a b with
 |none=>8
 |some n=>if !within op 1 5||qK op !=n.kind then 2 else if op==1&&arg==0||op==5&& !within arg 0 (n.bw.length-1)then 1 else 0
def qX(n:aN):Bool:=
 if !within n.types.length 1 8||decide (8<n.projs.length)then true else
 n.types.any λa=>!within a.length 1 8||a.any λP=>if P.kind==4 then !within P.bw.length 1 16 else decide (0<P.bw.length)
def RE(P:List bg)(a n:Int):Bool:=within a 0 (P.length-1)&&((P[a.toNat]?).map (·.kind)==some n)
def QP(n P:Int):Bool:=P==1||P==2&&within n 2 4||P==3&&n==2
def fv(n:List bg)(f:bg):Int:=
 if !within f.kind 1 4 then 2 else if !within f.dE 1 3|| !QP f.kind f.dE||f.floor&&f.kind !=1 then 1 else
 if f.bw.any λm=>decide (m.bl<0)||decide (m.lX<0)||m.lu== -1&&m.least !=0 then 1 else
 if f.bw.any λm=>m.lu != -1&& !RE n m.lu 1 then 8 else 0
def lV(P:aN)(n:jm):Int:=
 if(P.Dw n.aU n.field).isNone then 8 else
 if n.group==3&& !RE (P.at n.aU) n.ET 2||n.group !=3&&n.ET !=0 then 8 else
 if !within n.group 1 3|| !within n.make 1 5 then 2 else 0
def cm{P:Type}(n:P->Int):List P->Int
 |[]=>0
 |x::a=>if n x !=0 then n x else cm n a
def cT(n:aN):Int:=
 if qX n then 3 else
 let P:=cm (λa=>cm (fv a) a) n.types
 if P !=0 then P else cm (lV n) n.projs
def aY(n:aj):Int×Int:=(n.origin,n.seq)
def ei(a n:aj):Bool:=decide (a.aA<n.aA)||a.aA==n.aA&&(decide (a.origin<n.origin)||a.origin==n.origin&&decide (a.seq<n.seq))
def sv(n P:aj):Int:=if ei n P then-1 else if ei P n then 1 else 0
def cQ(n:aj)(P:Nat):Int:=
 if n.origin<0\/(P:Int)<=n.origin\/min n.seq n.aA<1\/min n.agg n.key<0\/n.aQ.length≠P\/n.aQ.any (λa=>decide (a<0))then 1 else
 if n.aQ.getD n.origin.toNat 0≠pd (n.seq-1)then 9 else
 if n.op<1\/5<n.op then 2 else if min n.aU n.field<0\/8<=n.aU\/8<=n.field then 8 else 0
def Bk(n P:aj):Bool:=decide (n.seq<=fD P.aQ n.origin)
def uX(n P:aj):Bool:=aY n !=aY P&& !Bk n P&& !Bk P n
structure aw where
 n:Nat
 l:List aj
def dj(n:aj):List aj->List aj
 |[]=>[n]
 |x::P=>if ei n x then n::x::P else x::dj n P
def aw.Fz(n:aw)(P:Nat):Nat:=n.l.countP λa=>a.origin==(P:Int)
def aw.vec(n:aw):List Int:=(List.range n.n).map λP=>(n.Fz P:Int)
def aw.get(n:aw)(id:Int×Int):Option aj:=n.l.find? λP=>aY P==id
def aw.top(n:aw):Int:=n.l.foldl (λP a=>max P a.aA) 0
def aw.lY(d:aw)(n:aj)(a:Nat):Bool:=
 let b:=n.aQ.getD a 0
 b==0||match d.get (a,b)with
  |none=>false
  |some P=>decide (P.aA<n.aA)&&(List.range P.aQ.length).all λc=>decide (P.aQ.getD c 0<=n.aQ.getD c 0)
def aw.add(n:aw)(P:aj):Int×aw:=
 let no:=cQ P n.n
 if no≠0 then(no,n)else
 if(n.get (aY P)).isSome then(16,n)else
 if P.seq≠(n.vec.getD P.origin.toNat 0)+1 then(9,n)else
 if(List.range n.n).any λa=>!n.lY P a then(9,n)else(0,{n with l:=dj P n.l})
def aw.fM(n:aw)(l:List aj):aw:=l.foldl (λn P=>(n.add P).2) n
def aw.missing(a:aw)(b:List Int)(n:Int):List aj:=(a.l.filter λP=>decide (max 0 (fD b P.origin)<P.seq)).take (max 0 n).toNat
def aw.keyed(n:aw)(key:Int):Option aj:=n.l.find? λP=>key !=0&&P.key==key
def dF(n:List bg):List cG:=n.map λ_=>⟨0,[]⟩
def LZ(n P:Int):Bool:=decide (n<pd (n+P))==decide (0<P)
def wj(e:List bg)(c:List cG)(n b arg:Int):Int:=
 let d:=e.getD n.toNat ⟨0,0,false,[]⟩
 let P:=c.getD n.toNat ⟨0,[]⟩
 let f:Bool:=
  if b=1 then(arg==0||LZ P.n arg)&& !(d.floor&&decide (pd (P.n+arg)<0))
  else if b=3 then decide (arg∈P.set)||decide (P.set.length<64)
  else if b=5 then(let a:=d.bw.getD arg.toNat ⟨0,0,0,0⟩;P.n==a.bl&&(decide (a.lu<0)||decide (a.least<=(c.getD a.lu.toNat ⟨0,[]⟩).n)))
  else true
 if f then 0 else 10
def pP(n:Int):List Int->List Int
 |[]=>[n]
 |y::P=>if n<y then n::y::P else if n=y then y::P else y::pP n P
def RR(c:List bg)(a:List cG)(n b arg:Int):List cG:=
 let d:=c.getD n.toNat ⟨0,0,false,[]⟩
 let P:=a.getD n.toNat ⟨0,[]⟩
 if b=1 then a.set n.toNat {P with n:=pd (P.n+arg)}
 else if b=2 then a.set n.toNat {P with n:=arg}
 else if b=3 then a.set n.toNat {P with set:=pP arg P.set}
 else if b=4 then a.set n.toNat {P with set:=P.set.filter λe=>e !=arg}
 else if b=5 then a.set n.toNat {P with n:=(d.bw.getD arg.toNat ⟨0,0,0,0⟩).lX}
 else a
def ey(P:bg)(a n:Int×Int):Bool:=
 if P.kind=2 then a.1==2&&n.1==2&&a !=n
 else if P.kind=4 then a.1==5&&n.1==5&&a !=n
 else if P.kind=3 then a==(3,n.2)&&n==(4,a.2)||a==(4,n.2)&&n==(3,a.2)
 else false
def mz(f:bg)(n P:aj):Bool:=(f.dE==2||f.dE==3&&decide (P.arg<n.arg))&&ey f (n.op,n.arg) (P.op,P.arg)&&uX n P
structure aV where
 decl:aN
 entries:List cC
 eg:List ((Int×Int)×mG)
 done:List ((Int×Int×Int)×List aj)
def aV.new(n:aN):aV:=⟨n,[],[],[]⟩
def aV.try(P:aV)(n:aj):Bool×(Int×Int)×aV:=
 if lg P.decl n.aU n.field n.op n.arg≠0 then(true,(0,0),P)else
 let c:=P.decl.at n.aU
 let b:=(n.aU,n.agg,n.field)
 match((aF P.done b).getD []).find? λe=>mz (c.getD n.field.toNat ⟨0,0,false,[]⟩) e n with
 |some e=>(true,aY e,P)
 |none=>
  let d:=aF P.eg (n.aU,n.agg)
  let a:=match d with
   |some d=>d.cells
   |none=>dF c
  if wj c a n.field n.op n.arg≠0 then(true,(0,0),P)else
  (false,(0,0),{P with
   eg:=aH P.eg (n.aU,n.agg) ⟨pd ((d.getD ⟨0,[]⟩).version+1),RR c a n.field n.op n.arg⟩
   done:=aH P.done b ((aF P.done b).getD []++[n])})
def aV.add(b:aV)(P:aj):cC×aV:=
 let n:=b.try P
 let a:cC:=⟨P,n.1,n.2.1⟩
 (a,{n.2.2 with entries:=n.2.2.entries++[a]})
def aV.state(n:aV)(P a:Int):Option mG:=aF n.eg (P,a)
def cy(n:aN)(P:List aj):aV:=P.foldl (λa b=>(a.add b).2) (aV.new n)
def kj(b:List cC)(c P d:Int)(n:Nat):List cC×Bool:=
 let own:=(b.filter λa=>a.ev.aU==c&&a.ev.agg==P).drop (max d 0).toNat
 (own.take n,decide (n<own.length))
def nN(b:List dx)(n:Int)(P:Nat):List dx×Bool:=
 let a:=b.dropWhile λc=>decide (c.group<=n)
 (a.take P,decide (P<a.length))
def jr(P:aN)(n:lx):Int:=if n.agg<0\/n.key<0\/n.expect< -1 then 1 else lg P n.aU n.field n.op n.arg
def aS(P:lx)(n:Int)(a:List Int)(b:Int):Int×aj:=
 let no:aj:=⟨0,0,0,[],0,0,0,0,0,0⟩
 if n<0\/(a.length:Int)<=n\/b<0 then(1,no)else
 if fD a n=9223372036854775807\/b=9223372036854775807 then(13,no)else
 (0,⟨n,fD a n+1,b+1,jV a [],P.aU,P.agg,P.field,P.op,P.arg,P.key⟩)
def qY(d:aN)(b:aw)(h:aV)(P start:Int)(n:lx):aj×Bool×Int:=
 let no:aj:=⟨0,0,0,[],0,0,0,0,0,0⟩
 let e:=jr d n
 if e≠0 then(no,false,e)else
 match b.keyed n.key with
 |some i=>(i,false,0)
 |none=>
  let f:=d.at n.aU
  let g:=h.state n.aU n.agg
  let a:=match g with
   |some j=>j.cells
   |none=>dF f
  if¬(n.expect= -1\/n.expect=(g.getD ⟨0,[]⟩).version)then(no,false,11)else
  if wj f a n.field n.op n.arg≠0 then(no,false,10)else
  let c:=aS n P b.vec (max b.top start)
  (c.2,decide (c.1=0),c.1)
structure dm where
 p:jm
 rows:List (Int×dx)
def lU(n:jm)(P:dx)(arg:Int):Int:=
 if n.make=1 then P.count else if n.make=2 then pd (P.value+arg)else
 if n.make=5\/P.count=1/\(n.make=3\/n.make=4)then arg else
 if n.make=3 then min P.value arg else if n.make=4 then max P.value arg else 0
def dm.add(n:dm)(e:cC)(b:Int):dm:=
 let a:=if n.p.group=1 then some e.ev.agg else if n.p.group=2 then some e.ev.arg else if n.p.group=3 then some b else none
 match a with
 |none=>n
 |some a=>
  if e.void||e.ev.aU !=n.p.aU||e.ev.field !=n.p.field then n else
  let P:=(aF n.rows a).getD ⟨0,0,0⟩
  let P:dx:=⟨a,P.value,pd (P.count+1)⟩
  {n with rows:=aH n.rows a ⟨a,lU n.p P e.ev.arg,P.count⟩}
def mM(n:dx):List dx->List dx
 |[]=>[n]
 |y::P=>if n.group<y.group then n::y::P else y::mM n P
def dm.list(n:dm):List dx:=(n.rows.map (·.2)).foldr mM []
structure jR where
 view:aV
 rows:List dm
def jR.new(n:aN):jR:=⟨aV.new n,n.projs.map λP=>⟨P,[]⟩⟩
def su(n:Option mG)(P:jm):Int:=match n with
 |none=>0
 |some n=>((n.cells[P.ET.toNat]?).map (·.n)).getD 0
def jR.add(a:jR)(n:aj):jR:=
 let P:=a.view.add n
 let c:=P.2.state n.aU n.agg
 ⟨P.2,a.rows.map λb=>b.add P.1 (su c b.p)⟩
def dR(n:aN)(P:List aj):jR:=P.foldl jR.add (jR.new n)
def fl(n:Nat)(P:List aj)(a:aj):Bool×List aj:=
 if n<=P.length\/P.any (λb=>aY b==aY a)then(false,P)else(true,dj a P)
def eR(n:aw):List aj->Option (aj×aw×List aj)
 |[]=>none
 |e::a=>if(n.add e).1=0 then some (e,(n.add e).2,a)else(eR n a).map λP=>(P.1,P.2.1,e::P.2.2)
def ej:Nat->aw->List aj->List aj->List aj×List aj
 |0,a,P,n=>(n,P)
 |k+1,a,P,n=>match eR a P with
  |none=>(n,P)
  |some (b,c,d)=>ej k c d (n++[b])
def bC(P:aw)(n:List aj):List aj×List aj:=
 let n:=n.filter λa=>(P.get (aY a)).isNone
 ej (n.length+1) P n []
structure bt where
 kind:Int
 bl:Int
 lX:Int
 vec:List Int
 events:List aj
def gR(n:bt)(P:Int):Int:=if 0<n.events.length then 8 else if(n.vec.length:Int)≠P then 1 else if n.vec.any (λa=>decide (a<0))then 1 else 0
def fk(P:bt)(a:Nat)(n:Int):Int:=if 0<P.vec.length then 8 else if P.events.length<1\/n<(P.events.length:Int)then 3 else cm (λb=>cQ b a) P.events
def fH(m:bt)(a:Nat)(P:Int):Int:=
 let n:=!(decide (0<=m.bl)&&decide (m.bl<a))|| !(decide (0<=m.lX)&&decide (m.lX<a))||m.bl==m.lX
 if m.kind=3 then(if n then 1 else fk m a P)
 else if m.kind=1\/m.kind=2\/m.kind=4 then(if n then 1 else gR m a)
 else 2
def kh(n:aw)(P a:Int):bt:=⟨1,P,a,n.vec,[]⟩
def zH(n:aw)(P a:Int):bt:=⟨4,P,a,n.vec,[]⟩
def j_(c:aw)(n:Int)(P:bt)(a:Int):List bt:=
 if P.kind≠1/\P.kind≠2 then []else
 let d:=c.missing P.vec (max 1 (min a 32))
 let f:List bt:=if 0<d.length then [⟨3,n,P.bl,[],d⟩]else []
 let e:=kv P.vec c.vec
 let g:List bt:=if P.kind=1/\(e=2\/e=3)then [⟨2,n,P.bl,c.vec,[]⟩]else []
 let b:=f++g
 if b.isEmpty then [zH c n P.bl]else b
def Gj:(if r<e then r else e)=min e r:=oM
def Sg{D:ZN}(i:Row aI 8 b D d a t):
  YX 184 #[.slice d a c,.func (.func 183) #[] #[]] b (Ok λg n=>g= .bool (t.any λP=>decide (P<0))/\b=n):=by
 have w:=i.len;have q:=i.ef;unfold aK at q;refine js (PC.ok (φ:=λg n=>(∃f:Int,g= ZH f/\(0<=f↔(t.any λP=>decide (P<0))=true))/\b=n) (kC ⟨λl f n=>∃e:Nat,f=e/\e<=a/\l=a-e/\((t.take e).any λP=>decide (P<0))=false/\b=n,
  ⟨_,0,rfl,Qj _,rfl,sM,rfl⟩,?_⟩) ?_)
 ·rintro l f _ _ ⟨e,rfl,x,rfl,j,rfl⟩
  refine al.dec (λr=>?_) (λr=>?_)
  ·obtain⟨s,k,m,rfl,o,_,u⟩:=i.mP (i:=e) oM
   refine⟨s,k,rfl,oM,oM,_,u,183,_,_,rfl,kR,PC.ok (φ:=λg n=>g= .bool (decide (m<0))/\b=n) (zh (Ok.mk ⟨rfl,rfl⟩)) ?_⟩;rintro _ _ ⟨rfl,rfl⟩;refine⟨_,rfl,al.dec (λp=>?_) (λp=>?_)⟩
   ·exact Ok.mk ⟨⟨_,rfl,λ_=>List.any_eq_true.2 ⟨m,QZ o,by simpa using p⟩,λ_=>oM⟩,rfl⟩
   ·refine⟨_,oM,e+1,aq oM,oM,rfl,?_,rfl⟩
    rw[Qw,o,List.any_append,j];simp;omega
  ·rw[Qz oM]at j
   exact Ok.mk ⟨⟨_,rfl,λh=>oM,λh=>by rw[j]at h;cases h⟩,rfl⟩
 ·rintro _ _ ⟨⟨f,rfl,v⟩,rfl⟩
  exact⟨_,rfl,Ok.mk ⟨by cases h:(t.any λP=>decide (P<0))<;>simp[h]at v⊢<;>omega,rfl⟩⟩
def xZ{D:ZN}(k:Row aI 8 b D d a o.aQ)(I:i<4611686018427387904):
  YX 113 #[.agg (aE o d a c).toArray,ZH (i:Int)] b (Ok λh j=>h= ZH (cQ o i)/\ai b j):=by
 have J:=k.len;have x:=k.ef;unfold aK at x;refine CU (PA.mk λy l K f=>⟨_,ae f rfl,?_⟩);have e:(o.origin<0\/(i:Int)<=o.origin\/min o.seq o.aA<1\/min o.agg o.key<0\/o.aQ.length≠i\/o.aQ.any (λp=>decide (p<0))=true)->Ok (λh j=>h= ZH (cQ o i)/\ai b j) (.returned (ZH 1)) y:=λn=>by
  refine Ok.mk ⟨?_,l⟩;unfold cQ;rw[Zx n]
 refine al.dec (λn=>e (.inl n)) λL=>⟨_,ae f rfl,al.dec (λn=>e (.inr (.inl n))) λM=>⟨_,ae f rfl,_,ae f rfl,?_⟩⟩
 with_reducible (conv=>whnf)
 rw[Gj];refine al.dec (λn=>e (.inr (.inr (.inl n)))) λN=>⟨_,ae f rfl,_,ae f rfl,?_⟩
 with_reducible (conv=>whnf)
 rw[Gj];refine al.dec (λn=>e (.inr (.inr (.inr (.inl n))))) λO=>⟨_,_,_,ae f rfl,al.dQ (λn=>e (.inr (.inr (.inr (.inr (.inl oM)))))) λQ=>⟨_,_,_,ae f rfl,PC.ok (Sg (k.ah l)) ?_⟩⟩
 rintro _ _ ⟨rfl,rfl⟩;refine⟨_,rfl,al.mk (λn=>e (.inr (.inr (.inr (.inr (.inr n)))))) λz=>⟨_,_,_,ae f rfl,_,ae f rfl,?_⟩⟩;obtain⟨A,q,B,rfl,C,R,E⟩:=(k.ah l).mP (i:=o.origin.toNat) oM;have t:¬(o.origin<0\/(i:Int)<=o.origin\/min o.seq o.aA<1\/min o.agg o.key<0\/o.aQ.length≠i\/o.aQ.any (λp=>decide (p<0))=true):=by
  rw[z];simp only[Bool.false_eq_true,or_false,not_or];omega
 refine⟨A,q,rfl,oM,oM,_,E,_,ae f rfl,λu v=>?_⟩;have F:ai b u:=l.then v.af;have g:=(br.af (S:=λ_=>False) v).get f id;have w:o.aQ.getD o.origin.toNat 0=B:=by rw[QQ,C];rfl
 have P:∀r:Int,cQ o i=r->Ok (λh j=>h= ZH (cQ o i)/\ai b j) (.returned (ZH r)) u:=λr n=>Ok.mk ⟨by rw[n],F⟩;refine al.dQ (λn=>P 9 (by unfold cQ;rw[Zq t,w,Zx n])) λH=>⟨_,ae g rfl,?_⟩
 have s:cQ o i=if o.op<1\/5<o.op then 2 else if min o.aU o.field<0\/8<=o.aU\/8<=o.field then 8 else 0:=by
  unfold cQ;rw[Zq t,w,Zq (by simpa using H)]
 refine al.dec (λn=>P 2 (by rw[s,Zx (.inl n)])) λS=>⟨_,ae g rfl,al.dec (λn=>P 2 (by rw[s,Zx (.inr n)])) λT=>⟨_,ae g rfl,_,ae g rfl,?_⟩⟩
 with_reducible (conv=>whnf)
 rw[Gj];have m:cQ o i=if min o.aU o.field<0\/8<=o.aU\/8<=o.field then 8 else 0:=by rw[s,Zq oM]
 refine al.dec (λn=>P 8 (by rw[m,Zx (.inl n)])) λU=>⟨_,ae g rfl,al.dec (λn=>P 8 (by rw[m,Zx (.inr (.inl n))])) λV=>⟨_,ae g rfl,al.dec (λn=>P 8 (by rw[m,Zx (.inr (.inr n))])) λW=>P 0 (by rw[m,Zq oM])⟩⟩
end Go.Proofs.YtjgjkeponbeekaaGreatDoor
namespace Go.au
open Go
def Wg(P n:Value):Bool:=match P with
 | .int a _=>match n with
  | .int b _=>decide (b=a)
  |_=>false
 | .bool _=>match n with
  | .bool _=>true
  |_=>false
 | .string _=>match n with
  | .string _=>true
  |_=>false
 | .slice _ _ _=>match n with
  | .slice _ _ _=>true
  |_=>false
 | .pointer _=>match n with
  | .pointer _=>true
  |_=>false
 | .map _=>match n with
  | .map _=>true
  |_=>false
 |_=>true
def UN:List Value->List Value->Bool
 |[],[]=>true
 |z::n,P::a=>Wg z P&&UN n a
 |_,_=>false
def Sw(z n:Value):Bool:=match z with
 | .agg P=>match n with
  | .agg cs=>UN P.toList cs.toList
  |_=>false
 |z=>Wg z n
variable{l:Array Value}{a c:Nat}{C:Nat×Nat}{h:Program}{g q:TypeId}{b9 v:Value}{M:Value->Prop}{b:World}{y:ZU}
def Rt{φ:Value->Prop}(P:Wg v b9=true)(n:φ b9):OO v φ:=by
 unfold OO
 cases v<;>cases b9<;>simp[Wg]at P<;>first
  |exact⟨_,n⟩
  |exact⟨_,_,_,n⟩
  |(subst P;exact⟨_,n⟩)
def LO:∀{P cs:List Value} {φ:List Value->Prop},UN P cs=true->φ cs->Qu P φ
 |[],[],φ,_,a=>a
 |[],_::_,φ,n,_=>by simp[UN]at n
 |_::_,[],φ,n,_=>by simp[UN]at n
 |z::P,b::d,φ,n,a=>by
  simp only[UN,QK]at n;exact Rt (φ:=λb=>Qu P λc=>φ (b::c)) n.1 (LO (φ:=λc=>φ (b::c)) n.2 a)
def bT(n:Sw v b9=true)(P:M b9):uc v M:=by
 unfold uc;split
 ·rename_i c
  cases b9<;>simp[Sw]at n
  rename_i cs;exact LO (φ:=λa=>M (.agg a.toArray)) n (by simpa using P)
 ·rename_i b
  refine Rt ?_ P
  cases v<;>first|exact n|exact Zz rfl (b _)
def yA{b:World}{c:Addr}{d:Prop}:∀{cs:List Value} {n:Nat},(∀P v,cs[P]? =some v->b.cell? (c.add (n+P))=some v)->d->iy b c n cs d
 |[],n,_,a=>a
 |v::h,n,e,a=>⟨e 0 v rfl,yA (λP f g=>by have:=e (P+1) f (by simpa using g);rwa [show n+1+P=n+(P+1) by omega]) a⟩
def ia(n:Program)(P:TypeId)(cs:List Value):Bool:=tV n P&&(match dG n P with
 | .agg a=>Nat.beq (lS n P) a.size&&UN a.toList cs
 |_=>false)&&Nat.beq cs.length (lS n P)&&cs.all Value.oneCell'
def LP{cs:List Value}(e:ia h g cs=true)(i:∀P d,cs[P]? =some d->b.cell? ⟨a,c+P,none⟩=some d)(j:M (.agg cs.toArray)):
  ig h g (.pointer (some ⟨a,c,none⟩)) b M:=by
 simp only[ia,QK]at e;obtain⟨⟨⟨k,n⟩,m⟩,o⟩:=e;unfold ig;simp only[k]
 revert n
 cases dG h g<;>simp only[Bool.false_eq_true,false_implies]
 rename_i p;intro n;simp only[QK]at n;simp only[n.1];exact LO (φ:=λf=>iy b ⟨a,c,none⟩ 0 f (M (.agg f.toArray))) n.2 (yA (λP d l=>by rw[Xz,Addr.add_lit];exact i P d l) j)
def ar{cs:List Value}(n:ia h g cs=true)(P:b.heap[a]? =some (.cells cs.toArray q C))(c:M (.agg cs.toArray)):
  ig h g (ZL a) b M:=LP n (λe f d=>ae P (by rw[Xz];simpa using d)) c
def UB{cs:List Value}(d:ia h g cs=true)(e:b.heap[a]? =some (.cells l q C))(f:∀n P,cs[n]? =some P->l[c+n]? =some P)(i:M (.agg cs.toArray)):
  ig h g (.pointer (some ⟨a,c,none⟩)) b M:=LP d (λn P j=>ae e (f n P j)) i
def bA{P a k:Nat}{es:List Value}(d:ia h g es=true)(e:es.length=k)(f:∀n,n<k->b.cell? ⟨P,a+n,none⟩=es[n]?)(i:M (.agg es.toArray)):
  ig h g (.pointer (some ⟨P,a,none⟩)) b M:=LP d (λn j c=>by rw[f n (by rw[<-e];exact(Qv.1 c).1)];exact c) i
def EO{b d:Nat}{g:TypeId}{h:ZU}:∀(a:List Value) (P:Nat) {n:World} {cs:Array Value},n.heap[b]? =some (.cells cs g (0,0))->d+P+a.length<=cs.size->
  (∀c,ak (·=b) n c->c.heap.size=n.heap.size->c.heap[b]? =some (.cells (Cx cs (d+P) a) g (0,0))->h c)->jf ⟨b,d,none⟩ P a n h
 |[],P,n,cs,e,i,f=>f n (ak.refl _) rfl e
 |v::a,P,n,cs,e,i,f=>by
  unfold jf;rw[Addr.add_lit];rw[Xq]at i;exact PS.mk e oM λr j k l=>EO a (P+1) l be λm o p q=>f m (j.then o) (p.trans k) q
def UO{cs:List Value}(P:ia h g cs=true)(d:b.heap[a]? =some (.cells l q (0,0)))(o:c+cs.length<=l.size)(e:∀n,ak (·=a) b n->n.heap.size=b.heap.size->n.heap[a]? =some (.cells (Cx l c cs) q (0,0))->y n):lr h g (.pointer (some ⟨a,c,none⟩)) (.agg cs.toArray) b y:=by
 simp only[ia,QK]at P;obtain⟨⟨⟨f,p⟩,i⟩,j⟩:=P;unfold lr;have k:Nat.beq cs.toArray.size (lS h g)=true:=by simpa using i
 have m:cs.toArray.toList.all Value.oneCell'=true:=by simpa using j
 simp only[f,k,m];exact EO cs 0 d oM e
def az{cs:List Value}(P:ia h g cs=true)(c:b.heap[a]? =some (.cells l q (0,0)))(d:cs.length=l.size)(e:∀n,ak (·=a) b n->n.heap.size=b.heap.size->n.heap[a]? =some (.cells cs.toArray q (0,0))->y n):lr h g (ZL a) (.agg cs.toArray) b y:=
 UO P c oM λn f i j=>e n f i (by rw[j,EN d])
end Go.au
namespace Go.Proofs
open Go.Shelf
def Tryz.OB:Go.Shelf.Ren:=⟨λ|6=>154|15=>218|14=>217|28=>276|29=>277|20=>268|21=>269|22=>270|23=>271|24=>272|25=>273|26=>274|27=>275|46=>316|47=>317|48=>318|49=>319|50=>320|57=>348|n=>n,λ|22=>59|24=>63|25=>260|3=>3|39=>324|0=>0|53=>365|55=>367|4=>4|46=>359|45=>358|50=>273|5=>5|9=>9|66=>400|70=>375|76=>426|77=>427|n=>n,λ|n=>n⟩
def Tryz.TI:Go.Proofs.SlLaysF0.n6 Tryz.prog Tryz.OB:={
 mixed:=by kernel_rfl
 f6:=⟨Tryz.f154.name,am,Tryz.func154.trans ac⟩
 f14:=⟨Tryz.f217.name,am,Tryz.func217.trans ac⟩
 f15:=Tryz.func218.trans ac
 f20:=⟨Tryz.f268.name,am,Tryz.func268.trans ac⟩
 f21:=⟨Tryz.f269.name,am,Tryz.func269.trans ac⟩
 f22:=⟨Tryz.f270.name,am,Tryz.func270.trans ac⟩
 f23:=⟨Tryz.f271.name,am,Tryz.func271.trans ac⟩
 f24:=⟨Tryz.f272.name,am,Tryz.func272.trans ac⟩
 f25:=⟨Tryz.f273.name,am,Tryz.func273.trans ac⟩
 f26:=⟨Tryz.f274.name,am,Tryz.func274.trans ac⟩
 f27:=⟨Tryz.f275.name,am,Tryz.func275.trans ac⟩
 f28:=Tryz.func276.trans ac
 f29:=Tryz.func277.trans ac
 f46:=⟨Tryz.f316.name,am,Tryz.func316.trans ac⟩
 f47:=Tryz.func317.trans ac
 f48:=Tryz.func318.trans ac
 f49:=⟨Tryz.f319.name,am,Tryz.func319.trans ac⟩
 f50:=⟨Tryz.f320.name,am,Tryz.func320.trans ac⟩
 f57:=⟨Tryz.f348.name,am,Tryz.func348.trans ac⟩
 t0:=Tryz.underlying0
 a0:=Tryz.isAgg0
 z0:=Tryz.sizeOf0
 v0:=Tryz.zeroValue0
 t3:=Tryz.underlying3
 a3:=Tryz.isAgg3
 z3:=Tryz.sizeOf3
 v3:=Tryz.zeroValue3
 t4:=Tryz.underlying4
 a4:=Tryz.isAgg4
 z4:=Tryz.sizeOf4
 v4:=Tryz.zeroValue4
 t5:=Tryz.underlying5
 a5:=Tryz.isAgg5
 z5:=Tryz.sizeOf5
 v5:=Tryz.zeroValue5
 t9:=Tryz.underlying9
 a9:=Tryz.isAgg9
 z9:=Tryz.sizeOf9
 v9:=Tryz.zeroValue9
 t22:=Tryz.underlying59
 a22:=Tryz.isAgg59
 z22:=Tryz.sizeOf59
 v22:=Tryz.zeroValue59
 t25:=Tryz.underlying260
 a25:=Tryz.isAgg260
 z25:=Tryz.sizeOf260
 v25:=Tryz.zeroValue260
 t39:=Tryz.underlying324
 a39:=Tryz.isAgg324
 z39:=Tryz.sizeOf324
 v39:=Tryz.zeroValue324
 t45:=Tryz.underlying358
 a45:=Tryz.isAgg358
 z45:=Tryz.sizeOf358
 v45:=Tryz.zeroValue358
 t46:=Tryz.underlying359
 a46:=Tryz.isAgg359
 z46:=Tryz.sizeOf359
 v46:=Tryz.zeroValue359
 t50:=Tryz.underlying273
 a50:=Tryz.isAgg273
 z50:=Tryz.sizeOf273
 v50:=Tryz.zeroValue273
 t53:=Tryz.underlying365
 a53:=Tryz.isAgg365
 z53:=Tryz.sizeOf365
 v53:=Tryz.zeroValue365
 t55:=Tryz.underlying367
 a55:=Tryz.isAgg367
 z55:=Tryz.sizeOf367
 v55:=Tryz.zeroValue367
 t66:=Tryz.underlying400
 a66:=Tryz.isAgg400
 z66:=Tryz.sizeOf400
 v66:=Tryz.zeroValue400
 t70:=Tryz.underlying375
 a70:=Tryz.isAgg375
 z70:=Tryz.sizeOf375
 v70:=Tryz.zeroValue375
 t76:=Tryz.underlying426
 a76:=Tryz.isAgg426
 z76:=Tryz.sizeOf426
 v76:=Tryz.zeroValue426
 t77:=Tryz.underlying427
 a77:=Tryz.isAgg427
 z77:=Tryz.sizeOf427
 v77:=Tryz.zeroValue427}
def Tryz.OC:Go.Shelf.Ren:=⟨λ|6=>406|15=>218|14=>408|28=>276|29=>277|20=>409|21=>410|22=>411|23=>412|24=>413|25=>414|26=>415|27=>416|46=>417|47=>317|48=>318|49=>418|50=>419|57=>420|n=>n,λ|22=>51|24=>135|25=>466|3=>3|39=>324|0=>0|53=>365|55=>367|4=>4|46=>359|45=>358|50=>273|5=>5|9=>9|66=>400|70=>375|76=>426|77=>427|n=>n,λ|n=>n⟩
def Tryz.TJ:Go.Proofs.SlLaysF0.n6 Tryz.prog Tryz.OC:={
 mixed:=by kernel_rfl
 f6:=⟨Tryz.f406.name,am,Tryz.func406.trans ac⟩
 f14:=⟨Tryz.f408.name,am,Tryz.func408.trans ac⟩
 f15:=Tryz.func218.trans ac
 f20:=⟨Tryz.f409.name,am,Tryz.func409.trans ac⟩
 f21:=⟨Tryz.f410.name,am,Tryz.func410.trans ac⟩
 f22:=⟨Tryz.f411.name,am,Tryz.func411.trans ac⟩
 f23:=⟨Tryz.f412.name,am,Tryz.func412.trans ac⟩
 f24:=⟨Tryz.f413.name,am,Tryz.func413.trans ac⟩
 f25:=⟨Tryz.f414.name,am,Tryz.func414.trans ac⟩
 f26:=⟨Tryz.f415.name,am,Tryz.func415.trans ac⟩
 f27:=⟨Tryz.f416.name,am,Tryz.func416.trans ac⟩
 f28:=Tryz.func276.trans ac
 f29:=Tryz.func277.trans ac
 f46:=⟨Tryz.f417.name,am,Tryz.func417.trans ac⟩
 f47:=Tryz.func317.trans ac
 f48:=Tryz.func318.trans ac
 f49:=⟨Tryz.f418.name,am,Tryz.func418.trans ac⟩
 f50:=⟨Tryz.f419.name,am,Tryz.func419.trans ac⟩
 f57:=⟨Tryz.f420.name,am,Tryz.func420.trans ac⟩
 t0:=Tryz.underlying0
 a0:=Tryz.isAgg0
 z0:=Tryz.sizeOf0
 v0:=Tryz.zeroValue0
 t3:=Tryz.underlying3
 a3:=Tryz.isAgg3
 z3:=Tryz.sizeOf3
 v3:=Tryz.zeroValue3
 t4:=Tryz.underlying4
 a4:=Tryz.isAgg4
 z4:=Tryz.sizeOf4
 v4:=Tryz.zeroValue4
 t5:=Tryz.underlying5
 a5:=Tryz.isAgg5
 z5:=Tryz.sizeOf5
 v5:=Tryz.zeroValue5
 t9:=Tryz.underlying9
 a9:=Tryz.isAgg9
 z9:=Tryz.sizeOf9
 v9:=Tryz.zeroValue9
 t22:=Tryz.underlying51
 a22:=Tryz.isAgg51
 z22:=Tryz.sizeOf51
 v22:=Tryz.zeroValue51
 t25:=Tryz.underlying466
 a25:=Tryz.isAgg466
 z25:=Tryz.sizeOf466
 v25:=Tryz.zeroValue466
 t39:=Tryz.underlying324
 a39:=Tryz.isAgg324
 z39:=Tryz.sizeOf324
 v39:=Tryz.zeroValue324
 t45:=Tryz.underlying358
 a45:=Tryz.isAgg358
 z45:=Tryz.sizeOf358
 v45:=Tryz.zeroValue358
 t46:=Tryz.underlying359
 a46:=Tryz.isAgg359
 z46:=Tryz.sizeOf359
 v46:=Tryz.zeroValue359
 t50:=Tryz.underlying273
 a50:=Tryz.isAgg273
 z50:=Tryz.sizeOf273
 v50:=Tryz.zeroValue273
 t53:=Tryz.underlying365
 a53:=Tryz.isAgg365
 z53:=Tryz.sizeOf365
 v53:=Tryz.zeroValue365
 t55:=Tryz.underlying367
 a55:=Tryz.isAgg367
 z55:=Tryz.sizeOf367
 v55:=Tryz.zeroValue367
 t66:=Tryz.underlying400
 a66:=Tryz.isAgg400
 z66:=Tryz.sizeOf400
 v66:=Tryz.zeroValue400
 t70:=Tryz.underlying375
 a70:=Tryz.isAgg375
 z70:=Tryz.sizeOf375
 v70:=Tryz.zeroValue375
 t76:=Tryz.underlying426
 a76:=Tryz.isAgg426
 z76:=Tryz.sizeOf426
 v76:=Tryz.zeroValue426
 t77:=Tryz.underlying427
 a77:=Tryz.isAgg427
 z77:=Tryz.sizeOf427
 v77:=Tryz.zeroValue427}
def Tryz.LM:Go.Shelf.Ren:=⟨λ|5=>279|7=>321|n=>n,λ|23=>267|25=>3|3=>135|4=>4|20=>20|n=>n,λ|n=>n⟩
def Tryz.UC:Go.Proofs.SlLaysW.n5 Tryz.prog Tryz.LM:={
 mixed:=by kernel_rfl
 f5:=⟨Tryz.f279.name,am,Tryz.func279.trans ac⟩
 f7:=Tryz.func321.trans ac
 t4:=Tryz.underlying4
 a4:=Tryz.isAgg4
 z4:=Tryz.sizeOf4
 v4:=Tryz.zeroValue4
 t20:=Tryz.underlying20
 a20:=Tryz.isAgg20
 z20:=Tryz.sizeOf20
 v20:=Tryz.zeroValue20
 t23:=Tryz.underlying267
 a23:=Tryz.isAgg267
 z23:=Tryz.sizeOf267
 v23:=Tryz.zeroValue267}
end Go.Proofs
namespace Go.Proofs.YtjgjkeponbeekaaGreatDoor
open Go.au Go.Sort
def aW(n:aj)(P:YQ)(a b:Nat):ia ZP 63 (aE n P a b)=true:=kR
def rL(n:aj)(P:YQ)(a b:Nat):Sw (dG ZP 63) (.agg (aE n P a b).toArray)=true:=kR
def G(n P:World):Prop:=∃a b,P=grow (n.drewN a) b
variable{N e r:Int}{d4:Int×Int}{h1:List ((Int×Int)×aj)}{J e0:List aj}{a c i p:Nat}{f:ZN}{c8:Obj}{d u:YQ}{g:TypeId}{a6 b k:World}{y:ZU}{O o:aj}{F:aw}
def G.then(d:G b k)(e:G k a6):G b a6:=by
 obtain⟨n,P,rfl⟩:=d;obtain⟨a,c,rfl⟩:=e;exact⟨n+a,P++c,by show grow (grow ((b.drewN n).drewN a) P) c=_;rw[grow_grow,World.drewN_drewN]⟩
def G.af{S:ZN}(n:G b k):ak S b k:=by
 obtain⟨d,P,rfl⟩:=n;refine⟨rfl,rfl,rfl,by simp[grow],λa c _=>?_⟩;show(b.heap++P)[a]? =_;rw[Array.getElem?_append_left c]
def G.drew(n:br b k):G b k:=by obtain⟨P,rfl⟩:=n;exact⟨P,#[],sM⟩
def PA.VX(P:∀n,G b n->n.heap.size=b.heap.size+1->n.heap[b.heap.size]? =some c8->y n):PA b c8 y:=
 P (b.alloc c8) ⟨0,#[c8],by rw[alloc_eq_grow];rfl⟩ sM (heap_alloc_new b c8)
def isNaN:YX 278 #[ZH e] b (Ok λn P=>n= .bool false/\b=P):=zl (Ok.mk ⟨sM,rfl⟩)
def JD(n P:Int):Int:=if n<P then-1 else if P<n then 1 else 0
def gM:YX 220 #[ZH e,ZH r] b (Ok λa c=>a= ZH (JD e r)/\b=c):=by
 refine uN (PC.ok isNaN ?_);rintro _ _ ⟨rfl,rfl⟩;refine⟨_,rfl,PC.ok isNaN ?_⟩;rintro _ _ ⟨rfl,rfl⟩;refine⟨_,rfl,al.ff rfl (al.ff rfl (al.dec (λn=>Ok.mk ⟨by unfold JD;rw[Zx n],rfl⟩) (λn=>al.dec (λP=>Ok.mk ⟨by unfold JD;rw[Zq n,Zx P],rfl⟩) (λP=>Ok.mk ⟨by unfold JD;rw[Zq n,Zq P],rfl⟩))))⟩
def MN:List Int->Int
 |[]=>0
 |x::n=>if x≠0 then x else MN n
def Pb(q:b.heap[a]? =some (.cells #[ZH e,ZH r,ZH N] g (0,0))):
  YX 219 #[.slice (ZM a) 3 3] b (Ok λh d=>h= ZH (MN [e,r,N])/\b=d):=by
 refine FY ⟨λk c d=>∃n:Nat,c=n/\n<=3/\k=3-n/\MN [e,r,N]=MN ([e,r,N].drop n)/\b=d,⟨_,0,rfl,oM,rfl,rfl,rfl⟩,?_⟩;rintro k c _ _ ⟨n,rfl,w,rfl,i,rfl⟩;refine al.dec (λs=>?_) (λs=>?_)
 ·have t:∀f:Int,[e,r,N][n]? =some f->∃l m,(ZM a:YQ)=some ⟨l,m,none⟩/\(0:Int)<=n/\(n:Int)<((3:Nat):Int)/\∃j:Int,b.cell? ⟨l,m+Int.toNat n,none⟩=some (ZH j)/\al (j !=0) (Ok (λh d=>h= ZH (MN [e,r,N])/\b=d) (.returned (ZH j)) b) (∃o,o<3-n/\∃c:Nat,ZG .i64 ((n:Int)+1)=c/\c<=3/\o=3-c/\MN [e,r,N]=MN ([e,r,N].drop c)/\b=b):=by
   intro f P;have p:[e,r,N].drop n=f::[e,r,N].drop (n+1):=by
    rw[X4 be];congr 1;simpa using(Qv.1 P).2
   refine⟨a,0,rfl,oM,oM,f,ae q ?_,al.dQ (λu=>Ok.mk ⟨?_,rfl⟩) (λv=>⟨_,oM,n+1,aq oM,oM,rfl,?_,rfl⟩)⟩
   ·rw[Xz]
    match n,P with
    |0,P=>simp at P;simp[P]
    |1,P=>simp at P;simp[P]
    |2,P=>simp at P;simp[P]
    |n+3,P=>simp at P
   ·rw[i,p,MN,Zx u]
   ·rw[i,p,MN,Zq (by simpa using v)]
  have P:n<[e,r,N].length:=by simp;omega
  exact t [e,r,N][n] (by simp[P])
 ·obtain rfl:n=3:=oM
  exact Ok.mk ⟨by rw[i];rfl,rfl⟩
def Hw(n P:aj):MN [JD n.aA P.aA,JD n.origin P.origin,JD n.seq P.seq]=sv n P:=by
 unfold sv ei JD MN MN MN MN
 by_cases d:n.aA<P.aA
 ·simp[d]
 by_cases g:P.aA<n.aA
 ·simp[d,g];omega
 have a:n.aA=P.aA:=oM
 by_cases e:n.origin<P.origin
 ·simp[a,e]
 by_cases h:P.origin<n.origin
 ·simp[a,e,h];omega
 have b:n.origin=P.origin:=oM
 by_cases c:n.seq<P.seq
 ·simp[a,b,c]
 by_cases f:P.seq<n.seq
 ·simp[a,b,c,f]
 ·simp[a,b,c,f]
def Cu:YX 155 #[.agg (aE o d a c).toArray,.agg (aE O u i p).toArray] b (Ok λh j=>h= ZH (sv o O)/\G b j):=by
 refine wN (PA.VX λs k t l=>PA.VX λv f w m=>λx q=>⟨λ_=>False,?_⟩);have n:=G.drew q;have P:=(n.af (S:=λ_=>False)).get ((f.af (S:=λ_=>False)).get l id) id;have e:=(n.af (S:=λ_=>False)).get m id;refine⟨_,ae P rfl,_,ae e rfl,id,_,ae P rfl,id,_,ae e rfl,id,_,ae P rfl,id,_,ae e rfl,PC.ok gM ?_⟩;rintro _ _ ⟨rfl,rfl⟩;refine⟨_,rfl,ak.refl _,PC.ok gM ?_⟩;rintro _ _ ⟨rfl,rfl⟩;refine⟨_,rfl,ak.refl _,PC.ok gM ?_⟩;rintro _ _ ⟨rfl,rfl⟩;refine⟨_,rfl,ak.refl _,PA.VX λy g z r=>⟨g.af,PC.ok (Pb r) ?_⟩⟩;rintro _ _ ⟨rfl,rfl⟩;exact⟨_,rfl,ak.refl _,Ok.mk ⟨by rw[Hw],((k.then f).then n).then g⟩⟩
structure Rq where
 e:aj
 a:YQ
 n:Nat
 c:Nat
instance:Inhabited Rq:=⟨⟨⟨0,0,0,[],0,0,0,0,0,0⟩,none,0,0⟩⟩
def encS(n:Rq):List Value:=aE n.e n.a n.n n.c
def Rr(P:Rq):∀a∈encS P,a.oneCell'=true:=by
 intro b n;simp only[encS,aE,Q2,List.not_mem_nil,or_false]at n;rcases n with rfl|rfl|rfl|rfl|rfl|rfl|rfl|rfl|rfl|rfl<;>rfl
def zY(n P:Rq):ltOf (λn P:Rq=>sv n.e P.e) n P=ei n.e P.e:=by
 unfold ltOf sv
 cases a:ei n.e P.e
 ·cases b:ei P.e n.e<;>simp[a,b]
 ·simp[a]
def jq:ei o O=true↔o.aA<O.aA\/o.aA=O.aA/\(o.origin<O.origin\/o.origin=O.origin/\o.seq<O.seq):=by simp[ei]
def ua:ei o O=false↔¬(o.aA<O.aA\/o.aA=O.aA/\(o.origin<O.origin\/o.origin=O.origin/\o.seq<O.seq)):=by rw[<-jq];simp
def VY:SWO (ltOf λn P:Rq=>sv n.e P.e) where
 irrefl n:=by rw[zY,ua];omega
 trans n P z h1 h2:=by rw[zY,jq]at*;omega
 ntrans n P z h1 h2:=by rw[zY,ua]at*;omega
def JE{c:World}{D:ZN}:∀{a:List aj} {cs:List Value},bK jB c D a cs->∃P:List Rq,P.map (·.e)=a/\cs=P.flatMap encS/\∀n∈P,Row aI 8 c D n.a n.n n.e.aQ/\n.e.Ok
 |[],_,d=>⟨[],rfl,d,sM⟩
 |e::a,_,⟨r,s,f,⟨g,h,i,j,k,l⟩,m⟩=>by
  obtain⟨P,o,p,q⟩:=JE m;refine⟨⟨e,g,h,i⟩::P,by simp[o],by rw[f,j,p];rfl,?_⟩;intro n b;rcases Q2.1 b with rfl|b
  ·exact⟨k,l⟩
  ·exact q n b
def yx{a:World}{D:ZN}:∀{n:List Rq},(∀x∈n,Row aI 8 a D x.a x.n x.e.aQ/\x.e.Ok)->bK jB a D (n.map (·.e)) (n.flatMap encS)
 |[],_=>rfl
 |x::n,P=>⟨encS x,n.flatMap encS,rfl,⟨x.a,x.n,x.c,rfl,(P x (QV ..)).1,(P x (QV ..)).2⟩,yx λb c=>P b (QJ _ c)⟩
def rl{n:List Rq}(P:a<n.length*10):(n.flatMap encS)[a]? =(encS n[a/10]!)[a % 10]? :=by
 induction n generalizing a with
 |nil=>simp at P
 |cons d n e=>
  have f:(encS d).length=10:=rfl;rw[List.flatMap_cons]
  by_cases b:a<10
  ·rw[XW oM,Nat.div_eq_of_lt b,Nat.mod_eq_of_lt b];rfl
  ·rw[X8 oM,f,e (by simp at P;omega)]
   obtain⟨c,rfl⟩:∃c,a=c+10:=⟨a-10,oM⟩
   rw[Nat.add_sub_cancel,Nat.add_div_right _ dC,Nat.add_mod_right];simp
def gU(n:List Rq):(n.flatMap encS).length=n.length*10:=by
 induction n with
 |nil=>rfl
 |cons P n a=>rw[List.flatMap_cons,QX,a];have b:(encS P).length=10:=rfl;rw[b];simp;omega
def Cv(n:List Rq):(flatK encS 10 n.toArray).toList=n.flatMap encS:=by
 apply X3;intro P
 by_cases a:P<n.length*10
 ·rw[rl a]
  have d:P<(flatK encS 10 n.toArray).size:=by simpa using a
  have b:=get_flatK encS 10 n.toArray P (by simpa using a);rw[getElem!_pos _ P d]at b;have e:(encS n[P/10]!).length=10:=rfl;have c:P % 10<(encS n[P/10]!).length:=by rw[e];omega
  rw[Qq (by simpa using a),Qq c]
  congr 1
  rw[Array.getElem_toList,b];rw[getElem!_pos _ _ (by simpa using c)]
  congr 1
  simp
 ·rw[Q7 (by simpa using a),Q7 (by rw[gU];omega)]
def Cs(n:List aj):Prop:=n.Pairwise λP a=>ei a P=false
def JA(l:aM jB 63 f b d a c J)(t:J.length<=20000000):
  YX 154 #[.slice d a c,.func (.func 155) #[] #[]] b (Ok λM u=>M= .tuple #[]/\∃A,A.Perm J/\Cs A/\aM jB 63 f u d a c A/\ak (λm=>aD d=some m) b u):=by
 obtain⟨cs,D,B,Z,N⟩:=l.body;obtain⟨P,C,rfl,a4⟩:=JE Z;have E:=l.len dC;have v:P.length=a:=by rw[E,<-C];simp
 rcases B.cases with⟨rfl,rfl,rfl,h0⟩|⟨g,i,rfl,w,O,F,Q⟩
 ·have hd:P=[]:=QW v
  refine(AnyF.slices_SortFunc_none Tryz.TI none 0 _ b).mono ?_;rintro p u ⟨rfl,rfl⟩;exact Ok.mk ⟨rfl,J,List.Perm.refl _,by rw[<-C,hd];exact List.Pairwise.nil,l,ak.refl _⟩
 ·have R:jB.k=10:=rfl
  rw[R]at Q F;have a5:flatK encS 10 P.toArray=(P.flatMap encS).toArray:=by rw[<-Cv]
  have hH:HoldsK encS 10 b g 0 P.toArray:=by
   intro j q;rw[size_flatK]at q;simp only[List.size_toArray]at q;have S:j<(P.flatMap encS).length:=by rw[gU];exact q
   refine⟨?_,by simp[World.frozen?,w]⟩;have k:(flatK encS 10 P.toArray)[j]! =(P.flatMap encS)[j]:=by
    rw[a5,getElem!_pos _ j (by simpa using S)];simp
   rw[k,Xz];refine ae w ?_;have h:(i.toList.take (a*10))[j]? =some (P.flatMap encS)[j]:=by rw[Q];exact Qq S
   rw[Xw,Zx oM]at h;simpa using h
  have t:=B.row;have H:c<=maxLen:=by
   obtain⟨_,a0,_,T,_,_,_,H,_⟩:=B.row.2.resolve_left (by rintro⟨l,_⟩;cases l);simp only[XX]at T;rw[T.2.2];exact H
  have a6:P.toArray.size<4611686018427387904:=by
   simp only[List.size_toArray,v];omega
  have U:=AnyQ.slices_SortFunc Tryz.TI 10 (λb=>cM _ _ _ kR ⟨_,Tryz.underlying63⟩ b) (λb=>Tryz.sizeOf63 b) encS (λ_=>rfl) Rr (λx V=>sv x.e V.e) VY 155 #[] g 0 c P.toArray b
   (enters_of Tryz.func155 kR rfl) (λb0 r dk b1 x V=>(Cu).mono ?_) hH (ax w) a6
  ·rw[show P.toArray.size=a by simpa using v]at U
   refine U.mono ?_;rintro p u ⟨rfl,e,y,r,hp,hs,rfl⟩;obtain⟨p1,p2,W⟩:=hp;have n:e.size=a:=p1.trans (by simpa using v);have X:e.toList.Perm P:=by
    have k:e.extract 0 a=e:=by rw[<-n];exact Array.extract_size
    have h:P.toArray.extract 0 a=P.toArray:=by rw[show a=P.toArray.size by simpa using v.symm];exact Array.extract_size
    rw[k,h]at W;exact W
   have a1:flatK encS 10 e=(e.toList.flatMap encS).toArray:=by rw[<-Cv]
   have I:(sortWorldK encS 10 b g 0 y e r).heap[g]? =some (.cells (putCells id 0 (flatK encS 10 e) i) 63 (0,0)):=by
    have a7:=ax w;show((Sort.ahead b y).heap.modify g _++r)[g]? =_;rw[Array.getElem?_append_left (by simpa[Sort.ahead]using a7),Array.getElem?_modify,Zx rfl];show Option.map _ b.heap[g]? =_;rw[w];rfl
   have z:ak (λm=>aD (ZM g)=some m) b (sortWorldK encS 10 b g 0 y e r):=by
    refine⟨rfl,rfl,rfl,?_,λa2 z E=>?_⟩
    ·show b.heap.size<=((Sort.ahead b y).heap.modify g _++r).size
     simp[Sort.ahead]
    ·show((Sort.ahead b y).heap.modify g _++r)[a2]? =_
     rw[Array.getElem?_append_left (by simpa[Sort.ahead]using z),Array.getElem?_modify,Zq (λp=>E (by rw[p];rfl))]
     rfl
   have a3:(putCells id 0 (flatK encS 10 e) i).size=c*10:=by unfold putCells;rw[Array.size_mapIdx];exact F
   refine Ok.mk ⟨rfl,e.toList.map (·.e),by rw[<-C];exact X.map _,?_,⟨⟨e.toList.flatMap encS,D,⟨⟨?_,.inr ⟨g,c,_,rfl,Qj _,I,O,H,a3,?_⟩⟩⟩,yx λx hx=>?_,N⟩,l.self,λm t=>Qk (l.aC m t) z.size⟩,z⟩
   ·unfold Cs
    rw[List.pairwise_map,List.pairwise_iff_getElem];intro Y j hi q a8;have k:=hs Y j (Qj _) a8 (by simpa[n]using q);rw[zY,getElem!_pos _ j (by simpa using q),getElem!_pos _ Y (by simpa using hi)]at k;simpa using k
   ·rw[gU,XK,n];rfl
   ·apply X3
    intro s;rw[R,Xw];split
    ·rename_i o
     rw[rl (by rw[XK,n];exact o),<-rl (by rw[XK,n];exact o)];unfold putCells;have a9:s<i.size:=by rw[F];exact Qk o (Q0 _ O)
     rw[Array.getElem?_toList,Array.getElem?_mapIdx,X6 a9];simp only[Option.map_some];have K:s<(flatK encS 10 e).size:=by rw[size_flatK,n];exact o
     rw[Zx ⟨Qj _,by rw[Xz];exact K⟩,Nat.sub_zero,getElem!_pos _ s K];have:(flatK encS 10 e)[s]=(e.toList.flatMap encS)[s]'(by rw[gU,XK,n];exact o):=by
      have h:=Zj (·[s]?) a1;simp only[List.getElem?_toArray]at h;rw[X6 K,Qq (by rw[gU,XK,n];exact o)]at h;exact XJ h
     rw[this];exact(Qq _).symm
    ·rename_i o
     rw[Q7 (by rw[gU,XK,n];omega)]
   ·have L:x∈P:=X.mem_iff.1 hx
    obtain⟨k,h⟩:=a4 x L;exact⟨k.af z λm t p=>(N m t).2 p,h⟩
  ·rintro p u ⟨M,rfl,rfl,hG⟩
   exact⟨rfl,hG⟩
open Go.au
abbrev TP(n:List aj):Prop:=n.Pairwise λP a=>ei P a=true
structure aw.OK (S:aw):Prop where
 n:S.n<=64
 Pc:TP S.l
 ids:(S.l.map aY).Nodup
 Ws:∀e∈S.l,cQ e S.n=0
 ok:∀e∈S.l,e.Ok
def Fj(P:aY o≠aY O):ei o O=true\/ei O o=true:=by
 rw[jq,jq];have:¬(o.origin=O.origin/\o.seq=O.seq):=λn=>P (by unfold aY;rw[n.1,n.2]);omega
def tf{n P a:aj}(b:ei n P=true)(c:ei P a=true):ei n a=true:=by rw[jq]at*;omega
def mY(n:ei o O=true):ei O o=false:=by rw[jq]at n;rw[ua];omega
def c_(P:aj):∀n,(dj P n).Perm (P::n)
 |[]=>List.Perm.refl _
 |x::n=>by
  unfold dj;split
  ·exact List.Perm.refl _
  ·exact(List.Perm.cons x (c_ P n)).trans (List.Perm.swap P x n)
def wi{c:aj}:∀{P},TP P->(∀x∈P,aY x≠aY c)->TP (dj c P)
 |[],_,_=>by unfold dj;exact List.pairwise_singleton ..
 |x::P,d,e=>by
  obtain⟨f,g⟩:=List.pairwise_cons.1 d;unfold dj;split
  ·rename_i b
   exact List.pairwise_cons.2 ⟨λa n=>by
    rcases Q2.1 n with rfl|n
    ·exact b
    ·exact tf b (f a n),d⟩
  ·rename_i b
   refine List.pairwise_cons.2 ⟨λa n=>?_,wi g λa n=>e a (QJ _ n)⟩;rcases Q2.1 ((c_ c P).mem_iff.1 n)with rfl|n
   ·exact(Fj (e x (QV ..))).resolve_right (by simpa using b)
   ·exact f a n
def LK(f:Cs J)(g:TP e0)(b:J.Perm e0)(i:(J.map aY).Nodup):J=e0:=by
 refine b.eq_of_pairwise (le:=λP n=>ei n P=false) (λP n j k c d=>?_) f (g.imp λh=>mY h)
 by_cases e:aY P=aY n
 ·have a:n∈J:=b.mem_iff.2 k
  obtain⟨o,l,rfl⟩:=List.getElem_of_mem j;obtain⟨p,m,rfl⟩:=List.getElem_of_mem a;have:=(List.getElem_inj (xs:=J.map aY) (h₀:=by simpa using l) (h₁:=by simpa using m) i).1 (by simpa using e);subst this;rfl
 ·rcases Fj e with h|h
  ·rw[h]at d;cases d
  ·rw[h]at c;cases c
def SZ(P:(J.map aY).Nodup)(n:o∈J):J.find? (λa=>aY a==aY o)=some o:=by
 induction J with
 |nil=>cases n
 |cons a J b=>
  simp only[QY,List.nodup_cons]at P;rcases Q2.1 n with rfl|n
  ·simp
  ·have c:aY a≠aY o:=λd=>P.1 (d▸Xk.2 ⟨o,n,rfl⟩)
   rw[List.find?_cons_of_neg (by simpa using c)];exact b P.2 n
def aw.get_some(n:F.get d4=some o):o∈F.l/\aY o=d4:=
 ⟨List.mem_of_find?_eq_some n,by simpa using List.find?_some n⟩
def aw.get_none(P:F.get d4=none):∀n∈F.l,aY n≠d4:=λn a=>by
 have:=List.find?_eq_none.1 P n a;simpa using this
def aw.OK.get(n:F.OK)(P:o∈F.l):F.get (aY o)=some o:=SZ n.ids P
def Jz(g:F.OK)(c:∀n∈h1,n.1=aY n.2)(d:(h1.map (·.2)).Perm F.l)(k:Tidy h1)(P:Int×Int):aF h1 P=F.get P:=by
 cases a:aF h1 P with
 |none=>
  rw[km]at a
  symm
  refine List.find?_eq_none.2 λb h=>?_;obtain⟨n,e,rfl⟩:=Xk.1 (d.mem_iff.2 h);intro i;exact a (Xk.2 ⟨n,e,by rw[c n e];simpa using i⟩)
 |some b=>
  have f:=bW a;have j:P=aY b:=c _ f;have:b∈F.l:=d.mem_iff.1 (Xk.2 ⟨_,f,rfl⟩);rw[j,g.get this]
def xB(P:List aj)(n:Int):P.foldl (λn a=>max n a.aA) n=max n (P.foldl (λn a=>max n a.aA) 0)\/n<0:=by
 induction P generalizing n with
 |nil=>simp;omega
 |cons b P c=>
  rw[List.foldl_cons,List.foldl_cons]
  by_cases e:n<0
  ·exact .inr e
  ·rcases c (max n b.aA)with h|h
   ·rcases c (max 0 b.aA)with d|d
    ·left;rw[h,d];omega
    ·omega
   ·omega
def aw.SV(n:aw)(P:aj):aw.top ⟨n.n,dj P n.l⟩=max n.top P.aA:=by
 show(dj P n.l).foldl _ _=_;rw[(c_ P n.l).foldl_eq' (λa _ b _ c=>oM),List.foldl_cons];rcases xB n.l (max 0 P.aA)with h|h
 ·rw[h]
  show max (max 0 P.aA) n.top=_;have:0<=n.top:=by
   rcases xB n.l 0 with h|h
   ·unfold aw.top;omega
   ·omega
  omega
 ·omega
def aw.Lt(n:aw):0<=n.top:=by
 rcases xB n.l 0 with h|h
 ·unfold aw.top;omega
 ·omega
def rq(n:cQ o a=0):0<=o.origin/\o.origin<a/\1<=o.seq/\1<=o.aA/\0<=o.agg/\0<=o.key/\o.aQ.length=a/\(∀P∈o.aQ,0<=P)/\o.aQ.getD o.origin.toNat 0=pd (o.seq-1)/\1<=o.op/\o.op<=5/\0<=o.aU/\o.aU<8/\0<=o.field/\o.field<8:=by
 unfold cQ at n;split at n
 ·simp at n
 ·rename_i b
  split at n
  ·simp at n
  ·rename_i c
   split at n
   ·simp at n
   ·rename_i g
    split at n
    ·simp at n
    ·rename_i h
     simp only[not_or,List.any_eq_true,Zk,not_exists,not_and]at b;obtain⟨i,j,k,P,l,d⟩:=b;refine⟨oM,oM,oM,oM,oM,oM,oM,λe f=>by have:=d e f;omega,by simpa using c,oM,oM,oM,oM,oM,oM⟩
def aw.FA(n:aw)(P:aj)(a:Nat):aw.Fz ⟨n.n,dj P n.l⟩ a=n.Fz a+if P.origin=(a:Int)then 1 else 0:=by
 unfold aw.Fz;show(dj P n.l).countP _=_;rw[(c_ P n.l).countP_eq,List.countP_cons]
 congr 1
 simp
def aw.Ra(n:aw)(P:Nat):n.Fz P<=n.l.length:=List.countP_le_length
def aw.bM(n:aw):n.vec.length=n.n:=by simp[aw.vec]
def aw.oP(n:aw)(P:a<n.n):n.vec[a]? =some (n.Fz a:Int):=by simp[aw.vec,P]
def aw.um(S:aw)(n:a<S.n):S.vec.getD a 0=(S.Fz a:Int):=by rw[QQ,S.oP n];rfl
def aw.SX(n:aw)(b:aj)(e:b.origin=(a:Int)):aw.vec ⟨n.n,dj b n.l⟩=n.vec.set a (n.Fz a+1:Int):=by
 apply X3;intro c
 by_cases P:c<n.n
 ·rw[aw.oP ⟨n.n,dj b n.l⟩ P,aw.FA,Xj,n.oP P,n.bM]
  by_cases d:a=c
  ·subst d;simp[e,P]
  ·rw[Zq d,Zq oM];simp
 ·rw[Q7 (by rw[aw.bM];exact Nat.le_of_not_lt P),Q7 (by rw[List.length_set,n.bM];omega)]
def aw.add_def(n:aw)(P:aj):n.add P=if cQ P n.n≠0 then(cQ P n.n,n)else if(n.get (aY P)).isSome then(16,n)else
 if P.seq≠(n.vec.getD P.origin.toNat 0)+1 then(9,n)else if(List.range n.n).any λa=>!n.lY P a then(9,n)else(0,⟨n.n,dj P n.l⟩):=rfl
def aw.Ae(n:F.OK)(f:o.Ok):(F.add o).2.OK/\(F.add o).2.n=F.n:=by
 rw[aw.add_def]
 by_cases b:cQ o F.n=0
 rotate_left
 ·rw[Zx b];exact⟨n,rfl⟩
 rw[Zq (by simpa using b)]
 by_cases c:(F.get (aY o)).isSome=true
 ·rw[Zx c];exact⟨n,rfl⟩
 rw[Zq c];split
 ·exact⟨n,rfl⟩
 split
 ·exact⟨n,rfl⟩
 have e:F.get (aY o)=none:=by simpa using c
 have d:=c_ o F.l;refine⟨⟨n.n,wi n.Pc (aw.get_none e),?_,?_,?_⟩,rfl⟩
 ·refine(d.map aY).nodup_iff.2 ?_
  rw[QY,List.nodup_cons];exact⟨λg=>by obtain⟨a,P,h⟩:=Xk.1 g;exact aw.get_none e a P h,n.ids⟩
 ·intro a P
  rcases Q2.1 (d.mem_iff.1 P)with rfl|P
  ·exact b
  ·exact n.Ws a P
 ·intro a P
  rcases Q2.1 (d.mem_iff.1 P)with rfl|P
  ·exact f
  ·exact n.ok a P
def aw.sZ(n:a<=64):aw.OK ⟨a,[]⟩:=⟨n,List.Pairwise.nil,sM,sM,sM⟩
end Go.Proofs.YtjgjkeponbeekaaGreatDoor
namespace Go.au
open Go
def xu(n:List Int):List UInt8:=bR ((n.length:Int)::n)
def vG(n:List Int):List UInt8:=gA 2 (xu n)
def oL(n:List UInt8):List Int×mC:=bh (bZ 64 ⟨n,0,0⟩).1.toNat (bZ 64 ⟨n,0,0⟩).2
def jJ(n:List UInt8):Option (List Int):=
 if(bq n).no≠0\/(bq n).n≠n.length\/(bq n).kind≠2 then none else if kM (oL (bq n).body).2≠0 then none else some (oL (bq n).body).1
def Ez(n:List UInt8):(∀P∈(oL n).1,aJ P)/\(oL n).1.length<=64/\(oL n).2.Fit:=by
 obtain⟨a,e,f,g⟩:=mC.Fit.count (r:=⟨n,0,0⟩) ⟨Qj _,.inl rfl⟩ (m:=64) oM;obtain⟨b,c,d,h⟩:=a.ints (bZ 64 ⟨n,0,0⟩).1.toNat;exact⟨c,by show(bh _ _).1.length<=64;rw[d];omega,b⟩
variable{t:List Int}{x:List UInt8}
def N_(n:jJ x=some t):(∀P∈t,aJ P)/\t.length<=64:=by
 unfold jJ at n;split at n
 ·cases n
 split at n
 ·cases n
 ·cases n
  exact⟨(Ez _).1,(Ez _).2.1⟩
def Ey(a:∀n∈t,aJ n)(b:t.length<=64):(xu t).length<=585:=by
 have:=fE (l:=(t.length:Int)::t) (by
  intro n P;rcases Q2.1 P with rfl|P
  ·unfold aJ;omega
  ·exact a n P)
 unfold xu;rw[Xq]at this;omega
def BZ(n:List Int):(vG n).length=(xu n).length+9:=k_ _ _
end Go.au
namespace Go.Proofs.YtjgjkeponbeekaaGreatDoor
open Go.au
def Uc(P:Int)(n:cJ):Int:=n.synced+max 0 (min P ((n.bytes.length:Int)-n.synced))
def Gf(P:Int)(n:cJ):cJ:=n.cut (Uc P n)
def an.Bu(D:an)(P:Int):an:={D with files:=(D.files.filter λn=>n.2.mB).map (λn=>(n.1,Gf P n.2)),qy:=false,dead:=false}
def an.Is(D:an)(n:List (ByteArray×cJ)):an:=⟨D.most,n,D.qy,D.left,D.dead⟩
def an.gP(D:an):an:={D with files:=D.files.filter λn=>n.2.mB}
def Dg(n:List (ByteArray×cJ))(P:ByteArray×cJ->Bool):ez (n.filter P)<=ez n:=by
 unfold ez
 induction n with
 |nil=>simp
 |cons a n b=>
  rw[List.filter_cons];split
  ·simp;omega
  ·simp;omega
variable{w:ByteArray}{e:Int}{f7:List ByteArray}{b1 t:List Int}{J e0:List aj}{a c i p:Nat}{Y f:ZN}{d u:YQ}{j:Type}{b:World}{O o:aj}
def xY{n:List (ByteArray×j)}(P:Tidy n)(a:ByteArray×j->Bool):Tidy (n.filter a):=List.Nodup.sublist (List.Sublist.map _ List.filter_sublist) P
def an.Ok.gP{D:an}(n:D.Ok):D.gP.Ok:=by
 have c:=Dg D.files λP=>P.2.mB;have b:=n.fits;have d:=List.length_filter_le (λP:ByteArray×cJ=>P.2.mB) D.files;have e:=n.many;unfold an.used at b;exact⟨n.most,by show ez (D.files.filter _)<=D.most;omega,by show(D.files.filter _).length<=64;omega,xY n.tidy _,λP a=>n.names P (List.mem_filter.1 a).1,λP a=>n.RG P (List.mem_filter.1 a).1,n.Bp,n.Bq⟩
def PR{P:List (ByteArray×j)}(b:Tidy P){k e:ByteArray×j->j}{u l:j}(f:(w,u)∈P)(g:∀a∈P,a.1≠w->e a=k a)(p:e (w,u)=l):
  aH (P.map λn=>(n.1,k n)) w l=P.map λn=>(n.1,e n):=by
 induction P with
 |nil=>cases f
 |cons q P m=>
  obtain⟨n,a⟩:=q;unfold Tidy at b m;simp only[QY,List.nodup_cons]at b;simp only[QY];unfold aH
  by_cases h:(w==n)=true
  ·have r:w=n:=eq_of_beq h
   subst r;have s:a=u:=by
    rcases Q2.1 f with h|h
    ·cases h;rfl
    ·exact Zz (Xk.2 ⟨_,h,rfl⟩) b.1
   subst s;rw[Zx h,p]
   congr 1
   refine List.map_congr_left λc d=>?_;rw[g c (QJ _ d) λi=>b.1 (Xk.2 ⟨c,d,i⟩)]
  ·have o:n≠w:=λi=>h (by rw[i];simp)
   rw[Zq h,g (n,a) (QV ..) o]
   congr 1
   refine m b.2 ?_ λc d=>g c (QJ _ d);rcases Q2.1 f with H|H
   ·cases H;exact Zz rfl o
   ·exact H
def ss(P:Int)(left:List (ByteArray×ny))(n:ByteArray×cJ):cJ:=if left.any (λa=>a.1==n.1)then n.2 else Gf P n.2
def KK{D:an}(h:aO b a f D)(e5:aJ e):
  YX 83 #[ZL a,ZH e] b (Ok λS t=>∃q,S= .tuple #[]/\aO t a q (D.Bu e)/\bB f b q t):=by
 obtain⟨u,x,j⟩:=h.open;have e6:x.filter (λn=>n.2.f.mB)=x.filter (λn=>n.2.f.mB):=rfl;refine tA ⟨a,0,rfl,some u,ae j.head rfl,PC.ok (zy j.map j.each λn k P i=>(j.Im n k P i).2.2) ?_⟩;rintro _ v ⟨rfl,c1,B⟩;have c2:∀P,P=u->f P:=λP m=>m▸j.Fr;have r:eZ v a f D.gP u (x.filter λn=>n.2.f.mB):=by
  have C:∀n∈x.filter (λn=>n.2.f.mB),n∈x:=λn k=>(List.mem_filter.1 k).1;refine⟨B.get j.head (λm=>j.pr m),c1,?_,⟨λn k=>(j.each.each n (C n k)).af B λP i=>(j.Im n (C n k) P i).2.2,λn k c o=>j.each.apart n (C n k) c (C c o),xY j.each.tidy _⟩,λn k=>j.Im n (C n k),j.Fr,j.pr,j.self,λP i=>Qk (j.aC P i) B.size,j.ok.gP⟩;show D.files.filter _=_;rw[j.files,List.filter_map]
  rfl
 generalize e7:x.filter (λn=>n.2.f.mB)=p at r;have c3:∀n∈p,∀P,n.2.G P->P<v.heap.size:=λn k P i=>(r.each.each n k).aC P i;refine⟨rfl,a,0,rfl,some u,ae r.head rfl,mapRange mF r.map λw2 hR T s2=>?_⟩;have c4:Tidy D.gP.files:=r.ok.tidy;have c5:∀c∈p,uZ c∈D.gP.files:=λc o=>by rw[r.files];exact Xk.2 ⟨c,o,rfl⟩
 have a5:bB f b f w2:=⟨((B.mono λP _ i=>c2 P i)).ah T,λ_ h=>.inl h⟩
 refine⟨λU t=>∃(left s:List (ByteArray×ny)) (q:ZN),cD t v.heap.size u Value.string (p.map dS) (left.map dS)/\U=left.length/\eZ t a q (D.gP.Is (D.gP.files.map λg=>(g.1,ss e left g))) u s/\s.map dS=p.map dS/\
   bB f b q t/\(∀n∈left,n∈p/\aF s n.1=some n.2)/\Tidy left/\v.heap.size<t.heap.size/\¬q v.heap.size,
  ⟨_,p,p,f,hR,rfl,?_,rfl,a5,λn k=>⟨k,qA r.each.tidy k⟩,r.each.tidy,oM,λi=>by have:=r.aC _ i;omega⟩,?_⟩
 ·have m:(D.gP.files.map λn=>(n.1,ss e p n))=D.gP.files:=by
   have:∀n∈D.gP.files,(n.1,ss e p n)=n:=λn k=>by
    rw[r.files]at k;obtain⟨c,o,rfl⟩:=Xk.1 k;have:p.any (λg=>g.1==(uZ c).1)=true:=List.any_eq_true.2 ⟨c,o,by simp[uZ]⟩;unfold ss;rw[Zx this]
   have I:=List.map_congr_left (f:=λn=>(n.1,ss e p n)) (g:=id) this;rw[I,List.map_id]
  rw[m];exact r.ah T
 ·rintro U a1 w3 ⟨left,s,q,c6,rfl,V,a7,J,W,y,e2,X⟩
  refine nz c6 (λK=>.inl ⟨rfl,?_⟩) λd S l1 l2 Y c7 c8 c9 Z s4=>.inr ⟨_,_,rfl,qC c9 ?_⟩
  ·have d0:left=[]:=by simpa using K
   subst d0;refine⟨a,0,rfl,V.at.Il λw5 h5 k5 s5=>⟨a,0,rfl,h5.zP λw6 h6 k6 s6=>Ok.mk ⟨q,rfl,?_,J.trans ⟨k5.then k6,λ_ h=>.inl h⟩⟩⟩⟩;have m:(D.gP.files.map λn=>(n.1,ss e [] n))=(D.files.filter λn=>n.2.mB).map (λn=>(n.1,Gf e n.2)):=List.map_congr_left λn _=>by simp[ss]
   rw[m]at h6;exact h6
  ·obtain⟨l,n,P,rfl,rfl,rfl,rfl⟩:=xi c7
   obtain⟨a8,E⟩:=W (d,n) sM;have E:aF s d=some n:=E;have a9:∀P,P=v.heap.size->¬q P:=λP m=>m▸X;have w:=V.af Z λP i m=>a9 P m i;have L:=w.get E;have M:=bW E;have d1:dW Y n.q n.G n.f:=w.each.each _ M;have d2:∀P,n.G P->P<v.heap.size:=c3 _ a8;have b0:∀P,n.G P->q P/\P≠a/\P≠u:=w.Im _ M;have b1:n.f.bytes.length<=262144:=w.ok.len (bW L);have e3:n.f.synced<=n.f.bytes.length:=w.ok.RG _ (bW L);have e8:n.f=(uZ (d,n)).2:=rfl;refine⟨_,_,rfl,λw5 z=>?_⟩;have b2:=d1.af (z.af (S:=λ_=>False)) λ_ _ h=>h;have b3:=w.ah z.af;obtain⟨fa,A,fc,F0,F,I,h3,h4⟩:=b2.body;have b4:A=n.f.bytes.length:=I.len dC;have H:(if(if(ZG .i64 (((A:Nat):Int)-(n.f.synced:Int)))<e then(ZG .i64 (((A:Nat):Int)-(n.f.synced:Int)))else e)>0 then(if(ZG .i64 (((A:Nat):Int)-(n.f.synced:Int)))<e then(ZG .i64 (((A:Nat):Int)-(n.f.synced:Int)))else e)else 0)=max 0 (min e ((n.f.bytes.length:Int)-n.f.synced)):=by
    rw[wrap_i64 bc,b4];omega
   refine⟨n.q,0,rfl,_,ae F rfl,n.q,0,rfl,fa,A,fc,ae F rfl,n.q,0,rfl,_,ae F rfl,?_⟩;refine PC.ok (by rw[H,wrap_i64 (by unfold aJ at*;omega)];exact Bt b2 b1) ?_;rintro _ w6 ⟨N,rfl,O,Q⟩
   replace O:dW w6 n.q N (Gf e n.f):=O
   have d3:((D.gP.Is (D.gP.files.map λg=>(g.1,ss e (l++(d,n)::P) g))).gV d (Gf e n.f)).Ok:=b3.ok.cut L _;obtain⟨F6,b5,a0⟩:=b3.dU E O Q d3;have d4:=c8.af (z.af (S:=λ_=>False)) id id;have d5:=d4.af Q.af (λi=>by have:=d2 _ i;omega) (λi=>(b0 _ i).2.2 rfl);have b6:d∉(l++P).map (·.1):=by
    unfold Tidy at y;rw[Q3,QY]at y;rw[Q3];intro b7;have hp:=(List.perm_middle (a:=d) (l₁:=l.map (·.1)) (l₂:=P.map (·.1))).nodup_iff.1 y;exact(List.nodup_cons.1 hp).1 b7
   have b8:Tidy (l++P):=by
    unfold Tidy at y⊢;rw[Q3,QY]at y;rw[Q3];exact(List.nodup_cons.1 ((List.perm_middle (a:=d) (l₁:=l.map (·.1)) (l₂:=P.map (·.1))).nodup_iff.1 y)).2
   have b9:(l++P).any (λc=>c.1==d)=false:=by
    rw[List.any_eq_false];intro c o K;exact b6 (Xk.2 ⟨c,o,eq_of_beq K⟩)
   have eh:aH (D.gP.files.map λg=>(g.1,ss e (l++(d,n)::P) g)) d (Gf e n.f)=D.gP.files.map λg=>(g.1,ss e (l++P) g):=by
    refine PR (u:=n.f) c4 (c5 _ a8) (λc o R=>?_) ?_
    ·have d6:(d==c.1)=false:=beq_false_of_ne (Ne.symm R)
     have m:(l++(d,n)::P).any (λg=>g.1==c.1)=(l++P).any (λg=>g.1==c.1):=by
      rw[List.any_append,List.any_cons,List.any_append,d6,Bool.false_or]
     show ss e (l++P) c=ss e (l++(d,n)::P) c;unfold ss;rw[m]
    ·unfold ss
     rw[Zq (by show¬((l++P).any (λc=>c.1==d)=true);rw[b9];simp)]
   have d7:(D.gP.Is (D.gP.files.map λg=>(g.1,ss e (l++(d,n)::P) g))).gV d (Gf e n.f)=D.gP.Is (D.gP.files.map λg=>(g.1,ss e (l++P) g)):=by
    unfold an.gV an.Is;simp only[eh]
   rw[d7]at b5;have a4:(aH s d (⟨n.q,N,Gf e n.f⟩:ny)).map dS=p.map dS:=by
    have F:(aH s d (⟨n.q,N,Gf e n.f⟩:ny)).map dS=aH (s.map dS) d (ptr n.q):=qz (λn:ny=>ptr n.q) s d _;rw[F,qB (k:=d) (v:=ptr n.q) (l:=s.map dS) (Xk.2 ⟨(d,n),M,rfl⟩) w.map.tidy,a7]
   refine⟨rfl,_,?_,l++P,_,F6,by rw[Q3];exact d5,rfl,b5,a4,?_,λc o=>?_,b8,?_,?_⟩
   ·simp
   ·have e4:=B.size
    have d8:bB f b q Y:=⟨J.af.new Z λP i=>.inr oM,J.new⟩
    exact(d8.trans ⟨z.af,λ_ h=>.inl h⟩).trans a0
   ·have d9:c∈l++(d,n)::P:=by simp only[Q6,Q2]at o⊢;exact o.imp id .inr
    obtain⟨e0,e1⟩:=W c d9;have R:c.1≠d:=λm=>b6 (Xk.2 ⟨c,o,m⟩);refine⟨e0,?_⟩;rw[rz,Zq (by simpa using R)];exact e1
   ·have:=Q.af.size;have:=(z.af (S:=λ_=>False)).size;omega
   ·intro i
    rcases a0.new _ i with h|h
    ·exact X h
    ·have:=(z.af (S:=λ_=>False)).size;omega
def lL:ByteArray:=⟨#[109,97,110,105,102,101,115,116,46,116,109,112]⟩
def vF:ByteArray:=⟨#[109,97,110,105,102,101,115,116]⟩
def oK(D:an):Int×an:=if(aF D.files lL).isSome then D.delete lL else(0,D)
def sR(n:List Int):Nat->an->Int×an
 |0,D=>oK D
 |1,D=>D.create lL
 |2,D=>D.append lL (vG n)
 |3,D=>D.sync lL
 |_,D=>D.rename lL vF
def xt(n:List Int):Nat->Nat->an->Int×an
 |_,0,D=>(0,D)
 |P,a+1,D=>if(sR n P D).1≠0 then((sR n P D).1,(oK (sR n P D).2).2)else xt n (P+1) a (sR n P D).2
def cf(D:an)(n:List Int):Int×an:=if 64<n.length then(3,D)else xt n 0 5 D
def fr(D:an):Option (List Int):=if(D.read vF).2≠0 then none else jJ (D.read vF).1
def IN(n:List ByteArray):(uY n).Perm n:=List.mergeSort_perm _ _
def NY{D:an}:w∈D.list↔(aF D.files w).isSome=true:=by
 unfold an.list;rw[(IN _).mem_iff];constructor
 ·intro n
  cases P:aF D.files w with
  |none=>exact Zz n (km.1 P)
  |some a=>rfl
 ·intro n
  obtain⟨a,b⟩:=Option.isSome_iff_exists.1 n;exact Xk.2 ⟨_,bW b,rfl⟩
def ob(D:an):D.list.length=D.files.length:=by unfold an.list uY;simp
def NZ(n:List Int)(c:a<5)(D:an):xt n a (5-a) D=if(sR n a D).1≠0 then((sR n a D).1,(oK (sR n a D).2).2)else xt n (a+1) (5-(a+1)) (sR n a D).2:=by
 obtain⟨P,b⟩:∃P,5-a=P+1:=⟨4-a,oM⟩
 rw[b,show 5-(a+1)=P by omega]
 rfl
def GI{D:ZN}(P:Row Ny 16 b D d a f7):
  YX 292 #[.slice d a c,.string w] b (Ok λo e=>(∃k:Int,o= ZH k/\(0<=k↔w∈f7))/\b=e):=by
 have u:=P.len;have p:=P.ef;unfold aK at p;refine jL ⟨λl i e=>∃n:Nat,i=n/\n<=a/\l=a-n/\w∉f7.take n/\b=e,⟨_,0,rfl,Qj _,rfl,sM,rfl⟩,?_⟩;rintro l i _ _ ⟨n,rfl,v,rfl,f,rfl⟩;refine al.dec (λq=>?_) (λq=>?_)
 ·obtain⟨r,g,x,rfl,m,_,s⟩:=P.mP (i:=n) oM
  refine⟨r,g,rfl,oM,oM,_,s,al.WS (λj=>?_) (λj=>?_)⟩
  ·exact Ok.mk ⟨⟨_,rfl,λ_=>j▸QZ m,λ_=>oM⟩,rfl⟩
  ·refine⟨_,oM,n+1,aq oM,oM,rfl,?_,rfl⟩
   rw[Qw,m];intro t;rcases Q6.1 t with h|h
   ·exact f h
   ·simp at h;exact j h
 ·rw[Qz oM]at f
  exact Ok.mk ⟨⟨_,rfl,λh=>oM,λh=>Zz h f⟩,rfl⟩
def zG{D:ZN}(n:Row Ny 16 b D d a f7):
  YX 237 #[.slice d a c,.string w] b (Ok λP e=>P= .bool (decide (w∈f7))/\b=e):=by
 refine iK (PC.ok (GI n) ?_);rintro _ _ ⟨⟨g,rfl,f⟩,rfl⟩;exact⟨_,rfl,Ok.mk ⟨by rw[decide_eq_decide.2 f],rfl⟩⟩
def qU{D:an}(n:aO b a f D):YX 174 #[ZL a] b (Ok (u_ b a f (oK D))):=by
 refine wQ (PC.ok (xk n) ?_);rintro _ l ⟨m,o,p,G,rfl,g,P,q⟩;have r:D.list.length<=64:=by rw[ob];exact n.ok.many
 refine⟨_,_,_,rfl,PC.ok (zG (g.row dC ba)) ?_⟩;rintro _ _ ⟨rfl,rfl⟩;have e:(lL∈D.list)↔(aF D.files lL).isSome=true:=NY;refine⟨_,rfl,al.dec (λc=>PC.ok (xV (n.ah P)) λh i j=>lO h i P ?_) (λc=>?_)⟩
 ·have d:oK D=D.delete lL:=by unfold oK;rw[Zx (e.1 c)]
  rw[d];exact j
 ·have d:oK D=(0,D):=by unfold oK;rw[Zq λk=>c (e.2 k)]
  rw[d];exact Ok.mk (u_.same (n.ah P) P.af)
def BX(C:qg b)(u:Row aI 8 b f d a t)(v:∀h∈t,aJ h)(hD:∀P,f P->P<b.heap.size)(E:t.length<=64):
  YX 179 #[.agg #[.slice d a c]] b (Ok (oW fN 5 b (vG t))):=by
 have F:=u.len;refine wR (PA.mk λH I s1 w=>⟨_,_,_,ae w rfl,PC.ok (Bv (m:=(a:Int)) bc (Row.nil H λ_=>False) ba λ_ J=>J.elim) ?_⟩);rintro _ L ⟨a2,n2,c2,M,rfl,x,y,N⟩;have O:ai b L:=I.then y;have Q:oz (a:Int)=bR ((a:Int)::t.take 0):=by simp[bR]
 rw[List.nil_append,Q]at x;refine⟨_,_,_,rfl,_,_,_,ae (y.get w id) rfl,λz l m o i A=>∃n:Nat,i=n/\n<=a/\z=a-n/\∃B,aM fN 5 B A l m o (bR ((a:Int)::t.take n))/\ai b A/\∀P,B P->b.heap.size<=P,
  ⟨_,0,rfl,Qj _,rfl,M,x,O,λP j=>by have:=N P j;omega⟩,?_⟩
 rintro z l m o i _ R ⟨n,rfl,hj,rfl,S,e,g,a0⟩;have a1:(bR ((a:Int)::t.take n)).length<=9*(n+1):=by
  have h1:=fE (l:=(a:Int)::t.take n) (by
   intro h K;rcases Q2.1 K with rfl|K
   ·unfold aJ;omega
   ·exact v h (List.mem_of_mem_take K))
  have h2:((a:Int)::t.take n).length=n+1:=by simp;omega
  omega
 have a3:=e.len dC;refine al.dec (λa5=>?_) (λa6=>?_)
 ·obtain⟨P,p,h,rfl,K,T,U⟩:=(u.ah g).mP (i:=n) oM
  refine⟨P,p,rfl,oM,oM,_,U,PC.ok (Bv T (e.row (bytes:=1) dC ba) ba e.aC) ?_⟩;rintro _ V ⟨W,X,Y,q,rfl,k,r,s⟩;refine⟨_,_,_,rfl,_,?_,n+1,aq oM,oM,rfl,q,?_,g.then r,λP j=>by have:=s P j;have:=g.size;omega⟩
  ·omega
  ·have Z:bR ((a:Int)::t.take (n+1))=bR ((a:Int)::t.take n)++oz h:=by
    rw[Qw,K,<-List.cons_append,iw]
    congr 1
    simp[bR]
   rw[Z];exact k
 ·obtain rfl:n=a:=oM
  rw[Qz oM,F]at e
  change aM fN 5 S R l m o (xu t)at e
  have a7:=Ey v E;refine PC.ok (Ej (C.ah g) (e.row (bytes:=1) dC ba) e.aC) ?_;rintro _ V ⟨_,rfl,W,X,Y,q,rfl,k,r,s⟩;rw[show jX 2 (xu t)=(vG t,0) by unfold jX vG;rw[Zq dC,Zq oM]]at k⊢;exact⟨_,_,_,_,rfl,Ok.mk ⟨_,_,_,q,rfl,k,g.then r,λP j=>by have:=s P j;have:=g.size;omega⟩⟩
def BY{D:an}(ht:qg b)(hD:aO b a f D)(hl:Row aI 8 b Y d c t)(a8:∀b7∈t,aJ b7)(a3:∀n,Y n->n<b.heap.size/\¬f n)(a9:∀n,f n->n≠2/\n≠3):
  YX 112 #[ZL a,.agg #[.slice d c i]] b (Ok (u_ b a f (cf D t))):=by
 have hn:=hl.len;refine wA (PA.mk λw1 k1 s1 g1=>PA.mk λj U s2 g2=>PA.mk λw3 H s3 g3=>⟨_,_,_,ae (H.get g2 id) rfl,al.dec (λh=>?_) (λh=>?_)⟩)
 ·refine PS.mk g3 sM λp B s4 g4=>⟨_,ae g4 rfl,?_⟩
  have k:cf D t=(3,D):=by unfold cf;rw[Zx oM]
  rw[k];have y:ai b p:=((k1.then U).then H).new B λn P=>.inr oM;exact Ok.mk (u_.same (hD.ah y) y.af)
 refine PA.mk λp B s4 g4=>?_;have y:ai b p:=((k1.then U).then H).then B;have k:cf D t=xt t 0 5 D:=by unfold cf;rw[Zq oM]
 rw[k];have I:=hD.aC;refine⟨λa1 M l=>∃(u:Nat) (J:an) (v:ZN),M=u/\u<=5/\a1=5-u/\xt t 0 5 D=xt t u (5-u) J/\aO l a v J/\ak (λn=>f n\/n=j.heap.size) p l/\(∀n,v n->f n\/p.heap.size<=n)/\l.heap[j.heap.size]? =some (.cells #[ZH 0] 34 (0,0)),
  ⟨_,0,D,f,rfl,oM,rfl,rfl,hD.ah y,ak.refl _,λn P=>.inl P,B.get g3 id⟩,?_⟩
 rintro a1 M _ x ⟨u,J,v,rfl,hi,rfl,N,C,E,V,ge⟩;have W:∀n,b.heap.size<=n->n<p.heap.size->¬v n:=λn h1 h2 hf=>by
  rcases V n hf with h|h
  ·have:=I n h;omega
  ·omega
 have O:x.heap[b.heap.size]? =some (.cells #[ZL a] 93 (0,0)):=E.get (B.get (H.get (U.get g1 id) id) id) (λq=>q.elim (λh=>by have:=I _ h;omega) (λh=>oM));have gm:x.heap[w1.heap.size]? =some (.cells #[.slice d c i] 211 (0,0)):=E.get (B.get (H.get g2 id) id) (λq=>q.elim (λh=>by have:=I _ h;omega) (λh=>oM));have Q:=E.get g4 (λq=>q.elim (λh=>by have:=I _ h;omega) (λh=>oM));have c5:=E.size;have w:∀(k:Int) (R:an) (G:ZN) (g:World),aO g a G R->ak (λn=>f n\/n=j.heap.size) p g->(∀n,G n->f n\/p.heap.size<=n)->g.heap[j.heap.size]? =some (.cells #[ZH k] 34 (0,0))->
   xt t 0 5 D=(k,if k≠0 then(oK R).2 else R)->
   Lv ZP (λb0=>∃A:Int,b0.cell? ⟨j.heap.size,0,none⟩=some (ZH A)/\Ok (u_ b a f (xt t 0 5 D)) (.returned (ZH A)) b0) (λch l=>Ok (u_ b a f (xt t 0 5 D)) (.panicked ch) l)
    ([{target:=.fn (.func 173) #[ZL j.heap.size,ZL b.heap.size],args:= #[]}]:List Deferred) .returning g:=by
  intro k R G g hE r hG X hr;have b8:g.heap[b.heap.size]? =some (.cells #[ZL a] 93 (0,0)):=r.get (B.get (H.get (U.get g1 id) id) id) (λq=>q.elim (λh=>by have:=I _ h;omega) (λh=>oM));have m:∀o (K:ZN) (E':an),aO o a K E'->bB G g K o->xt t 0 5 D=(k,E')->∃A:Int,o.cell? ⟨j.heap.size,0,none⟩=some (ZH A)/\Ok (u_ b a f (xt t 0 5 D)) (.returned (ZH A)) o:=by
   intro o K E' a4 s a0;have b9:¬G j.heap.size:=λh=>(hG _ h).elim (λh=>by have:=I _ h;omega) (λh=>oM);have c6:=r.size;refine⟨k,ae (s.af.get X b9) rfl,Ok.mk ?_⟩;rw[a0];refine⟨K,rfl,a4,?_,λn P=>?_⟩
   ·have c0:ak f b g:=y.af.new r λn P=>P.imp id λh=>by omega
    exact c0.new s.af λn P=>(hG n P).imp id λh=>by omega
   ·rcases s.new n P with h|h
    ·exact(hG n h).imp id λh=>by omega
    ·exact .inr oM
  refine Lv.one sM kR (CallsD.mono (rQ (R:=λe' o=>e'= .returned (.tuple #[])/\∃A:Int,o.cell? ⟨j.heap.size,0,none⟩=some (ZH A)/\Ok (u_ b a f (xt t 0 5 D)) (.returned (ZH A)) o) ⟨_,ae X rfl,al.dQ (λZ=>?_) (λh0=>?_)⟩) ?_)
  ·refine⟨_,ae b8 rfl,PC.ok (qU hE) ?_⟩
   rintro _ o ⟨K,rfl,a4,s⟩;exact⟨_,rfl,rfl,m o K _ a4 s (by rw[hr,Zx Z])⟩
  ·exact⟨rfl,m g G R hE (bB.refl _ _) (by rw[hr,Zq (by simpa using h0)])⟩
  ·rintro e' u' o ⟨rfl,rfl,hX⟩
   exact Lv.ret rfl hX
 refine al.dec (λc7=>?_) (λc8=>?_)
 ·have b1:u<5:=oM
  have step:∀κ ε,(∀z l,u_ x a v (sR t u J) z l->κ z l)->∃b2:Value,x.cell? ⟨w3.heap.size,0+Int.toNat (u:Int),none⟩=some b2/\∃a5 a2 a7,b2= .func (.func a5) a2 a7/\enters ZP a5=true/\PC ZP a5 (a2++ #[]++a7) x κ ε:=by
   intro κ ε e;rw[Qx,Xz];have m:∀{b3:Int×an} {z l},u_ x a v b3 z l->∃M:Int,z= ZH M/\Ok (u_ x a v b3) (.returned (ZH M)) l:=λh=>lO _ _ (ak.refl _) h
   match u,b1,e with
   |0,_,e=>exact⟨_,ae Q rfl,_,_,_,rfl,kR,PC.ok (tE ⟨_,ae O rfl,PC.ok (qU C) λz l h=>m h⟩) e⟩
   |1,_,e=>exact⟨_,ae Q rfl,_,_,_,rfl,kR,PC.ok (tF ⟨_,ae O rfl,PC.ok (xW C) λz l h=>m h⟩) e⟩
   |2,_,e=>
    refine⟨_,ae Q rfl,_,_,_,rfl,kR,PC.ok (φ:=u_ x a v (sR t 2 J)) (tG λg d6=>?_) e⟩;have r:ai x g:=d6.af;have F:ak (λn=>f n\/n=j.heap.size) p g:=E.then r.af;have c1:Row aI 8 g Y d c t:=(hl.ah y).af F λn P q=>q.elim (a3 n P).2 λh=>by have:=(a3 n P).1;omega
    have c2:qg g:=by
     have:=(ht.ah y)
     have c9:b.heap.size<=p.heap.size:=y.size;have h1:=ht.lt;have hz:=F.size;refine⟨λS hj=>?_,λS hj=>?_,oM⟩
     ·exact(this.lower S hj)▸F.cell (a:=⟨2,S,none⟩) (by show 2<_;omega) (λq=>q.elim (λh=>(a9 _ h).1 rfl) (λh=>by have h:2=j.heap.size:=h;omega))
     ·exact(this.upper S hj)▸F.cell (a:=⟨3,S,none⟩) (by show 3<_;omega) (λq=>q.elim (λh=>(a9 _ h).2 rfl) (λh=>by have h:3=j.heap.size:=h;omega))
    refine⟨v,W _ (Q4 _) oM,_,ae (r.get O id) rfl,_,_,_,ae (r.get gm id) rfl,PC.ok (BX c2 c1 a8 (λn P=>by have:=(a3 n P).1;have:=y.size;have:=F.size;omega) oM) ?_⟩;rintro _ o ⟨d0,n7,d1,F7,rfl,a6,L,c3⟩;have d2:=BZ t;have d3:=Ey a8 oM;refine⟨_,_,_,rfl,L.af,PC.ok (xX ((C.ah r).ah L) (a6.row dC ba) (λk=>a6.Ns k) λn P=>⟨a6.aC n P,λhf=>by have:=C.aC n hf;have:=c3 n P;have:=r.size;omega⟩) ?_⟩;rintro _ w8 ⟨F8,rfl,c4,s⟩;exact⟨_,rfl,s.af,Ok.mk ⟨F8,rfl,c4,(bB.mk (ai.af (r.then L)) λ_ h=>.inl h:bB v x v o).trans s⟩⟩
   |3,_,e=>exact⟨_,ae Q rfl,_,_,_,rfl,kR,PC.ok (tH ⟨_,ae O rfl,PC.ok (Ed C) λz l h=>m h⟩) e⟩
   |4,_,e=>exact⟨_,ae Q rfl,_,_,_,rfl,kR,PC.ok (tI ⟨_,ae O rfl,PC.ok (Iq C) λz l h=>m h⟩) e⟩
  refine⟨_,_,rfl,oM,oM,step _ _ ?_⟩;rintro _ g ⟨F6,rfl,h6,s⟩;have b4:∀n,F6 n->n≠j.heap.size:=λn P k=>by
   subst k;rcases s.new _ P with h|h
   ·exact W _ oM oM h
   ·omega
  have b5:∀n,F6 n->f n\/p.heap.size<=n:=λn P=>by
   rcases s.new n P with h|h
   ·exact V n h
   ·exact .inr oM
  have F:ak (λn=>f n\/n=j.heap.size) p g:=E.new s.af λn P=>(V n P).imp .inl id;refine⟨_,rfl,PS.mk (s.af.get ge (W _ oM oM)) sM λo L s7 T=>?_⟩;have h7:=h6.af L λn P=>b4 n P;have b6:ak (λn=>f n\/n=j.heap.size) p o:=F.then (L.mono λn _ P=>.inr P);rw[NZ t b1]at N;refine⟨_,ae T rfl,al.dQ (λZ=>?_) (λh0=>?_)⟩
  ·refine⟨_,ae T rfl,PS.mk T sM λw8 k8 s8 g8=>?_⟩
   exact w _ _ F6 w8 (h7.af k8 λn P=>b4 n P) (b6.then (k8.mono λn _ P=>.inr P)) b5 g8 (by rw[N,Zx Z,Zx Z])
  ·rw[Zq (by simpa using h0)]at N
   rw[h0]at T;exact⟨rfl,_,oM,u+1,_,F6,aq oM,oM,rfl,N,h7,b6,b5,T⟩
 ·obtain rfl:u=5:=oM
  refine⟨_,ae ge rfl,PS.mk ge sM λg r s6 X=>?_⟩;refine w 0 J v g (C.af r λn P k=>W n oM oM P) (E.then (r.mono λn _ P=>.inr P)) V X ?_;rw[N];rfl
def Du{D:an}(ht:qg b)(hD:aO b a f D):
  YX 109 #[ZL a] b (Ok λQ g=>∃l o p G,Q= .tuple #[.agg #[.slice l o p],.bool (fr D).isSome]/\aM aI 3 G g l o p ((fr D).getD [])/\ai b g/\∀n,G n->b.heap.size<=n):=by
 refine yU (PA.mk λA C s1 g1=>PC.ok (xj (hD.ah C)) ?_);rintro _ w2 ⟨_,rfl,a7,n2,c2,F2,rfl,u,R,e8⟩
 change aM fN 5 F2 w2 a7 n2 c2 (D.read vF).1 at u
 have b3:(D.read vF).1.length<=262144:=by
  unfold an.read;split
  ·simp
  ·split
   ·simp
   ·rename_i e7 hf;exact hD.ok.len (bW hf)
 have a3:∀{g},ai A g->g.heap[b.heap.size]? =some (.cells #[.slice none 0 0] 211 (0,0)):=λhk=>hk.get g1 id;have d:fr D=none->∀v,ai A v->PS v ⟨b.heap.size,0,none⟩ (.slice none 0 0) λw=>∃(b4:YQ) (b5:Nat) (b6:Nat),w.cell? ⟨b.heap.size,0,none⟩=some (.slice b4 b5 b6)/\
   Ok (λQ g=>∃l o p G,Q= .tuple #[.agg #[.slice l o p],.bool (fr D).isSome]/\aM aI 3 G g l o p ((fr D).getD [])/\ai b g/\∀n,G n->b.heap.size<=n) (.returned (.tuple #[.agg #[.slice b4 b5 b6],.bool false])) w:=by
  intro S v E;refine PS.mk (a3 E) sM λw4 T s4 U=>⟨_,_,_,ae U rfl,?_⟩
  rw[S];exact Ok.mk ⟨none,0,0,λ_=>False,rfl,aM.nil w4,(C.then E).new T λn P=>.inr oM,λ_ h=>h.elim⟩
 refine⟨_,_,_,_,rfl,al.dQ (λk=>d (by unfold fr;exact Zx k) w2 R) (λS=>?_)⟩;have B:fr D=jJ (D.read vF).1:=by unfold fr;exact Zq λh=>h S
 generalize(D.read vF).1=F at u b3 B;have d6:=u.len dC;refine PC.ok (Ek (ht.ah (C.then R)) (u.row (bytes:=1) dC ba) u.jD u.aC) ?_;rintro _ v ⟨c0,n3,c3,F3,rfl,b7,E,e9⟩;refine⟨_,_,_,_,_,_,rfl,PA.mk λw4 T s4 U=>PS.mk U sM λw5 k5 s5 g5=>PS.mk g5 sM λx k6 s6 g6=>?_⟩;have V:x.heap[v.heap.size]? =some (.cells #[ZH (bq F).kind,.slice c0 n3 c3] 277 (0,0)):=g6;have W:ai v x:=(T.new k5 λn P=>.inr oM).new k6 λn P=>.inr oM;have s:ai A x:=(R.then E).then W;have f8:=W.size;refine al.dQ (λk=>d (by rw[B];unfold jJ;exact Zx (.inl k)) x s) (λb8=>?_);refine al.dQ (λk=>d (by rw[B];unfold jJ;exact Zx (.inr (.inl λe=>k (by rw[e,d6])))) x s) (λg0=>?_);refine⟨_,ae V rfl,al.dQ (λk=>d (by rw[B];unfold jJ;exact Zx (.inr (.inr k))) x s) (λd7=>?_)⟩;have X:fr D=if kM (oL (bq F).body).2≠0 then none else some (oL (bq F).body).1:=by
  rw[B];unfold jJ;refine Zq ?_;rintro(h|h|h)
  ·exact h b8
  ·exact h oM
  ·exact h d7
 have Y:=b7.ah W;obtain⟨g2,h9,d8⟩:=vm b8;generalize(bq F).body=c at Y X d8 V b7;refine⟨_,_,_,ae V rfl,PC.ok (Ef (Y.row (bytes:=1) dC ba) Y.aC) ?_⟩;rintro _ w ⟨H,a4,rfl,I,k7,hP⟩;refine⟨_,rfl,PA.mk λw8 k8 s8 g8=>PC.ok (It (m:=64) (I.ah k8)) ?_⟩;rintro _ t ⟨rfl,Z,k9⟩;have b9:=I.aC;have hq:=I.self;have g3:=b9 H hq;have g7:=hP H hq;obtain⟨c1,a8,c5,c4⟩:=mC.Fit.count (r:=⟨c,0,0⟩) ⟨Qj _,.inl rfl⟩ (m:=64) oM;have g9:t.heap[w.heap.size]? =some (.cells #[.slice none 0 0] 211 (0,0)):=k9.get g8 (λe=>oM);have J:oL c=bh (bZ 64 ⟨c,0,0⟩).1.toNat (bZ 64 ⟨c,0,0⟩).2:=rfl;have K:ai A t:=((s.then k7).then k8).new k9 λn P=>.inr (by have:=s.size;omega);generalize h2:bZ 64 ⟨c,0,0⟩=ct at Z c1 a8 c5 c4 J;obtain⟨cn,L⟩:=ct;simp only at Z c1 a8 c5 c4 J;refine⟨_,rfl,λm a5 g=>∃i:Nat,a5=i/\(i:Int)<=cn/\m=cn.toNat-i/\e_ g H a4 (bh i L).2/\ai A g/\∃l o p G,g.heap[w.heap.size]? =some (.cells #[.slice l o p] 211 (0,0))/\aM aI 3 G g l o p (bh i L).1/\(∀n,G n->t.heap.size<=n)/\t.heap.size<=g.heap.size,
  ⟨_,0,rfl,a8,rfl,Z,K,none,0,0,λ_=>False,g9,aM.nil t,λ_ h=>h.elim,Q4 _⟩,?_⟩
 have h3:=k9.size;rintro m a5 _ c6 ⟨i,rfl,hj,rfl,a0,M,c7,c8,c9,d0,a9,y,q,f0⟩;have d9:∀n,a4 n->n<t.heap.size:=λn P=>by have:=b9 n P;omega
 refine al.dec (λh4=>?_) (λh5=>?_)
 ·intro N b0
  have j:ai c6 N:=b0.af;refine⟨(λn=>n=H\/d0 n),λhs=>hs.elim (λe=>oM) (λe=>by have:=q _ e;omega),_,_,_,ae (j.get a9 id) rfl,PC.ok (Gi (a0.ah j)) ?_⟩;rintro _ d1 ⟨rfl,d2,r⟩;obtain⟨f1,f2,f3,f4⟩:=c1.ints i;obtain⟨f5,f6,f7⟩:=f1.int;refine⟨_,rfl,r.mono λn _ P=>.inl P,?_⟩;have a1:=(y.ah j).af r λn P e=>by have:=q n P;omega
  refine PA.mk λh6 z h7 e0=>⟨z.af,?_⟩
  have d3:=a1.ah z;have d4:(bh i L).1.length=i:=f3;refine kK d3 uk (D:=(·=d1.heap.size)) (Row.lit e0 [(fF (bh i L).2).1] rfl (λf9 hx=>by simp at hx;subst hx;exact f6) (by unfold aK;simp)) (λn e=>⟨oM,λe2=>by have:=a1.aC n (a1.self n e2);omega⟩) (by rw[d4];unfold aK;simp;omega) (by rw[d4];unfold maxLen;simp;omega) λb1 e1 e3 h8 a2 O _ d5=>?_
  replace a2:=a2.alone
  have e4:e3.heap[w.heap.size]? =some (.cells #[.slice c7 c8 c9] 211 (0,0)):=O.get (z.get (r.get (j.get a9 id) (λe=>oM)) id) (λe=>by have:=q _ (y.self _ e);omega);have z1:=j.size;have z2:=r.size;have z3:=z.size;have z4:=O.size;have a6:∀n,aD b1=some n->t.heap.size<=n:=λn P=>by
   rcases d5 n P with h|h
   ·exact q n h
   ·omega
  refine⟨_,_,_,rfl,PS.mk e4 sM λi0 b2 i1 e5=>⟨_,oM,i+1,aq oM,oM,rfl,?_,?_,b1,_,e1,(λn=>aD b1=some n),e5,?_,a6,oM⟩⟩
  ·refine(((d2.ah z).af O λn P e=>by have:=d9 n P;have:=q n (y.self n e);omega)).af b2 λn P e=>by have:=I.aC n P;omega
  ·refine((((M.then j).new r λn P=>.inr (by have:=s.size;omega)).then z).new O λn P=>.inr (by have:=q n (y.self n P);have:=K.size;omega)).new b2 λn P=>.inr (by have:=(s.then k7).size;omega)
  ·exact a2.af b2 λn P e=>by have:=a6 n P;omega
 ·obtain rfl:cn=(i:Int):=oM
  rw[Qx]at J;rw[<-J]at a0 y;refine PC.ok (Mm a0) ?_;rintro _ N ⟨rfl,b0⟩;have j:ai c6 N:=b0.af;refine⟨_,rfl,al.dQ (λk=>d (by rw[X];exact Zx k) N (M.then j)) (λh0=>?_)⟩;have hS:fr D=some (oL c).1:=by rw[X];exact Zq λh=>h h0
  rw[hS];refine⟨_,_,_,ae (j.get a9 id) rfl,PS.mk (a3 (M.then j)) sM λd1 r i2 e6=>⟨_,_,_,ae e6 rfl,Ok.mk ⟨c7,c8,c9,d0,rfl,?_,?_,?_⟩⟩⟩
  ·exact(y.ah j).af r λn P e=>by have:=q n P;have:=K.size;omega
  ·exact(C.then (M.then j)).new r λn P=>.inr oM
  ·intro n P;have:=q n P;have:=K.size;omega
def Gt{x y:Operand}{a b c d:Int}{w:World}:(do eqGuard .eql 46 x y (.agg #[ZH a,ZH b]) (.agg #[ZH c,ZH d]);binOp .eql 46 (.agg #[ZH a,ZH b]) (.agg #[ZH c,ZH d]):Sem Value).run ZP w= .ok (.bool (a==c&&b==d)) w:=by
 have f:Tryz.prog.underlying 46=some (.struct (Tryz.prog.fieldsOf 46)):=kR
 have e:Tryz.prog.underlying 3=some (.int .i64):=kR
 have n:(Tryz.prog.fieldsOf 46).toList.map (λP=>(P.name,P.type,P.offset))=[("Origin",3,0),("Seq",3,1)]:=kR
 rw[Sem.run_bind,run_eqGuard_agg w .eql _ x y _ _ kR,Result.andThen_ok,run_eql_struct,run_equalIn_struct w 9999 _ _ _ f kR];generalize(Tryz.prog.fieldsOf 46).toList=g at n
 match g,n with
 |[P,t],n=>
  simp only[QY,List.map_nil,List.cons.injEq,Prod.mk.injEq,and_true]at n;obtain⟨⟨h,i,j⟩,k,l,m⟩:=n;have o:(isAgg 3).run ZP w= .ok false w:=cM _ _ _ kR ⟨_,e⟩ w;have p:=run_equalIn_int (P:=ZP) w 9998 3 .i64 .i64 a c e;have q:=run_equalIn_int (P:=ZP) w 9998 3 .i64 .i64 b d e;unfold Op.eqFields Op.eqFields Op.eqFields;rw[h,i,j,k,l,m]
  cases r:a==c<;>simp[part,o,p,q,r]
  by_cases s:b=d<;>simp[s]
 |[],n=>simp at n
 |[_],n=>simp at n
 |_::_::_::_,n=>simp at n
def mh{a j r s:Nat}{D v:ZN}(c:Row aI 8 b D d a t)(k:Row aI 8 b v u j b1):
  YX 14 #[.slice d a r,.slice u j s] b (Ok λw e=>w= .bool (decide (t=b1))/\br b e):=by
 have x:=c.len;have y:=k.len;have z:=c.ef;unfold aK at z;refine AS (al.dQ (λl=>?_) (λl=>?_))
 ·have f:t≠b1:=by rintro rfl;simp[x,y]at l
  exact Ok.mk ⟨by simp[f],br.refl b⟩
 ·refine⟨λm i e=>∃n:Nat,i=n/\n<=a/\m=a-n/\t.take n=b1.take n/\br b e,⟨_,0,rfl,Qj _,rfl,rfl,br.refl b⟩,?_⟩
  rintro m i _ L ⟨n,rfl,M,rfl,o,P⟩;refine al.dec (λA=>?_) (λA=>?_)
  ·obtain⟨B,C,N,rfl,p,_,E⟩:=(c.ah P.af).mP (i:=n) oM
   obtain⟨F,H,O,rfl,g,_,I⟩:=(k.ah P.af).mP (i:=n) oM;refine⟨B,C,rfl,oM,oM,_,E,F,H,rfl,oM,oM,_,I,λQ q=>?_⟩;refine al.dQ (λh=>?_) (λh=>?_)
   ·have f:t≠b1:=by rintro rfl;rw[p]at g;cases g;exact h rfl
    exact Ok.mk ⟨by simp[f],P.then q⟩
   ·subst h
    exact⟨_,oM,n+1,aq oM,oM,rfl,El o p g,P.then q⟩
  ·have:t=b1:=by
    have J:t.take n=t:=Qz oM;have K:b1.take n=b1:=Qz oM;rw[<-J,<-K,o]
   exact Ok.mk ⟨by simp[this],P⟩
def sI{D y:ZN}(z:Row aI 8 b D d a o.aQ)(A:Row aI 8 b y u c O.aQ):
  YX 39 #[.agg (aE o d a i).toArray,.agg (aE O u c p).toArray] b (Ok λl g=>l= .bool (decide (o=O))/\ai b g):=by
 have no:∀{g},ai b g->o≠O->Ok (λl g=>l= .bool (decide (o=O))/\ai b g) (.returned (.bool false)) g:=λB C=>Ok.mk ⟨by rw[Xv C],B⟩;refine yQ (PA.mk λI E J F=>PA.mk λr s K j=>?_);have P:=s.get F id;have k:ai b r:=E.then s;refine⟨_,_,ae P rfl,ae P rfl,_,_,ae j rfl,ae j rfl,aG.mk Gt ⟨_,rfl,al.mk (λm=>?_) (λm=>?_)⟩⟩
 rotate_left
 ·exact no k λn=>by subst n;simp at m
 refine⟨_,ae P rfl,_,ae j rfl,al.cW (λt=>?_) (λt=>no k λn=>t (by rw[n]))⟩;refine⟨_,_,_,ae P rfl,_,_,_,ae j rfl,PC.ok (mh (z.ah k) (A.ah k)) ?_⟩;rintro _ v ⟨rfl,H⟩;have q:ai r v:=H.af;have P:=q.get P id;have h:=q.get j id;have f:ai b v:=k.then q;refine⟨_,rfl,al.dec (λw=>?_) (λw=>no f λn=>w (by rw[n]))⟩;refine⟨_,ae P rfl,_,ae h rfl,al.cW (λL=>?_) (λe=>no f λn=>e (by rw[n]))⟩;refine⟨_,ae P rfl,_,ae h rfl,al.cW (λM=>?_) (λe=>no f λn=>e (by rw[n]))⟩;refine⟨_,ae P rfl,_,ae h rfl,al.cW (λN=>?_) (λe=>no f λn=>e (by rw[n]))⟩;refine⟨_,ae P rfl,_,ae h rfl,al.cW (λQ=>?_) (λe=>no f λn=>e (by rw[n]))⟩;refine⟨_,ae P rfl,_,ae h rfl,al.cW (λR=>?_) (λe=>no f λn=>e (by rw[n]))⟩;refine⟨_,ae P rfl,_,ae h rfl,Ok.mk ⟨?_,f⟩⟩
 congr 1
 have S:o.origin=O.origin/\o.seq=O.seq:=by simpa using m
 by_cases x:o.key=O.key
 ·have:o=O:=by cases o;cases O;simp_all
  subst this;simp
 ·rw[Xv λn=>x (by rw[n])]
  simp[x]
def AK{c m w x:Nat}{D y:ZN}(f:Row jB 96 b D d c J)(o:Row jB 96 b y u m e0):
  YX 17 #[.slice d c w,.slice u m x] b (Ok λz g=>z= .bool (decide (J=e0))/\ai b g):=by
 have A:=f.len;have B:=o.len;have C:=f.ef;unfold aK at C;refine wB (al.dQ (λp=>?_) (λp=>?_))
 ·have h:J≠e0:=by rintro rfl;simp[A,B]at p
  exact Ok.mk ⟨by simp[h],ak.refl b⟩
 ·refine⟨λq i g=>∃a:Nat,i=a/\a<=c/\q=c-a/\J.take a=e0.take a/\ai b g,⟨_,0,rfl,Qj _,rfl,rfl,ak.refl b⟩,?_⟩
  rintro q i _ S ⟨a,rfl,T,rfl,r,s⟩;refine al.dec (λE=>?_) (λE=>?_)
  ·intro F H
   have e:ai b F:=s.then H.af;obtain⟨I,K,U,V,rfl,_,_,t,L,W,X,Y,rfl,M,Z⟩:=(f.ah e).vW (i:=a) oM;obtain⟨N,O,a0,fs,rfl,_,_,j,Q,a2,n2,c2,rfl,R,a3⟩:=(o.ah e).vW (i:=a) oM;have n:=λi (k:i<10)=>L i k;have P:=λi (k:i<10)=>Q i k;refine⟨I,K,rfl,oM,oM,_,_,_,_,_,_,_,_,_,_,_,_,n 0 dC,n 1 dC,n 2 dC,n 3 dC,n 4 dC,n 5 dC,n 6 dC,n 7 dC,n 8 dC,n 9 dC,?_⟩;refine⟨N,O,rfl,oM,oM,_,_,_,_,_,_,_,_,_,_,_,_,P 0 dC,P 1 dC,P 2 dC,P 3 dC,P 4 dC,P 5 dC,P 6 dC,P 7 dC,P 8 dC,P 9 dC,?_⟩;refine PC.ok (sI M R) ?_;rintro _ w3 ⟨rfl,v⟩;refine⟨_,rfl,al.not (al.dec (λl=>?_) (λl=>?_))⟩
   ·subst l
    exact⟨_,oM,a+1,aq oM,oM,rfl,El r t j,e.then v⟩
   ·have h:J≠e0:=by rintro rfl;rw[t]at j;cases j;exact l rfl
    exact Ok.mk ⟨by simp[h],e.then v⟩
  ·have:J=e0:=by
    have n:J.take a=J:=Qz oM;have P:e0.take a=e0:=Qz oM;rw[<-n,<-P,r]
   exact Ok.mk ⟨by simp[this],s⟩
end Go.Proofs.YtjgjkeponbeekaaGreatDoor
namespace Go.au
open Go.ChangeShapes Go.WideShapes Go.ChangeAt Go.RowKit
def lR{n:Type}(P:Program)(a:TypeId)(b:DataW n):Prop:=∀c∈b.weights P a,c<=reachBytes
abbrev In(n:World):ZN:=λP=>P<n.heap.size
variable{e:Int}{a c:Nat}{j:Type}{g q:TypeId}{v:Value}
section
variable {H:Type} {enc:TypeId×Value->H} {P:Program} {w:World} {base:Nat} {held:Bool}
def PD{n:List TypeId}{a:List (DataW H)}(c:(DataW.weightsEach P n a).all (·<=reachBytes)=true){j:Nat}{b:DataW H}(d:n[j]? =some g)(e:a[j]? =some b):lR P g b:=
 λf h=>by simpa using ZY.1 c _ (DataW.weights_mem_each d e f h)
def qG{b:TypeId}:∀{n:List (DataW H)} {d:DataW H},d∈n->∀a∈d.weights P b,a∈DataW.weightsAll P b n
 |x::n,d,h,a,c=>by
  simp only[DataW.weightsAll,Q6];rcases Q2.1 h with rfl|h
  ·exact Or.inl c
  ·exact Or.inr (qG h a c)
def Reads{c:Type}(P:Program)(d:jF c)(a:TypeId):Prop:=
 ∀(H:Type) (enc:TypeId×Value->H) (w:World) (held:Bool) (n:Nat) (cs:List Value) (b:DataW H×List MemPlace),DataW.trod enc P w 0 (λ_=>true) held n a cs=some b->lR P a b.1->∃e,d.rep w (In w) e cs
def kO{P:Option _}(n:w.cell? ⟨a,c,P⟩=some v):a<w.heap.size:=by
 unfold World.cell? at n
 by_cases b:a<w.heap.size
 ·exact b
 ·rw[show w.heap[a]? =none by simp;omega]at n;cases n
def open_row{i:jF j}{bytes v:Nat}{cs:List Value}{B:DataW H×List MemPlace}(I:P.underlying g=some (.slice q))(Q:P.cellsOf q=i.k)(J:0<i.k)(R:P.bytesOf q=bytes)(S:Reads P i q)(o:DataW.trod enc P w 0 (λ_=>true) held v g cs=some B)(T:lR P g B.1):
  ∃a p e U,cs=[.slice a p e]/\p<=e/\(a=none->p=0/\e=0)/\Row i bytes w (In w) a p U:=by
 rcases DataW.trod_slice I o with⟨rfl,rfl⟩|⟨a,b,e,n,f,p,_,rfl,rfl,hb,V,hm,a4,W,a5,a6⟩
 ·exact⟨none,0,0,[],rfl,Q4 _,λ_=>⟨rfl,rfl⟩,Row.nil _ _⟩
 ·have x:∀k∈(n.length+f.length)*P.bytesOf q::(DataW.weightsAll P q (n.map (·.1))++DataW.weightsAll P q (f.map (·.1))),k<=reachBytes:=by
   have:=T;simpa only[lR,DataW.weights,I,Q8]using this
  have read:∀d,d<b->∃c k,n[d]? =some k/\c.length=i.k/\(∀h,h<i.k->w.cell? (a.add (d*i.k+h))=c[h]?)/\DataW.trod enc P w 0 (λ_=>true) held p q c=some k:=by
   intro d m;have K:=W d m;rw[Q,Qq (by omega:d<n.length)]at K;obtain⟨c,A,y⟩:=Option.bind_eq_some_iff.1 K;obtain⟨_,C,s⟩:=World.cells?_some A;exact⟨c,_,Qq oM,C,λh E=>by rw[<-Addr.add_add];exact s h E,y⟩
  have X:0<b->a.spot=none:=by
   intro Y;obtain⟨c,k,_,C,s,_⟩:=read 0 Y;have:=s 0 J;rw[Nat.zero_mul,Nat.add_zero,Qq oM]at this;have q:a.add 0=a:=by simp[Addr.add]
   rw[q]at this;unfold World.cell? at this;split at this
   ·cases t:a.spot with
    |none=>rfl
    |some L=>rw[t]at this;simp at this
   ·cases this
  have one:∀d,d<b->∃r,∃u z M,some a=some ⟨u,z,none⟩/\u<w.heap.size/\In w u/\(∀h,h<i.k->w.cell? ⟨u,z+d*i.k+h,none⟩=M[h]?)/\i.rep w (In w) r M:=by
   intro d m;have t:=X oM;have N:∀F,a.add F=⟨a.block,a.off+F,none⟩:=by
    intro F;obtain⟨u,Z,L⟩:=a;simp only at t;subst t;unfold Addr.add;split
    ·next o=>subst o;rfl
    ·rfl
   obtain⟨c,k,y,C,s,h5⟩:=read d m;have a0:lR P q k.1:=λr l=>x r (QJ _ (ZV _ (qG (d:=k.1) (Xk.2 ⟨k,QZ y,rfl⟩) r l)));obtain⟨r,l⟩:=S H enc w held p c k h5 a0;have O:a.block<w.heap.size:=by
    have:=s 0 J;rw[N,Qq oM]at this;exact kO this
   refine⟨r,a.block,a.off,c,?_,O,O,λh E=>?_,l⟩
   ·obtain⟨u,Z,L⟩:=a
    simp only at t;rw[t]
   ·have:=s h E
    rw[N]at this;rw[<-this,Nat.add_assoc]
  have a1:b*bytes<=aK:=by
   have A:=x _ (QV ..);have y:b*P.bytesOf q<=(n.length+f.length)*P.bytesOf q:=Q0 _ oM;rw[R]at A y;unfold reachBytes at A;unfold aK;omega
  by_cases l:b=0
  ·subst l
   exact⟨some a,0,e,[],rfl,Qj _,λo=>(by cases o),rfl,sM,λd B m=>(by simp at m)⟩
  ·have a2:Nonempty j:=⟨(one 0 oM).choose⟩
   haveI:Inhabited j:=⟨Classical.choice a2⟩
   obtain⟨a3,hf⟩:=Go.Deep.choose_lt one;refine⟨some a,b,e,(List.range b).map a3,rfl,V,λo=>(by cases o),sM,a1,λd r l=>?_⟩
   by_cases m:d<b
   ·rw[Q9,List.getElem?_range m]at l
    cases l
    exact hf d m
   ·rw[Q7 be]at l;cases l
def bd(n:(Lit.int .i64 e).wf=true):aJ e:=by
 have:IntKind.i64.min<=e/\e<=IntKind.i64.max:=by simpa[Lit.wf]using n
 exact this
end
variable{l:Array Value}{a7:Func}{f8:List MemPlace}{b k:World}
def ai.below(n:ai b k):Below b.heap.size b k:=⟨n.os,n.tape,n.output,n.size,λP a=>n.block P a id⟩
section
variable {H:Type} {enc:TypeId×Value->H} {P:Program}
def vo(i:laidOutB P=true){e j:World}(k:ai e j){l:Nat->Bool}:∀{b:List TypeId} {m:List Value} {o:List (DataW H)} {c:List MemPlace},b.all (λf=>P.readableRec f&&decide (f<P.types.size))=true->(∀n∈c,n.block<e.heap.size)->(∀n∈c,l n.block=true)->
  DataW.TrodAll enc P e 0 (λ_=>true) true b m o c->DataW.TrodAll enc P j 0 l true b m o c
 |[],_,_,_,_,_,_,a=>by
  obtain⟨rfl,rfl,rfl⟩:=trodAll_nil a;exact trodAll_mk0
 |f::b,_,_,_,d,p,q,a=>by
  obtain⟨t,u,v,w,x,y,rfl,rfl,rfl,r,s⟩:=trodAll_cons a;simp only[List.all_cons,QK,Zk]at d;refine trodAll_cons_mk (WideElems.Trod_stays i d.1.1 d.1.2 r (λg h=>k.below.same (p g (ZV _ h))) λg h=>q g (ZV _ h)) (vo i k (by simpa using d.2) (λn a=>p n (ZW _ a)) (λn a=>q n (ZW _ a)) s)
def Ni{c:ChangeSpec}{e o:List (DataW H)}{tb:TypeId}{n h E i:Bool}(F:laidOutB P=true)(u:a7.resultTypes= #[tb])(v:P.underlying tb=some .bool)(w:c.vars=[])(I:(c.fn H (e++o)).results=[.lit (.bool true)])(J:(c.fn H (e++o)).args=e)(K:(c.fn H (e++o)).vars=[])(L:a7.params.toList.all (λx=>P.readableRec x&&decide (x<P.types.size))=true)(p:DataW.Whole enc P a7.params.toList c.vars n b l.toList e o f8)(q:ai b k):c.post enc P a7 n h E i b l (.bool true) k:=by
 have M:=p;have r:=λa d=>p.lt a d;obtain⟨a,V,N,y,O,Q,R⟩:=p;rw[w]at y;obtain⟨rfl,rfl⟩:=trodVars_none y;obtain rfl:f8=a:=by simpa using O
 have z:∀f:Nat->Bool,(∀a∈f8,f a.block=true)->DataW.TrodAll enc P k 0 f true a7.params.toList l.toList (c.fn H (e++[])).args f8:=λf S=>by
  rw[J];exact vo F q L (λs t=>by simpa using r s t) (λs t=>S s t) N
 have A:∀(g:Nat) (f:Nat->Bool) (B:Bool),DataW.TrodAll enc P k g f B a7.resultTypes.toList ((Value.bool true).resultList a7.resultTypes.size) (c.fn H (e++[])).results []:=λg f B=>by
  rw[u,I];exact trodAll_cons_mk (shut_bool v _) trodAll_mk0
 have C:∀f:Nat->Bool,DataW.TrodVars enc P k f c.vars (c.fn H (e++[])).vars []:=λf=>by rw[K,w];exact rfl
 have T:∀a∈f8,(λg=>decide (g<b.heap.size)) a.block=true:=λa d=>by simpa using r a d
 refine⟨e,[],f8,[],f8,[],M,A _ _ _,z _ T,C _,World.keptBut_mono (λa d=>⟨d,Or.inr (by simpa using d)⟩) (q.below.frame (·∈f8)),λ_=>?_⟩;refine⟨ok_one u rfl (okWide_bool_mk v _),_,_,([]++f8)++[],⟨[]++f8,[],trodAll_append (z _ (λ_ _=>rfl)) (A _ _ _),C _,rfl,?_,?_⟩,?_⟩
 ·intro g j d
  have m:MemPlace.cell g j∈f8:=by simpa using d
  rw[q.below.frozen (p:=⟨g,j,none⟩) (r _ m)];exact Q g j (by simpa using m)
 ·intro U
  simpa using R U
 ·intro a d _
  simpa using d
end
end Go.au
namespace Go.Proofs.YtjgjkeponbeekaaGreatDoor
open Go.au
def aT(a P:World)(d:Nat)(D:an)(b:ZN):Prop:=∃c,aO P d c D/\ai a P/\(∀n,c n->a.heap.size<=n/\¬b n)/\∀n,b n->n<P.heap.size
abbrev no:ZN:=λ_=>False
abbrev dy(n:ZN):ZN:=λP=>¬n P
variable{l:Array Value}{z:FuncId}{e:Int}{d3:Int×an}{x:List UInt8}{a c:Nat}{f:ZN}{d:YQ}
section
variable {w0 w w1 w':World} {p:Nat} {D D':an} {X Y:ZN}
def aT.gr(n:aT w0 w p D X):ai w0 w:=by obtain⟨a,b,P,c,d⟩:=n;exact P
def aT.ok(n:aT w0 w p D X):D.Ok:=by obtain⟨a,P,b,c,d⟩:=n;exact P.ok
def aT.ah(P:aT w0 w p D X)(n:ai w w'):aT w0 w' p D X:=by
 obtain⟨a,b,c,d,e⟩:=P;exact⟨a,b.ah n,c.ah n,d,λf g=>Qk (e f g) n.size⟩
def aT.mono(c:aT w0 w p D X)(a:∀n,Y n->X n):aT w0 w p D Y:=by
 obtain⟨d,e,f,b,g⟩:=c;exact⟨d,e,f,λn P=>⟨(b n P).1,λh=>(b n P).2 (a n h)⟩,λn P=>g n (a n P)⟩
def aT.add(P:aT w0 w p D X)(b:ai w w')(c:∀n,Y n->w.heap.size<=n/\n<w'.heap.size):aT w0 w' p D (λn=>X n\/Y n):=by
 obtain⟨f,d,g,e,h⟩:=P;exact⟨f,d.ah b,g.ah b,λn a=>⟨(e n a).1,λi=>i.elim (e n a).2 λj=>by have:=d.aC n a;have:=(c n j).1;omega⟩,λn a=>a.elim (λP=>Qk (h n P) b.size) λP=>(c n P).2⟩
def aT.of(a:ai w0 w)(b:ai w w')(e:aO w' p f D)(c:∀n,f n->w.heap.size<=n)(d:∀n,X n->n<w.heap.size):aT w0 w' p D X:=
 ⟨f,e,a.ah b,λn P=>⟨Xx a.size (c n P),λg=>by have:=c n P;have:=d n g;omega⟩,λn P=>Qk (d n P) b.size⟩
def nw(w0 w:World)(p:Nat)(X:ZN)(n:Int×an)(P:Value)(w':World):Prop:=P= ZH n.1/\aT w0 w' p n.2 X/\ak (dy X) w w'
def aT.VF(e:aT w0 w p D X)(d:ai w w1)(i:∀a,aO w1 p a D->(∀n,a n->w0.heap.size<=n/\n<w.heap.size/\¬X n)->YX z l w1 (Ok (u_ w1 p a d3))):YX z l w1 (Ok (nw w0 w1 p X d3)):=by
 obtain⟨a,f,g,b,h⟩:=e;refine Calls.ok (i a (f.ah d) λn P=>⟨(b n P).1,f.aC n P,(b n P).2⟩) ?_;rintro q w' ⟨j,k,m,c⟩;have:=d.size;have:=g.size;have:=c.af.size;exact⟨k,⟨j,m,(g.ah d).new c.af λn P=>.inr (b n P).1,λn P=>(c.new n P).elim (b n) λe=>⟨oM,λo=>by have:=h n o;omega⟩,λn P=>by have:=h n P;omega⟩,c.af.mono λn _ P=>(b n P).2⟩
def aT.call(a:aT w0 w p D X)(b:∀P,aO w p P D->(∀n,P n->w0.heap.size<=n/\n<w.heap.size/\¬X n)->YX z l w (Ok (u_ w p P d3))):YX z l w (Ok (nw w0 w p X d3)):=a.VF (ak.refl w) b
def aT.append{e:ByteArray}(P:aT w0 w p D X)(b:Row fN 1 w f d a x)(j:d=none->a=0/\c=0)(g:∀n,f n->n<w0.heap.size\/X n):
  YX 178 #[ZL p,.string e,.slice d a c] w (Ok (nw w0 w p X (D.append e x))):=by
 have q:=P.gr.size;have k:∀n,X n->n<w.heap.size:=by obtain⟨l,r,s,t,m⟩:=P;exact m
 exact P.call λl o h=>xX o b j λn b=>⟨(g n b).elim (λP=>oM) (k n),λi=>(g n b).elim (λP=>by have:=(h n i).1;omega) (h n i).2.2⟩
def aT.create{n:ByteArray}(P:aT w0 w p D X):YX 170 #[ZL p,.string n] w (Ok (nw w0 w p X (D.create n))):=P.call λb a _=>xW a
def aT.sync{n:ByteArray}(P:aT w0 w p D X):YX 172 #[ZL p,.string n] w (Ok (nw w0 w p X (D.sync n))):=P.call λb a _=>Ed a
def aT.Io{k:ByteArray}(n:aT w0 w p D X):YX 169 #[ZL p,.string k,ZH e] w (Ok (nw w0 w p X (D.Io k e))):=n.call λa P _=>PO P
def aT.delete{n:ByteArray}(P:aT w0 w p D X):YX 141 #[ZL p,.string n] w (Ok (nw w0 w p X (D.delete n))):=P.call λb a _=>xV a
def aT.read{k:ByteArray}(j:aT w0 w p D X):YX 162 #[ZL p,.string k] w (Ok λd w'=>∃a b c P,d= .tuple #[.slice a b c,ZH (D.read k).2]/\aM fN 5 P w' a b c (D.read k).1/\(∀n,P n->w.heap.size<=n)/\aT w0 w' p D (λn=>X n\/P n)/\ai w w'):=by
 obtain⟨P,e,l⟩:=j;refine Calls.ok (xj e) ?_;rintro d w' ⟨m,rfl,a,b,c,G,rfl,f,g,h⟩;exact⟨a,b,c,G,rfl,f,h,aT.add ⟨P,e,l⟩ g λn i=>⟨h n i,f.aC n i⟩,g⟩
def aT.list(j:aT w0 w p D X):YX 160 #[ZL p] w (Ok λd w'=>∃a b c P,d= .slice a b c/\aM Ny 9 P w' a b c D.list/\(∀n,P n->w.heap.size<=n)/\aT w0 w' p D (λn=>X n\/P n)/\ai w w'):=by
 obtain⟨P,e,k⟩:=j;refine Calls.ok (xk e) ?_;rintro d w' ⟨a,b,c,G,rfl,f,g,h⟩;exact⟨a,b,c,G,rfl,f,h,aT.add ⟨P,e,k⟩ g λn i=>⟨h n i,f.aC n i⟩,g⟩
end
def Uq(n:Nat):an:=⟨n,[],false,0,false⟩
variable{A:ZT}{t:List Int}{b k:World}
def sZ(g:ai b k)(l:64<=e)(m:e<=262144):YX 42 #[ZH e] k (Ok λa P=>∃n,a= .tuple #[ZL n,ZH 0]/\aT b P n (Uq e.toNat) (λc=>c<k.heap.size)/\ai k P):=by
 refine Calls.ok NA ?_;intro a P d;rw[Zq oM]at d;obtain⟨n,o,rfl,h,f,i⟩:=d;exact⟨n,rfl,aT.of g f h i λc j=>j,f⟩
def IB{D:an}(n:D.Ok)(P:ByteArray):(D.read P).1.length<=262144:=by
 unfold an.read;split
 ·simp
 ·split
  ·simp
  ·rename_i b a;exact n.len (bW a)
def nA:ByteArray:=⟨#[97]⟩
open Go.au Go.ChangeShapes Go.WideShapes Go.ChangeAt Go.RowKit
section
variable {w0 w w1 w':World} {p:Nat} {D D':an} {X Y:ZN}
def aT.cf(P:aT w0 w p D X)(g:qg w0)(j:Row aI 8 w f d a t)(k:∀l∈t,aJ l)(h:∀n,f n->n<w0.heap.size\/X n):
  YX 112 #[ZL p,.agg #[.slice d a c]] w (Ok (nw w0 w p X (cf D t))):=by
 have s:=P.gr.size;have m:∀n,X n->n<w.heap.size:=by obtain⟨o,u,v,x,q⟩:=P;exact q
 have y:=g.lt;exact P.call λo r e=>BY (g.ah P.gr) r j k (λn b=>⟨(h n b).elim (λP=>oM) (m n),λi=>(h n b).elim (λP=>by have:=(e n i).1;omega) (e n i).2.2⟩) λn b=>by have:=(e n b).1;omega
def aT.jJ(c:aT w0 w p D X)(j:qg w0):YX 109 #[ZL p] w (Ok λd w'=>∃P a b G,d= .tuple #[.agg #[.slice P a b],.bool (fr D).isSome]/\aM aI 3 G w' P a b ((fr D).getD [])/\
  (∀n,G n->w.heap.size<=n)/\aT w0 w' p D (λn=>X n\/G n)/\ai w w'):=by
 have k:=c.gr;obtain⟨l,e,m⟩:=c;refine Calls.ok (Du (j.ah k) e) ?_;rintro d w' ⟨P,a,b,G,rfl,f,g,h⟩;exact⟨P,a,b,G,rfl,f,h,aT.add ⟨l,e,m⟩ g λn i=>⟨h n i,f.aC n i⟩,g⟩
end
def MB{D:ZN}{P bytes:Nat}(a:Row aI bytes b D d P t):∀n∈t,aJ n:=λn c=>by
 obtain⟨e,f⟩:=List.mem_iff_getElem?.1 c;obtain⟨i,g,j,-,-,-,-,h⟩:=a.el e n f;exact h.2
def DW{D:an}:((fr D).getD []).length<=64:=by
 unfold fr;split
 ·simp
 ·cases n:jJ (D.read vF).1 with
  |none=>simp
  |some P=>exact(N_ n).2
def tn:(lL==vF)=false:=by decide+kernel
def zq:jW:=⟨[(6,[(8,.slice none 0 0),(9,ZH 0)])],[],[],[],[]⟩
def zr(a0:PC_ 146 #[.ii e] b (λa3 a4=>∃o,a3= .string o/\PC_ 162 #[.pointer d,.string o] a4 (λa5 p=>∃q k l r,a5= .tuple #[.slice q k l,.ii r]/\al (r !=0) (rt A ((.tuple #[.slice none 0 0,.ii 0])) p) ((∃m:Nat->YQ->Nat->Nat->Int->ZU,(∃j,m j none 0 0 0 p)/\∀(j:Nat) (c:YQ) (f:Nat) (g:Nat) (a:Int) (c9:Nat->Value) (s:World),m j c f g a s->((0:Int)<=a/\(a:Int)<=(k:Int)/\PC_ 163 #[.slice (cK q (Int.toNat a) l 1) (k-Int.toNat a) (l-Int.toNat a)] s (λa6 h=>∃t u v w x y,a6= .tuple #[.agg #[.ii t,.slice u v w],.ii x,.ii y]/\PA h (.cells #[.ii 0,.slice none 0 0] 277) λa7=>PS a7 (ab_ h 0) (.ii t) λa8=>PS a8 (ab_ h (0+1)) (.slice u v w) λi=>al (y !=0) (rt A ((.tuple #[.slice c f g,.ii a])) i) ((rI i (ab_ h 0) λa9=>al (a9 !=1) (rt A ((.tuple #[.slice c f g,.ii a])) i) ((rS i (ab_ h (0+1)) λb0 b1 b2=>PC_ 231 #[.slice b0 b1 b2] i (λb3 n=>∃z B D C E G F H I J K L M,b3= .tuple #[.agg #[.ii z,.ii B,.ii D,.slice C E G,.ii F,.ii H,.ii I,.ii J,.ii K,.ii L],.ii M]/\PA n (.cells #[.ii 0,.ii 0,.ii 0,.slice none 0 0,.ii 0,.ii 0,.ii 0,.ii 0,.ii 0,.ii 0] 63) λb4=>PS b4 (ab_ n 0) (.ii z) λb5=>PS b5 (ab_ n (0+1)) (.ii B) λb6=>PS b6 (ab_ n (0+2)) (.ii D) λb7=>PS b7 (ab_ n (0+3)) (.slice C E G) λb8=>PS b8 (ab_ n (0+4)) (.ii F) λb9=>PS b9 (ab_ n (0+5)) (.ii H) λc0=>PS c0 (ab_ n (0+6)) (.ii I) λc1=>PS c1 (ab_ n (0+7)) (.ii J) λc2=>PS c2 (ab_ n (0+8)) (.ii K) λc3=>PS c3 (ab_ n (0+9)) (.ii L) λP=>al (M !=0) (rt A ((.tuple #[.slice c f g,.ii a])) P) ((∃N O Q R S T U V W X Y Z,P.cell? (ab_ n 0)=some (.ii N)/\P.cell? (ab_ n (0+1))=some (.ii O)/\P.cell? (ab_ n (0+2))=some (.ii Q)/\P.cell? (ab_ n (0+3))=some (.slice R S T)/\P.cell? (ab_ n (0+4))=some (.ii U)/\P.cell? (ab_ n (0+5))=some (.ii V)/\P.cell? (ab_ n (0+6))=some (.ii W)/\P.cell? (ab_ n (0+7))=some (.ii X)/\P.cell? (ab_ n (0+8))=some (.ii Y)/\P.cell? (ab_ n (0+9))=some (.ii Z)/\PA P (.cells #[.ii N,.ii O,.ii Q,.slice R S T,.ii U,.ii V,.ii W,.ii X,.ii Y,.ii Z] 63) λc4=>PR_ (ap_ 59 (.slice c f g) (.slice (some (ab_ P 0)) 1 1)) c4 (kS_ λc5 c6 c7 c8=>(∃a2,a2<j/\m a2 c5 c6 c7 (ZG .i64 (a+x)) c8)) (pV A)))) (pE A)))))) (pE A))))) (pE A)) (pE A)):YX 168 #[.pointer d,.ii e] b A:=DC zq Tryz.func168 rfl a0
end Go.Proofs.YtjgjkeponbeekaaGreatDoor
namespace Go.au
open Go
variable{J:List aj}{o:aj}
def qv(n:o.Ok)(P:o.aQ.length<=64):gu o=(w_ o,0):=by
 have c:=MA n P;have a:iR o=(bR (kL o),0):=by unfold iR;rw[Zq oM]
 have b:jX 1 (bR (kL o))=(w_ o,0):=by unfold jX w_;rw[Zq dC,Zq oM]
 unfold gu;rw[a];simp only;rw[b];simp
def xP(P:¬o.aQ.length<=64):gu o=([],3):=by
 have n:iR o=([],3):=by unfold iR;rw[Zx oM]
 unfold gu;rw[n];simp
def ends(n:List aj):List Int:=(List.range n.length).map λP=>((eu (n.take (P+1))).length:Int)
def PJ(P:∀n∈J,n.Ok/\n.aQ.length<=64):(eu J).length<=675*J.length:=by
 induction J with
 |nil=>simp[eu]
 |cons n J a=>
  rw[LF,QX,Xq];have d:=Jw (P n (QV ..)).1 (P n (QV ..)).2;have e:=a λb c=>P b (QJ _ c);omega
end Go.au
namespace Go.Proofs.YtjgjkeponbeekaaGreatDoor
open Go.au
end Go.Proofs.YtjgjkeponbeekaaGreatDoor
namespace Go.au
open Go
end Go.au
namespace Go.Proofs.YtjgjkeponbeekaaGreatDoor
section
open Go.au
variable{a c:Nat}{f:ZN}{d:YQ}{j:Type}{b:World}{o:aj}
def DX{D:ZN}(r:Laid b)(s:Row aI 8 b D d a o.aQ)(i:o.Ok)(t:∀P,D P->P<b.heap.size):
  YX 205 #[.agg (aE o d a c).toArray] b (Ok λu j=>∃k l m p,u= .tuple #[.slice k l m,ZH (gu o).2]/\aM fN 5 p j k l m (gu o).1/\ai b j/\∀P,p P->b.heap.size<=P):=by
 refine yY (PA.mk λC e E n=>?_);refine⟨_,_,_,_,_,_,_,_,_,_,_,_,ae n rfl,ae n rfl,ae n rfl,ae n rfl,ae n rfl,ae n rfl,ae n rfl,ae n rfl,ae n rfl,ae n rfl,
  PC.ok (ND (s.ah e) i λP h=>Qk (t P h) e.size) ?_⟩
 rintro _ v ⟨_,rfl,F,H,I,J,rfl,q,f,K⟩;refine⟨_,_,_,_,rfl,al.dQ (λw=>?_) (λx=>?_)⟩
 ·rw[show gu o=([],(iR o).2) by unfold gu;rw[Zx w]]
  exact Ok.mk ⟨none,0,0,λ_=>False,rfl,aM.nil v,e.then f,λ_ g=>g.elim⟩
 rw[show gu o=jX 1 (iR o).1 by unfold gu;rw[Zq (by simpa using x)]];have L:(iR o).1.length<=666:=by
  by_cases g:64<o.aQ.length
  ·simp[iR,g]
  ·have:=MA i oM
   simpa[iR,g]using this
 refine PC.ok (Ej (r.ah (e.then f)).nU (q.row (bytes:=1) dC ba) q.aC) ?_;rintro _ M ⟨_,rfl,N,O,Q,y,rfl,z,A,B⟩;refine⟨_,_,_,_,rfl,Ok.mk ⟨_,_,_,y,rfl,z,(e.then f).then A,λP h=>?_⟩⟩;have:=B P h;have:=(e.then f).size;omega
def Rj{n:List j}(b:n.length=a)(P:Nat):(n.take a).drop P=n.drop P:=by rw[Qz oM]
def QM{D:an}{no:Int}(O:Laid b)(Q:aO b a f D)(hn:aJ no):
  YX 168 #[ZL a,ZH no] b (Ok λB d=>∃o p q G,B= .tuple #[.slice o p q,ZH ((bV (D.read (cB (aB no))).1).2:Int)]/\
   aM vi 63 G d o p q (bV (D.read (cB (aB no))).1).1/\ai b d/\(∀P,G P->b.heap.size<=P)/\(bV (D.read (cB (aB no))).1).1.length<=262144):=by
 refine zr (PC.ok (jt O hn) ?_);rintro _ w1 ⟨rfl,u⟩;refine⟨_,rfl,PC.ok (xj (Q.ah u)) ?_⟩;rintro _ r ⟨_,rfl,a4,R,c2,F2,rfl,l,C,c3⟩;have S:=IB Q.ok (cB (aB no));have E:(D.read (cB (aB no))).2≠0->(D.read (cB (aB no))).1=[]:=by
  unfold an.read;split
  ·intro _;rfl
  ·split
   ·intro _;rfl
   ·intro h;exact Zz rfl h
 generalize D.read (cB (aB no))=rd at l S E;obtain⟨c,er⟩:=rd;simp only at l S E⊢;refine⟨_,_,_,_,rfl,al.dQ (λk=>?_) (λhe=>?_)⟩
 ·rw[E k,Ju]
  exact Ok.mk ⟨none,0,0,λ_=>False,rfl,aM.nil r,u.then C,λ_ h=>h.elim,sM⟩
 have b2:=l.len dC;have b3:=l.jD;have a9:Row fN 1 r F2 a4 R c:=l.row dC ba;refine⟨λT v w y F d=>∃(n:Nat) (g:List aj) (G:ZN),F=n/\n<=c.length/\T=c.length-n/\bV c=(g++(bV (c.drop n)).1,n+(bV (c.drop n)).2)/\g.length<=n/\
  aM vi 63 G d v w y g/\ai r d/\∀P,G P->r.heap.size<=P,⟨_,0,[],λ_=>False,rfl,Qj _,rfl,sM,sM,aM.nil r,ak.refl _,λ_ h=>h.elim⟩,?_⟩
 rintro T v w y _ _ U ⟨n,g,G,rfl,c5,rfl,V,c6,s,m,H⟩;refine⟨oM,oM,?_⟩;have W:ai b U:=(u.then C).then m;have X:=(a9.ah m).part (lo:=n) (hi:=R) (cap:=c2) oM (Q4 _) b3;rw[Rj b2.symm]at X;rw[Qx];refine PC.ok (Ek (O.ah W).nU X oM λP e=>by have:=l.aC P e;have:=m.size;omega) ?_;rintro _ I ⟨b0,n4,c4,F4,rfl,b4,z,c8⟩;have i:¬((bq (c.drop n)).no=0/\(bq (c.drop n)).kind=1/\(ju (bq (c.drop n)).body).2=0)->∀d,ai I d->
   Ok (λB d=>∃o p q G,B= .tuple #[.slice o p q,ZH ((bV c).2:Int)]/\aM vi 63 G d o p q (bV c).1/\ai b d/\(∀P,G P->b.heap.size<=P)/\(bV c).1.length<=262144) (.returned (.tuple #[.slice v w y,ZH (n:Int)])) d:=by
  intro h d Y;rw[V,Cn h];refine Ok.mk ⟨v,w,y,G,sM,by simpa using(s.ah z).ah Y,(W.then z).then Y,λP e=>?_,by simp;omega⟩;have:=H P e;have:=(u.then C).size;omega
 refine⟨_,_,_,_,_,_,rfl,PA.mk λw5 k5 s5 g5=>?_⟩;refine storeAll [ZH (bq (c.drop n)).kind,.slice b0 n4 c4] g5 rfl λJ k6 s6 Z=>?_;have t:ai I J:=k5.new k6 λP e=>.inr oM;refine al.dQ (λk=>i (λh=>k h.1) J t) (λa0=>?_);refine⟨_,ae Z rfl,al.dQ (λk=>i (λh=>k h.2.1) J t) (λb1=>?_)⟩;obtain⟨b5,h9,c9⟩:=vm a0;rw[XZ]at b5;have a1:=b4.ah t;refine⟨_,_,_,ae Z rfl,PC.ok (NF (a1.row (bytes:=1) dC ba) a1.aC) ?_⟩;rintro _ w7 ⟨a7,n7,c7,F7,rfl,K,k7,a3⟩;obtain⟨L,a5⟩:=Rk (bq (c.drop n)).body;generalize M:ju (bq (c.drop n)).body=b6 at K L a5;obtain⟨x,xe⟩:=b6;simp only at K L a5;refine⟨_,_,_,_,_,_,_,_,_,_,_,_,_,rfl,PA.mk λw8 k8 s8 g8=>?_⟩;refine storeAll (aE x a7 n7 c7) g8 rfl λA k9 s9 j=>?_;have a6:ai w7 A:=k8.new k9 λP e=>.inr oM;have a8:ai I A:=(t.then k7).then a6;refine al.dQ (λk=>i (λh=>k (by have:=h.2.2;rw[M]at this;exact this)) A a8) (λb7=>?_);refine⟨_,_,_,_,_,_,_,_,_,_,_,_,ae j rfl,ae j rfl,ae j rfl,ae j rfl,ae j rfl,ae j rfl,ae j rfl,ae j rfl,ae j rfl,ae j rfl,?_⟩;have N:ai U A:=z.then a8;have b8:=s.ah N;have a2:=K.ah a6;have d0:=(z.then t).size;refine Hn b8 JM (x:=x) (D:=F7) ⟨a7,n7,c7,F7,rfl,a2,λ_ h=>h,L,by unfold aK;omega⟩ (λP e=>⟨a2.aC P e,λhc=>?_⟩) ba (by unfold maxLen;omega) λa' c' d1 F' b9 c0 c1 _=>?_
 ·have h1:=s.aC P (s.self P hc)
  have h2:=a3 P e;omega
 refine⟨_,_,_,rfl,_,?_,n+(bq (c.drop n)).n,g++[x],F',?_,oM,rfl,?_,by simp;omega,b9,?_,?_⟩
 ·omega
 ·rw[wrap_i64 bc];omega
 ·rw[V,Jv ⟨a0,b1,by rw[M];exact b7⟩,M,List.drop_drop]
  simp only[XQ,List.cons_append,List.nil_append,Nat.add_assoc]
 ·exact(m.then N).new c0 λP e=>.inr (H P (s.self P e))
 ·intro P e
  have hz:=(m.then N).size;have d2:=m.size;rcases c1 P e with h|h|h
  ·exact H P h
  ·have:=a3 P h;omega
  ·omega
end
section
open Go.au
variable{l:Array Value}{z:FuncId}{e:Int}{d3:Int×an}{t:List Int}{a c:Nat}{f:ZN}{d:YQ}{b:World}
def bH{D:ZN}(h:Row aI 8 b D d a t)(f:∀n,D n->n<b.heap.size):
  YX 92 #[.slice d a c] b (Ok (oW aI 3 b t)):=by
 have x:=h.len;have P:=h.ef;refine om (jZ uk.under ⟨_,rfl,al.mk (λe=>?_) (λe=>PA.mk λj g y k=>?_)⟩)
 ·have:t=[]:=by
   cases d with
   |none=>
    cases t with
    |nil=>rfl
    |cons l z=>obtain⟨n,m,A,o,_⟩:=h.el 0 l rfl;cases o
   |some p=>cases e
  subst this;exact Ok.mk ⟨none,0,0,λ_=>False,rfl,aM.nil b,ak.refl _,λ_ h=>h.elim⟩
 ·cases d with
  |none=>cases e
  |some p=>
   have q:aM aI 3 (·=b.heap.size) j (ZM b.heap.size) 0 0 []:=
    ⟨⟨[],λ_=>False,Own.Af (cur:= #[]) k rfl (Qj _),rfl,λ_ h=>h.elim⟩,λn P=>by simpa[aD]using P.symm,λn P=>oM⟩
   refine kK q uk (D:=D) (h.ah g) (λn P=>⟨by have:=f n P;omega,by have:=f n P;simp only[aD];intro r;cases r;omega⟩) be (by unfold aK at P;unfold maxLen;simp;omega) λi s B C u v _ w=>?_;refine⟨_,_,_,rfl,Ok.mk ⟨i,_,s,λn=>aD i=some n,rfl,by have h:=u.alone;rw[List.nil_append]at h;exact h,g.new v λn P=>.inr ?_,λn P=>?_⟩⟩
   ·simp only[aD,Q1]at P;omega
   ·rcases w n P with h|h<;>omega
def iC(n:Int)(P:ByteArray):Int:=if(mi P).2 then max n ((mi P).1+1)else n
def yl(n:List ByteArray):Int:=n.foldl iC 1
def BJ(D:an):Int:=yl D.list
def Et(n:ByteArray):0<=(mi n).1/\(mi n).1<1000000000000:=by
 unfold mi;split
 ·rename_i a P
  have:=(BU P).2;simp;omega
 ·simp
def GD(P:1<=e/\e<=1000000000000)(n:ByteArray):1<=iC e n/\iC e n<=1000000000000:=by
 have:=Et n;unfold iC;split<;>omega
def II:∀(P:List ByteArray) (n:Int),(1<=n/\n<=1000000000000)->1<=P.foldl iC n/\P.foldl iC n<=1000000000000
 |[],n,a=>a
 |s::P,n,a=>II P _ (GD a s)
def Eu(n:List ByteArray):1<=yl n/\yl n<=1000000000000:=II n 1 oM
def IJ{D:an}(s:Laid b)(h:aO b a f D):
  YX 108 #[ZL a] b (Ok λt d=>t= ZH (BJ D)/\ai b d):=by
 refine CT (PC.ok (xk h) ?_);rintro _ i ⟨u,c,z,G,rfl,j,k,A⟩;have B:D.list.length<=64:=by rw[ob];exact h.ok.many
 have C:=j.len dC;have v:Row Ny 16 i G u c D.list:=j.row dC ba;refine⟨_,_,_,rfl,λl m o d=>∃n:Nat,o=n/\n<=c/\l=c-n/\m=yl (D.list.take n)/\ai i d,⟨_,0,rfl,Qj _,rfl,rfl,ak.refl _⟩,?_⟩;rintro l m o _ E ⟨n,rfl,F,rfl,rfl,P⟩;refine al.dec (λH=>?_) (λI=>?_)
 ·obtain⟨w,e,p,rfl,x,_,y⟩:=(v.ah P).mP (i:=n) oM
  refine⟨w,e,rfl,oM,oM,_,y,PC.ok (AQ (s.ah (k.then P))) ?_⟩;rintro _ J ⟨rfl,q⟩;have K:=Et p;have L:=Eu (D.list.take n);have r:yl (D.list.take (n+1))=iC (yl (D.list.take n)) p:=by
   unfold yl;rw[Qw,x,List.foldl_append];rfl
  refine⟨_,_,rfl,al.mk (λg=>⟨_,?_,n+1,aq oM,oM,rfl,?_,P.then q⟩) (λg=>⟨_,?_,n+1,aq oM,oM,rfl,?_,P.then q⟩)⟩
  ·omega
  ·rw[r,wrap_i64 bc]
   unfold iC;rw[Zx g];split<;>omega
  ·omega
  ·rw[r];unfold iC;rw[Zq (by simp[g])]
 ·obtain rfl:n=c:=oM
  rw[Qz oM];exact Ok.mk ⟨rfl,k.then P⟩
structure eJ where
 size:Int
 bQ:List Int
 bytes:Int
 next:Int
structure iQ (w:World) (p q:Nat) (G:ZN) (V:eJ):Prop where
 body:∃a n c E,w.heap[q]? =some (.cells #[ZL p,ZH V.size,.slice a n c,ZH V.bytes,ZH V.next] 209 (0,0))/\aM aI 3 E w a n c V.bQ/\∀b,E b->G b/\b≠q
 self:G q
 aC:∀b,G b->b<w.heap.size
 many:V.bQ.length<=64
 Bj:aJ V.next
section
variable {w0 w w1 w':World} {p q:Nat} {D D':an} {V V':eJ} {X Y G S:ZN}
def iQ.af(P:iQ w p q G V)(a:ak S w w')(c:∀n,G n->¬S n):iQ w' p q G V:=by
 obtain⟨e,f,g,h,i,j,d⟩:=P.body;exact⟨⟨e,f,g,h,a.get i (c q P.self),j.af a λn b=>c n (d n b).1,d⟩,P.self,λn b=>Qk (P.aC n b) a.size,P.many,P.Bj⟩
def iQ.ah(n:iQ w p q G V)(P:ai w w'):iQ w' p q G V:=n.af P λ_ _ n=>n
def cd(w0 w:World)(p q:Nat)(V:eJ)(D:an)(X:ZN):Prop:=∃G,aT w0 w p D (λn=>X n\/G n)/\iQ w p q G V/\∀n,G n->w0.heap.size<=n/\¬X n
def cd.gr(n:cd w0 w p q V D X):ai w0 w:=by obtain⟨G,P,a,b⟩:=n;exact P.gr
def cd.ok(n:cd w0 w p q V D X):D.Ok:=by obtain⟨G,P,a,b⟩:=n;exact P.ok
def cd.many(n:cd w0 w p q V D X):V.bQ.length<=64:=by obtain⟨G,a,P,b⟩:=n;exact P.many
def cd.Bj(n:cd w0 w p q V D X):aJ V.next:=by obtain⟨G,a,P,b⟩:=n;exact P.Bj
def cd.aC(P:cd w0 w p q V D X):∀n,X n->n<w.heap.size:=by obtain⟨G,⟨c,d,e,f,a⟩,g,h⟩:=P;exact λn b=>a n (.inl b)
def cd.Xe(P:cd w0 w p q V D X):q<w.heap.size/\w0.heap.size<=q/\¬X q:=by obtain⟨G,b,n,a⟩:=P;exact⟨n.aC q n.self,a q n.self⟩
def cd.vq(n:cd w0 w p q V D X):aT w0 w p D X:=by obtain⟨G,P,b,c⟩:=n;exact P.mono λd a=>.inl a
def cd.ah(P:cd w0 w p q V D X)(n:ai w w'):cd w0 w' p q V D X:=by
 obtain⟨G,a,b,c⟩:=P;exact⟨G,a.ah n,b.ah n,c⟩
def cd.mono(c:cd w0 w p q V D X)(a:∀n,Y n->X n):cd w0 w p q V D Y:=by
 obtain⟨G,d,e,b⟩:=c;exact⟨G,d.mono λn P=>P.imp (a n) id,e,λn P=>⟨(b n P).1,λf=>(b n P).2 (a n f)⟩⟩
def cd.add(e:cd w0 w p q V D X)(a:ai w w')(b:∀n,Y n->w.heap.size<=n/\n<w'.heap.size):cd w0 w' p q V D (λn=>X n\/Y n):=by
 obtain⟨G,f,c,d⟩:=e;refine⟨G,(f.add a b).mono λn P=>?_,c.ah a,λn P=>⟨(d n P).1,λg=>g.elim (d n P).2 λh=>by have:=c.aC n P;have:=(b n h).1;omega⟩⟩;rcases P with(P|P)|P
 ·exact .inl (.inl P)
 ·exact .inr P
 ·exact .inl (.inr P)
def cd.other(f:cd w0 w p q V D X)(a:ak Y w w')(b:∀n,Y n->X n/\w0.heap.size<=n):cd w0 w' p q V D X:=by
 obtain⟨G,⟨g,h,i,d,j⟩,k,e⟩:=f;exact⟨G,⟨g,h.af a λn P c=>(d n P).2 (.inl (b n c).1),i.new a λn P=>.inr (b n P).2,d,λn P=>Qk (j n P) a.size⟩,k.af a λn P c=>(e n P).2 (b n c).1,e⟩
def cd.on(d:cd w0 w p q V D X)(e:∀a,(∀n,X n->a n)->aT w0 w p D a->YX z l w (Ok (nw w0 w p a d3))):YX z l w (Ok λb w'=>b= ZH d3.1/\cd w0 w' p q V d3.2 X/\ak (dy X) w w'):=by
 obtain⟨G,f,g,h⟩:=d;refine Calls.ok (e _ (λn P=>.inl P) f) ?_;rintro b w' ⟨i,j,c⟩;exact⟨i,⟨G,j,g.af c λn P k=>k (.inr P),h⟩,c.mono λn _ P m=>P (.inl m)⟩
def eJ.last(V:eJ):ByteArray:=cB (aB (V.bQ.getLast?.getD 0))
def iQ.row(d:iQ w p q G V):∃P n b a,w.heap[q]? =some (.cells #[ZL p,ZH V.size,.slice P n b,ZH V.bytes,ZH V.next] 209 (0,0))/\Row aI 8 w a P n V.bQ/\(∀c,a c->G c/\c≠q)/\n=V.bQ.length:=by
 obtain⟨P,n,b,a,f,e,g⟩:=d.body;have:=d.many;exact⟨P,n,b,a,f,e.row dC ba,g,e.len dC⟩
def IK(d:Laid w)(b:iQ w p q G V)(e:V.bQ≠[]):YX 206 #[ZL q] w (Ok λf w'=>f= .string V.last/\ai w w'):=by
 obtain⟨u,P,v,x,g,h,y,i⟩:=b.row;have z:0<V.bQ.length:=List.length_pos_iff.2 e;have A:=b.many;refine uJ λw1 j=>?_;have n:ai w w1:=j.af;have c:=n.get g id;have k:ZG .i64 ((P:Int)-1)=((P-1:Nat):Int):=by rw[wrap_i64 bc];omega
 obtain⟨l,a,m,rfl,o,r,s⟩:=(h.ah n).mP (i:=P-1) oM;refine⟨q,0,rfl,_,_,_,ae c rfl,q,0,rfl,_,_,_,ae c rfl,l,a,rfl,?_⟩;rw[k];refine⟨oM,oM,m,s,PC.ok (jt (d.ah n) r) ?_⟩;rintro _ B ⟨rfl,t⟩;refine⟨_,rfl,Ok.mk ⟨?_,n.then t⟩⟩;unfold eJ.last;rw[List.getLast?_eq_getElem?,<-i,o];rfl
def IL(i:Laid w0)(f:cd w0 w p q V D X)(j:V.bQ≠[]):YX 135 #[ZL q] w (Ok λk w'=>k= ZH (D.sync V.last).1/\cd w0 w' p q V (D.sync V.last).2 X/\ak (dy X) w w'):=by
 refine uG λw1 l=>?_;have c:ai w w1:=l.af;have m:=f.ah c;obtain⟨G,o,n,g⟩:=m;obtain⟨y,z,A,B,r,C,E,h⟩:=n.row;have F:=g q n.self;have H:=n.aC q n.self;refine⟨λa=>a≠q/\¬X a,q,0,rfl,λs=>s.1 rfl,_,ae r rfl,PC.ok (IK (i.ah (f.gr.then c)) n j) ?_⟩;rintro _ I ⟨rfl,b⟩;have t:=n.ah b;have u:=o.ah b;refine⟨_,rfl,b.af,PC.ok u.sync ?_⟩;rintro _ J ⟨rfl,v,d⟩;refine⟨_,rfl,d.mono λa _ P=>⟨λx=>P (.inr (x▸n.self)),λe=>P (.inl e)⟩,Ok.mk ⟨rfl,⟨G,v,t.af d λa P h=>h (.inr P),g⟩,?_⟩⟩;exact(ai.af (c.then b)).then (d.mono λa _ P e=>P (.inl e))
def Gb(n:iQ w p q G V):YX 145 #[ZL q] w (Ok (oW aI 3 w V.bQ)):=by
 obtain⟨i,j,k,l,a,b,c,m⟩:=n.row;refine pB ⟨q,0,rfl,_,_,_,ae a rfl,PC.ok (bH b λP d=>n.aC P (c P d).1) ?_⟩;rintro _ w1 ⟨o,r,s,e,rfl,f,g,h⟩;exact⟨_,_,_,rfl,Ok.mk ⟨_,_,_,e,rfl,f,g,h⟩⟩
def PI(n:iQ w p q G V):YX 144 #[ZL q] w (Ok λP w'=>P= ZH V.next/\w=w'):=by
 obtain⟨b,c,d,e,a,f,g,h⟩:=n.row;exact uI ⟨q,0,rfl,_,ae a rfl,Ok.mk ⟨rfl,rfl⟩⟩
end
end
end Go.Proofs.YtjgjkeponbeekaaGreatDoor
namespace Go.au
open Go
def oV(n:Int×Int):Value:=.agg #[ZH n.1,ZH n.2]
def CA(n:Int×Int×Int):Value:=.agg #[ZH n.1,ZH n.2.1,ZH n.2.2]
structure JQ (P:Program) (t ti:TypeId):Prop where
 hu:P.underlying t=some (.struct (P.fieldsOf t))
 ui:P.underlying ti=some (.int .i64)
 hf:∃n1 n2,(P.fieldsOf t).toList.map (λf=>(f.name,f.type,f.offset))=[(n1,ti,0),(n2,ti,1)]/\n1≠ "_"/\n2≠ "_"
 hp:P.stoodInHeld t=false
 hm:P.eqGuardType P.depth t=false
 ag:tV P ti=false
variable{N b4 e r:Int}{T X:Operand}{m s:ZR}{b:World}
section
variable {P:Program} {t ti:TypeId}
def JQ.equalIn(a:JQ P t ti)(e:Nat)(b c:Int×Int)(d:World):(Op.equalIn (e+2) t (oV b) (oV c)).run P d= .ok (b==c) d:=by
 obtain⟨v,w,n,f,g⟩:=a.hf;unfold oV;rw[run_equalIn_struct d (e+1) _ _ _ a.hu a.hp];generalize(P.fieldsOf t).toList=h at n
 match h,n with
 |[x,y],n=>
  simp only[QY,List.map_nil,List.cons.injEq,Prod.mk.injEq,and_true]at n;obtain⟨⟨i,j,k⟩,l,m,o⟩:=n;have p:(isAgg ti).run P d= .ok false d:=cM _ _ _ a.ag ⟨_,a.ui⟩ d;have q:=run_equalIn_int (P:=P) d e ti .i64 .i64 b.1 c.1 a.ui;have r:=run_equalIn_int (P:=P) d e ti .i64 .i64 b.2 c.2 a.ui;unfold Op.eqFields Op.eqFields Op.eqFields;rw[i,j,k,l,m,o];have s:(b==c)=(b.1==c.1&&b.2==c.2):=rfl;rw[s]
  cases a:b.1==c.1<;>simp[part,p,q,r,a,f,g]
  by_cases u:b.2=c.2<;>simp[u]
 |[],n=>simp at n
 |[_],n=>simp at n
 |_::_::_::_,n=>simp at n
def JQ.eql(n:JQ P t ti)(a:m (.bool (e==N&&r==b4)) b):
  aG P (do eqGuard .eql t T X (.agg #[ZH e,ZH r]) (.agg #[ZH N,ZH b4]);binOp .eql t (.agg #[ZH e,ZH r]) (.agg #[ZH N,ZH b4]):Sem Value) b m s:=by
 refine aG.mk (v:=.bool (e==N&&r==b4)) ?_ a;rw[Sem.run_bind,run_eqGuard_agg b .eql _ T X _ _ n.hm,Result.andThen_ok,run_eql_struct];have:=n.equalIn 9998 (e,r) (N,b4) b;unfold oV at this;rw[this];rfl
def JQ.neq(n:JQ P t ti)(a:m (.bool (!(e==N&&r==b4))) b):
  aG P (do eqGuard .neq t T X (.agg #[ZH e,ZH r]) (.agg #[ZH N,ZH b4]);binOp .neq t (.agg #[ZH e,ZH r]) (.agg #[ZH N,ZH b4]):Sem Value) b m s:=by
 refine aG.mk (v:=.bool (!(e==N&&r==b4))) ?_ a;rw[Sem.run_bind,run_eqGuard_agg b .neq _ T X _ _ n.hm,Result.andThen_ok,run_neq_struct];have:=n.equalIn 9998 (e,r) (N,b4) b;unfold oV at this;rw[this];rfl
def JQ.check(b:JQ P t ti)(d:Nat)(g:Int×Int)(a:World)(e:Bool):(Instr.checkKey e (d+2) t (oV g)).run P a= .ok () a:=by
 obtain⟨u,v,n,h,i⟩:=b.hf;have j:(isAgg ti).run P a= .ok false a:=cM _ _ _ b.ag ⟨_,b.ui⟩ a;have k:∀f:Int,(Instr.checkKey e (d+1) ti (ZH f)).run P a= .ok () a:=λf=>by simp[Instr.checkKey,run_underlying b.ui]
 unfold oV;have l:=b.hu;unfold Instr.checkKey;rw[Sem.run_bind,run_underlying l,Result.andThen_ok];generalize w:P.fieldsOf t=c at n;obtain⟨c⟩:=c
 match c,n with
 |[x,y],n=>
  simp only[QY,List.map_nil,List.cons.injEq,Prod.mk.injEq,and_true]at n;obtain⟨⟨m,o,p⟩,q,r,s⟩:=n;simp[m,o,p,q,r,s,part,j,k,h,i]
 |[],n=>simp at n
 |[_],n=>simp at n
 |_::_::_::_,n=>simp at n
def JQ.key(n:JQ P t ti):iH P t oV:=
 iH.struct n.hu (λa b=>rfl) (λa b c=>n.equalIn 9998 a b c) (λd c e=>n.check 9998 d c e) (λf a=>by unfold oV;simp[Instr.sameBits]) λ{a b} n=>by
  unfold oV at n;simp only[Value.agg.injEq,Array.mk.injEq,List.cons.injEq,Value.int.injEq,and_true,true_and]at n;exact Prod.ext n.1 n.2
structure vT (P:Program) (t t2 ti:TypeId):Prop where
 two:JQ P t2 ti
 hu:P.underlying t=some (.struct (P.fieldsOf t))
 hf:∃n1 n2,(P.fieldsOf t).toList.map (λf=>(f.name,f.type,f.offset))=[(n1,t2,0),(n2,ti,2)]/\n1≠ "_"/\n2≠ "_"
 hp:P.stoodInHeld t=false
 ag:tV P t2=true
 sz:(P.info? t2).map (·.size)=some 2
variable {t2:TypeId}
def vT.Rv(b:vT P t t2 ti)(a:Int×Int×Int)(n:World):(part t2 #[ZH a.1,ZH a.2.1,ZH a.2.2] 0).run P n= .ok (oV (a.1,a.2.1)) n:=by
 obtain⟨g,c,d⟩:=Option.map_eq_some_iff.1 b.sz;have e:(isAgg t2).run P n= .ok true n:=cM _ _ _ b.ag ⟨_,b.two.hu⟩ n;have f:(sizeOf t2).run P n= .ok 2 n:=by simp[sizeOf,typeInfo,c,d]
 unfold part;simp[e,f,oV]
def vT.equalIn(d:vT P t t2 ti)(f:Nat)(n a:Int×Int×Int)(b:World):(Op.equalIn (f+3) t (CA n) (CA a)).run P b= .ok (n==a) b:=by
 obtain⟨A,B,c,h,i⟩:=d.hf;have j:=d.Rv n b;have k:=d.Rv a b;have g:=d.two.equalIn f (n.1,n.2.1) (a.1,a.2.1) b;have m:=run_equalIn_int (P:=P) b (f+1) ti .i64 .i64 n.2.2 a.2.2 d.two.ui;have o:(isAgg ti).run P b= .ok false b:=cM _ _ _ d.two.ag ⟨_,d.two.ui⟩ b;unfold CA;rw[run_equalIn_struct b (f+2) _ _ _ d.hu d.hp];generalize(P.fieldsOf t).toList=p at c
 match p,c with
 |[C,E],c=>
  simp only[QY,List.map_nil,List.cons.injEq,Prod.mk.injEq,and_true]at c;obtain⟨⟨q,r,s⟩,u,v,w⟩:=c;unfold Op.eqFields Op.eqFields Op.eqFields;rw[q,r,s,u,v,w];have x:(n==a)=(((n.1,n.2.1):Int×Int)==(a.1,a.2.1)&&n.2.2==a.2.2):=by
   show(n.1==a.1&&(n.2.1==a.2.1&&n.2.2==a.2.2))=((n.1==a.1&&n.2.1==a.2.1)&&n.2.2==a.2.2);rw[Bool.and_assoc]
  rw[x];have y:∀e:Int×Int×Int,(part ti #[ZH e.1,ZH e.2.1,ZH e.2.2] 2).run P b= .ok (ZH e.2.2) b:=λe=>by simp[part,o]
  cases l:((n.1,n.2.1):Int×Int)==(a.1,a.2.1)with
  |false=>
   rw[l]at g;simp[j,k,g,h,i]
  |true=>
   rw[l]at g;simp[j,k,g,m,y,h,i]
   by_cases z:n.2.2=a.2.2<;>simp[z]
 |[],c=>simp at c
 |[_],c=>simp at c
 |_::_::_::_,c=>simp at c
def vT.check(c:vT P t t2 ti)(d:Nat)(b:Int×Int×Int)(n:World)(e:Bool):(Instr.checkKey e (d+3) t (CA b)).run P n= .ok () n:=by
 obtain⟨x,y,a,h,i⟩:=c.hf;have j:=c.Rv b n;have k:(isAgg ti).run P n= .ok false n:=cM _ _ _ c.two.ag ⟨_,c.two.ui⟩ n;have l:∀g:Int,(Instr.checkKey e (d+2) ti (ZH g)).run P n= .ok () n:=λg=>by simp[Instr.checkKey,run_underlying c.two.ui]
 have m:=c.two.check d (b.1,b.2.1) n e;have o:(part ti #[ZH b.1,ZH b.2.1,ZH b.2.2] 2).run P n= .ok (ZH b.2.2) n:=by simp[part,k]
 unfold CA;have p:=c.hu;rw[show d+3=(d+2)+1 from rfl];unfold Instr.checkKey;rw[Sem.run_bind,run_underlying p,Result.andThen_ok];generalize z:P.fieldsOf t=f at a;obtain⟨f⟩:=f
 match f,a with
 |[A,B],a=>
  simp only[QY,List.map_nil,List.cons.injEq,Prod.mk.injEq,and_true]at a;obtain⟨⟨q,r,s⟩,u,v,w⟩:=a;simp[q,r,s,u,v,w,j,o,m,l,h,i]
 |[],a=>simp at a
 |[_],a=>simp at a
 |_::_::_::_,a=>simp at a
def vT.key(n:vT P t t2 ti):iH P t CA:=
 iH.struct n.hu (λa b=>rfl) (λa b c=>n.equalIn 9997 a b c) (λd c e=>n.check 9997 d c e) (λf a=>by unfold CA;simp[Instr.sameBits]) λ{a b} n=>by
  unfold CA at n;simp only[Value.agg.injEq,Array.mk.injEq,List.cons.injEq,Value.int.injEq,and_true,true_and]at n;exact Prod.ext n.1 (Prod.ext n.2.1 n.2.2)
end
end Go.au
namespace Go.Proofs.YtjgjkeponbeekaaGreatDoor
open Go.au
abbrev EJ:Int×Int->Value:=oV
def LS:JQ ZP 46 3:=⟨kR,kR,⟨ "Origin", "Seq",kR,dC,dC⟩,kR,kR,kR⟩
def Wf:iH ZP 46 EJ:=LS.key
abbrev rO:aj:=⟨0,0,0,[],0,0,0,0,0,0⟩
abbrev jQ(n:aj)(P:YQ)(a b:Nat):Value:=.agg (aE n P a b).toArray
def Rl:lW ZP 182 46 63 (jQ rO none 0 0):=⟨kR,kR⟩
def kp{c:World}{D:ZN}:∀{n:List Int} {cs:List Value},bK aI c D n cs↔cs=ints n/\∀x∈n,aJ x
 |[],cs=>by simp[bK,ints]
 |x::n,cs=>by
  constructor
  ·rintro⟨g,h,rfl,⟨rfl,d⟩,e⟩
   obtain⟨rfl,f⟩:=kp.1 e;exact⟨rfl,λa P=>by rcases Q2.1 P with rfl|P;exact d;exact f a P⟩
  ·rintro⟨rfl,b⟩
   exact⟨[ZH x],ints n,rfl,⟨rfl,b x (QV ..)⟩,kp.2 ⟨rfl,λa P=>b a (QJ _ P)⟩⟩
variable{e:Int}{t:List Int}{E a c i p:Nat}{f:ZN}{d:YQ}{g:TypeId}{v:Value}{b k:World}{y:ZU}{o:aj}
def Rm(P:aM aI g f b d a c t)(m:i<t.length)(o:aJ e)(q:d=some ⟨p,E,none⟩)(h:∀n,aM aI g f n d a c (t.set i e)->ak (λp=>aD d=some p) b n->n.heap.size=b.heap.size->y n):PS b ⟨p,E+i,none⟩ (ZH e) y:=by
 obtain⟨cs,D,r,s,u⟩:=P.body;obtain⟨rfl,j⟩:=kp.1 s;refine r.set (m:=i) (by rw[jo];exact m) q λn v w l=>h n ⟨⟨_,D,v,kp.2 ⟨?_,?_⟩,u⟩,P.self,λp j=>by rw[l];exact P.aC p j⟩ w l
 ·unfold ints;rw[List.map_set]
 ·intro x k
  rcases List.mem_or_eq_of_mem_set k with k|rfl
  ·exact j x k
  ·exact o
def SU(b:World)(D:ZN)(c:Value)(n:aj):Prop:=∃P a d,c=jQ n P a d/\Row aI 8 b D P a n.aQ/\n.Ok
def SU.af{S D:ZN}(P:SU b D v o)(a:ak S b k)(c:∀n,D n->¬S n):SU k D v o:=by
 obtain⟨d,e,f,g,h,i⟩:=P;exact⟨d,e,f,g,h.af a c,i⟩
def SU.mono{D n:ZN}(a:SU b D v o)(c:∀P,D P->n P):SU b n v o:=by
 obtain⟨d,e,f,g,h,i⟩:=a;exact⟨d,e,f,g,h.mono c,i⟩
def Ci:rO.Ok:=by constructor<;>simp[aJ]
def mN{D:ZN}(h:Row aI 8 b D d a o.aQ)(u:∀n,D n->n<b.heap.size):
  YX 115 #[jQ o d a c] b (Ok λv i=>∃d a c G,v=jQ o d a c/\Row aI 8 i G d a o.aQ/\(∀n,G n->b.heap.size<=n/\n<i.heap.size)/\ai b i):=by
 have w:=h.ef;have x:=h.len;refine yV (PA.mk λA m B e=>PA.mk λC f E j=>⟨_,_,_,ae (f.get e id) rfl,PC.ok (bH (h.ah (m.then f)) λn P=>by have:=u n P;omega) ?_⟩);rintro _ F ⟨p,q,r,G,rfl,s,g,k⟩;have e:=g.get (f.get e id) id;have j:=g.get j id;refine⟨_,_,_,rfl,PS.mk e (by simp[aE]) λH l I y=>?_⟩;refine ar (cs:=aE o p q r) (aW _ _ _ _) y (az (aW _ _ _ _) (l.get j oM) rfl λJ t K z=>ar (aW _ _ _ _) z (Ok.mk ⟨p,q,r,G,rfl,?_,?_,?_⟩))
 ·refine(((s.af l λn P=>?_).af t λn P=>?_).row (bytes:=8) dC (by rw[<-x];exact w))
  ·have:=k n P;omega
  ·have:=k n P;omega
 ·intro n P
  have:=k n P;have:=s.aC n P;omega
 ·have L:=g.size
  exact((ak.new ((m.then f).then g) l λn P=>.inr oM).new t λn P=>.inr oM)
structure Rn where
 a:YQ
 n:Nat
 c:Nat
 r:Nat
 V:ZN
 D:ZN
 l:List ((Int×Int)×Value)
 L:List ((Int×Int)×aj)
structure ri (w:World) (p:Nat) (F:ZN) (S:aw) (q:Rn):Prop where
 at':w.heap[p]? =some (.cells #[.slice q.a q.n q.c,.map (some q.r),ZH S.top] 184 (0,0))
 vec:aM aI 3 q.V w q.a q.n q.c S.vec
 map:bI w q.r EJ q.l
 rel:fu (SU w q.D) q.l q.L
 key:∀x∈q.L,x.1=aY x.2
 VS:(q.L.map (·.2)).Perm S.l
 aC:∀b,F b->b<w.heap.size
 sub:∀b,b=p\/b=q.r\/q.V b\/q.D b->F b
 VT:p≠q.r
 UW:¬q.V p/\¬q.V q.r
 VU:¬q.D p/\¬q.D q.r
 Xi:∀b,q.V b->¬q.D b
def ck(P:World)(a:Nat)(b:ZN)(n:aw):Prop:=n.OK/\∃c,ri P a b n c
section
variable {w w' w1:World} {p:Nat} {F T:ZN} {S:aw} {q:Rn}
def ri.af(n:ri w p F S q)(a:ak T w w')(c:∀P,F P->¬T P):ri w' p F S q:=
 ⟨a.get n.at' (c p (n.sub p (.inl rfl))),n.vec.af a λP b=>c P (n.sub P (.inr (.inr (.inl b)))),n.map.af a (c _ (n.sub _ (.inr (.inl rfl)))),
  n.rel.mono λe f d=>d.af a λP b=>c P (n.sub P (.inr (.inr (.inr b)))),n.key,n.VS,λP b=>Qk (n.aC P b) a.size,n.sub,n.VT,n.UW,n.VU,n.Xi⟩
def ri.ah(n:ri w p F S q)(P:ai w w'):ri w' p F S q:=n.af P λ_ _ n=>n
def ck.af(n:ck w p F S)(a:ak T w w')(b:∀P,F P->¬T P):ck w' p F S:=⟨n.1,n.2.imp λq c=>c.af a b⟩
def ck.ah(n:ck w p F S)(P:ai w w'):ck w' p F S:=n.af P λ_ _ n=>n
def ck.aC(P:ck w p F S):∀n,F n->n<w.heap.size:=P.2.elim λq a=>a.aC
def ri.tidy(n:ri w p F S q):Tidy q.L:=by
 have:=n.map.tidy;unfold Tidy at*;rw[<-n.rel.keys];exact this
def ri.len(n:ri w p F S q):q.n=S.n:=by rw[n.vec.len dC,S.bM]
def ri.VV(n:ri w p F S q)(P:S.OK):Row aI 8 w q.V q.a q.n S.vec:=n.vec.row dC (by rw[S.bM];have:=P.n;unfold aK;omega)
def ri.look(P:ri w p F S q)(c:S.OK)(n:Int×Int):(aF q.l n=none/\S.get n=none)\/∃a b,aF q.l n=some a/\S.get n=some b/\SU w q.D a b:=by
 rw[<-Jz c P.key P.VS P.tidy n];exact P.rel.aF n
def lI(n:ck w p F S):YX 58 #[ZL p] w (Ok (oW aI 3 w S.vec)):=by
 obtain⟨P,q,n⟩:=n;refine wF ⟨p,0,rfl,_,_,_,ae n.at' rfl,PC.ok (bH (n.VV P) λa b=>n.vec.aC a b) ?_⟩;rintro _ i ⟨c,d,e,G,rfl,f,g,h⟩;exact⟨_,_,_,rfl,Ok.mk ⟨c,d,e,G,rfl,f,g,h⟩⟩
def Ha(n:ck w p F S):YX 133 #[ZL p] w (Ok λP w'=>P= ZH S.top/\w=w'):=by
 obtain⟨a,q,n⟩:=n;exact wI ⟨p,0,rfl,_,ae n.at' rfl,Ok.mk ⟨rfl,rfl⟩⟩
def Ro(r:ck w p F S){P:aj}{D:ZN}(s:Row aI 8 w D d a P.aQ)(he:P.Ok)(hn:P.aQ.length=S.n){o:Nat}(ho:o<S.n):
  YX 114 #[ZL p,jQ P d a c,ZH (o:Int)] w (Ok λk w'=>k= .bool (S.lY P o)/\ai w w'):=by
 obtain⟨t,q,r⟩:=r;have b1:=s.len;have hN:=t.n;refine uH (PA.mk λw1 j s1 L=>?_);have Z:=s.ah j;obtain⟨u,v,g,ha,hx,-,hc⟩:=Z.mP (i:=o) oM;have M:P.aQ.getD o 0=g:=by rw[QQ,hx];rfl
 refine⟨_,_,_,ae L rfl,u,v,ha,oM,oM,g,hc,al.cW (λx=>Ok.mk ⟨?_,j⟩) (λx=>?_)⟩
 ·unfold aw.lY;simp only[M,x];rfl
 have y:=r.ah j;have e:∀{z:Bool} {w':World},ai w w'->(match S.get (o,g)with
  |none=>false
  |some b=>decide (b.aA<P.aA)&&(List.range b.aQ.length).all λi=>decide (b.aQ.getD i 0<=P.aQ.getD i 0))=z->Ok (λk w'=>k= .bool (S.lY P o)/\ai w w') (.returned (.bool z)) w':=λ{z w'} hg hy=>by
  refine Ok.mk ⟨?_,hg⟩;unfold aw.lY;simp only[M];rw[<-hy,show(g==0)=false by simpa using x]
  rfl
 refine⟨p,0,rfl,_,ae y.at' rfl,iZ (enc:=EJ) (k:=((o:Int),g)) Rl Wf y.map ?_⟩;rcases y.look t (o,g)with⟨A,h⟩|⟨k,b,A,h,N,l,O,rfl,a0,b2⟩
 ·rw[A]
  refine bT (rL rO none 0 0) ⟨_,rfl,PA.mk λw2 B s2 C=>az (aW rO none 0 0) C rfl λE H s3 I=>al.tt rfl (e (j.then ((B.then (ak.refl _)).new H λu hb=>.inr oM)) ?_)⟩;rw[h]
 ·rw[A]
  refine bT (rL b N l O) ⟨_,rfl,PA.mk λw2 B s2 C=>az (aW b N l O) C rfl λE H s3 I=>al.ff rfl ?_⟩;have J:ai w1 E:=(B.then (ak.refl _)).new H λu hb=>.inr oM;have m:=j.then J;have Q:=J.get L id;have a1:=aw.get_some h;have b3:b.aQ.length=S.n:=by have:=rq (t.Ws b a1.1);omega
  refine⟨_,ae I rfl,_,ae Q rfl,al.dec (λhl=>e m ?_) (λhl=>?_)⟩
  ·rw[h]
   simp only[Bool.and_eq_false_iff,decide_eq_false_iff_not];left;omega
  have a2:=s.ah m;have R:=a0.ah J;have b6:=R.len;refine⟨_,_,_,ae I rfl,λT i w'=>∃n:Nat,i=n/\n<=l/\T=l-n/\(∀f,f<n->b.aQ.getD f 0<=P.aQ.getD f 0)/\E=w',⟨_,0,rfl,Qj _,rfl,λf K=>oM,rfl⟩,?_⟩;rintro T i _ _ ⟨n,rfl,hj,rfl,U,rfl⟩;refine al.dec (λb7=>?_) (λb8=>?_)
  ·obtain⟨b4,o4,V,a3,a4,-,a5⟩:=R.mP (i:=n) oM
   obtain⟨b5,o5,W,a6,a7,-,a8⟩:=a2.mP (i:=n) oM;have X:b.aQ.getD n 0=V:=by rw[QQ,a4];rfl
   have Y:P.aQ.getD n 0=W:=by rw[QQ,a7];rfl
   refine⟨b4,o4,a3,oM,oM,V,a5,_,_,_,ae Q rfl,b5,o5,a6,oM,oM,W,a8,al.dec (λa9=>e m ?_) (λb9=>?_)⟩
   ·rw[h]
    simp only[Bool.and_eq_false_iff];right;rw[List.all_eq_false];exact⟨n,by simp;omega,by rw[X,Y];simpa using a9⟩
   ·refine⟨_,oM,n+1,aq oM,oM,rfl,λf K=>?_,rfl⟩
    by_cases b0:f=n
    ·subst b0;rw[X,Y];omega
    ·exact U f oM
  ·refine e m ?_
   rw[h];simp only[QK,ZY,Zk];exact⟨oM,λf K=>U f (by simp at K;omega)⟩
def RN(d:ck w p F S)(j:Int×Int):
  YX 301 #[ZL p,EJ j] w (Ok λz w'=>∃b c e G,z= .tuple #[jQ ((S.get j).getD rO) b c e,.bool (S.get j).isSome]/\Row aI 8 w' G b c ((S.get j).getD rO).aQ/\(∀n,G n->w.heap.size<=n/\n<w'.heap.size)/\ai w w'):=by
 obtain⟨L,q,d⟩:=d;obtain⟨h,i⟩:=j;refine wV (PA.mk λw1 M s1 k=>PA.mk λA B s2 u=>λl C=>?_);have v:ai A l:=C.af;have s3:l.heap.size=A.heap.size:=by rw[C.heap]
 have k:=v.get (B.get k id) id;have u:=v.get u id;have E:=(M.then B).then v;have x:=d.ah E;have a2:=d.map.lt;have a3:=ax d.at';obtain⟨a,b,c,e,n,f,g,H,N,O⟩:∃(a:aj) (b:YQ) (c e:Nat) (n:Bool),(aF q.l (h,i)).getD (jQ rO none 0 0)=jQ a b c e/\(aF q.l (h,i)).isSome=n/\(S.get (h,i)).getD rO=a/\(S.get (h,i)).isSome=n/\Row aI 8 l q.D b c a.aQ:=by
  rcases x.look L (h,i)with⟨f,g⟩|⟨z,Q,f,g,R,T,U,rfl,V,a4⟩
  ·exact⟨rO,none,0,0,false,by rw[f];rfl,by rw[f];rfl,by rw[g];rfl,by rw[g];rfl,Row.nil _ _⟩
  ·exact⟨Q,R,T,U,true,by rw[f];rfl,by rw[f];rfl,by rw[g];rfl,by rw[g];rfl,V⟩
 have I:∀n,q.D n->n<w.heap.size:=λn P=>d.aC n (d.sub n (.inr (.inr (.inr P))));refine⟨λn=>n=l.heap.size,p,0,rfl,oM,_,ae x.at' rfl,oM,_,_,ae k rfl,ae k rfl,bT (rL a b c e) ⟨n,λw' W=>?_,PA.mk λw4 m s4 X=>⟨ai.af m,az (aW a b c e) X rfl λw5 o s5 Y=>⟨o,?_⟩⟩⟩⟩
 ·have:=dX Rl Wf (x.map.af W oM) (h,i) true
  rw[f,g]at this;exact this
 have Z:=(O.ah m).af o λn P hn=>by have:=I n P;omega
 refine ar (aW a b c e) Y (PC.ok (mN Z λn P=>by have:=I n P;omega) ?_);rintro _ w6 ⟨r,s,t,G,rfl,a0,J,y⟩;have a1:=y.get (o.get (m.get u id) oM) id;have z6:=y.size;refine bT (rL a r s t) ⟨rfl,az (aW a r s t) a1 rfl λw7 K s7 g7=>ar (aW a r s t) g7 (Ok.mk ⟨r,s,t,G,by rw[H,N],?_,?_,?_⟩)⟩
 ·rw[H];exact a0.af K λn P hn=>by have:=J n P;omega
 ·intro n P;have:=J n P;omega
 ·exact(((E.then m).new o λn P=>.inr oM).then y).new K λn P=>.inr oM

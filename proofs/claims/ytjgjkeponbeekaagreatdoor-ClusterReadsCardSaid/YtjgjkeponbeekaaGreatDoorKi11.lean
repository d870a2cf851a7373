import Derived.Test.YtjgjkeponbeekaaGreatDoorKi10
import Derived.Shelf.SlSortCmp.WholeK
import Derived.Shelf.SlMaps.Clone
import Derived.Ground.SlsfProg
import Derived.Ground.SlmcProg
import Derived.Shelf.SlGeneric
import Derived.Shelf.SlSortCmp.NoneTotal
import Derived.Laws.StructEq
import Derived.Carry
import Derived.SizedLaws
import Derived.WalkKit
import Derived.ProofKit
import Derived.OpenShut
import Derived.Deep.DeepHandedRow
import Derived.Deep.Slices
set_option maxHeartbeats 4000000
set_option linter.all false
set_option maxRecDepth 100000
open Go.IntKind renaming wrap→XG
namespace Go.Proofs.YtjgjkeponbeekaaGreatDoor
open Go.au
def Ta:jF XP 42 3 1 8:=⟨kR,kR,dC⟩
def fl(P:List Int)(n:Int):Int:=if n<0 then 0 else max (P.getD n.toNat 0) 0
variable{e r:Int}{b0 t:List Int}{a c i p:Nat}{d u:ZH}{b:World}{o:aj}
def Su(P:0<=e)(n:t[e.toNat]? =some r):fl t e=max r 0:=by
 unfold fl;rw[Zq oM];simp[List.getD,n]
def QG(n:(t.length:Int)<=e):fl t e=0:=by
 unfold fl;split
 ·rfl
 ·have:t[e.toNat]? =none:=by simp;omega
  simp[List.getD,this]
def nG{i:Int}(f:Ints b d a t):
  ZG 196 #[.slice d a c,XH i] b (Ok λg h=>g= XH (fl t i)/\b=h):=by
 refine ME ?_;refine an.mk (λP=>?_) (λP=>an.mk (λn=>?_) (λn=>?_))
 ·have:=XV P
  exact Ok.mk ⟨by simp[fl,this],rfl⟩
 ·have n:=XV n
  exact Ok.mk ⟨by rw[QG (by rw[<-f.len];exact n)],rfl⟩
 ·have P:=Xy P
  have n:=Xy n;obtain⟨j,e,k,rfl,o,l,p,m⟩:=f.at (i:=i) oM oM;refine⟨j,e,rfl,oM,oM,k,m,Ok.mk ⟨?_,rfl⟩⟩;rw[Su oM l]
  congr 1
  omega
def pK(P a:List Int)(b:Nat):List Int:=(List.range b).map λ(n:Nat)=>max (fl P n) (fl a n)
def jJ(n P:List Int):List Int:=pK n P (max n.length P.length)
def ID(P a:List Int)(n:Nat):pK P a (n+1)=pK P a n++[max (fl P n) (fl a n)]:=by simp[pK,List.range_succ]
def rZ(P a:List Int)(n:Nat):(pK P a n).length=n:=by simp[pK]
def FY(P:World)(e:TypeId)(f:List Int)(g:Value)(a:World):Prop:=
 ∃n b c,g= .slice n b c/\Own a e 1 n b c (ints f)/\ai P a/\∀d,aF n=some d->P.heap.size<=d
def Sv:(if r>e then r else e)=max e r:=oM
def zY(h:Ints b d a t)(n:Ints b u c b0):
  ZG 192 #[.slice d a i,.slice u c p] b (Ok (FY b 3 (jJ t b0))):=by
 have v:=h.len;have w:=n.len;have x:=h.dP;have y:=n.dP;unfold aK at x y;refine JN ⟨λm j P o q r=>q=(P:Int)/\P<=max a c/\m=max a c-P/\Own r 3 1 j P o (ints (pK t b0 P))/\ai b r/\∀u,aF j=some u->b.heap.size<=u,
  ⟨_,rfl,oM,rfl,Own.nil _ _ _,ak.refl _,by simp[aF]⟩,?_⟩
 rintro m j P o q _ C ⟨rfl,E,rfl,s,e,k⟩;refine an.mk (λf=>?_) (λf=>?_)
 ·have f:=XV f
  refine PC.ok (nG (h.ah e)) ?_;rintro _ _ ⟨rfl,rfl⟩;refine⟨_,rfl,PC.ok (nG (n.ah e)) ?_⟩;rintro _ _ ⟨rfl,rfl⟩;refine⟨_,rfl,PA.mk λF l H z=>?_⟩;refine La Ta (s.ah l) z ba λI J K A B g=>?_;refine⟨_,_,_,rfl,_,?_,?_,oM,rfl,?_,(e.ah l).new B ?_,?_⟩
  ·omega
  ·rw[wrap_i64 bc];simp
  ·rw[ID,<-Sv];exact A
  ·intro u n;exact .inr (k u n.symm)
  ·intro u n
   rcases g with g|g
   ·exact k u (g▸n)
   ·rw[g]at n;cases n;have:=e.size;have:=l.size;omega
 ·have f:=Xy f
  have:P=max a c:=oM
  subst this;refine Ok.mk ⟨_,_,_,rfl,?_,e,k⟩;unfold jJ;rw[<-v,<-w];exact s
def xN(n P:List Int):Nat->Int
 |0=>0
 |k+1=>if fl n k<fl P k then OZ .i64 (xN n P k) 1 else if fl n k>fl P k then OZ .i64 (xN n P k) 2 else xN n P k
def lK(n P:List Int):Int:=xN n P (max n.length P.length)
def LX(g:Ints b d a t)(h:Ints b u c b0):
  ZG 193 #[.slice d a i,.slice u c p] b (Ok λq j=>q= XH (lK t b0)/\b=j):=by
 have r:=g.len;have s:=h.len;have v:=g.dP;have w:=h.dP;unfold aK at v w;refine MD ⟨λl m o j=>∃n:Nat,o=n/\n<=max a c/\l=max a c-n/\m=xN t b0 n/\j=b,
  ⟨_,0,rfl,oM,rfl,rfl,rfl⟩,?_⟩
 rintro l m o _ x ⟨n,rfl,y,rfl,rfl,rfl⟩;refine an.mk (λf=>?_) (λf=>?_)
 ·have f:=XV f
  refine PC.ok (nG g) ?_;rintro _ _ ⟨rfl,rfl⟩;refine⟨_,rfl,PC.ok (nG h) ?_⟩;rintro _ _ ⟨rfl,rfl⟩;have k:XG .i64 ((n:Int)+1)=((n+1:Nat):Int):=by rw[wrap_i64 bc];simp
  refine⟨_,rfl,an.mk (λP=>?_) (λP=>an.mk (λe=>?_) (λe=>?_))⟩
  ·have P:=XV P
   exact⟨_,oM,n+1,k,oM,rfl,by simp[xN,P],rfl⟩
  ·have P:=Xy P
   have e:=XV e;exact⟨_,oM,n+1,k,oM,rfl,by simp[xN,P,e],rfl⟩
  ·have P:=Xy P
   have e:=Xy e;exact⟨_,oM,n+1,k,oM,rfl,by simp[xN,P,e],rfl⟩
 ·have f:=Xy f
  have:n=max a c:=oM
  subst this;exact Ok.mk ⟨by unfold lK;rw[<-r,<-s],rfl⟩
structure jH where
 bt:Int
 ns:Int
 kV:Int
 least:Int
 deriving DecidableEq
structure bd where
 kind:Int
 dt:Int
 floor:Bool
 bl:List jH
 deriving DecidableEq
structure iV where
 aS:Int
 field:Int
 group:Int
 Eb:Int
 make:Int
 deriving DecidableEq
structure aM where
 types:List (List bd)
 projs:List iV
 deriving DecidableEq
structure lO where
 aS:Int
 agg:Int
 field:Int
 op:Int
 arg:Int
 expect:Int
 key:Int
 deriving DecidableEq
structure cD where
 n:Int
 set:List Int
 deriving DecidableEq
structure mf where
 version:Int
 cells:List cD
 deriving DecidableEq
structure cz where
 ev:aj
 void:Bool
 Eb:Int×Int
structure dh where
 group:Int
 value:Int
 count:Int
 deriving DecidableEq
abbrev oK(n:Int):Int:=XG .i64 n
def within(n P a:Int):Bool:=decide (P<=n)&&decide (n<=a)
def aM.at(n:aM)(P:Int):List bd:=if within P 0 (n.types.length-1)then n.types.getD P.toNat []else []
def aM.Cy(n:aM)(P a:Int):Option bd:=
 if within P 0 (n.types.length-1)&&within a 0 ((n.at P).length-1)then(n.at P)[a.toNat]? else none
def qt(n:Int):Int:=if n=1 then 1 else if n=2 then 2 else if n=3 then 3 else if n=4 then 3 else if n=5 then 4 else 0
def kM(P:aM)(a b op arg:Int):Int:=match P.Cy a b with
 |none=>8
 |some n=>if !within op 1 5||qt op !=n.kind then 2 else if op==1&&arg==0||op==5&& !within arg 0 (n.bl.length-1)then 1 else 0
def qG(n:aM):Bool:=
 if !within n.types.length 1 8||decide (8<n.projs.length)then true else
 n.types.any λa=>!within a.length 1 8||a.any λP=>if P.kind==4 then !within P.bl.length 1 16 else decide (0<P.bl.length)
def QP(P:List bd)(a n:Int):Bool:=within a 0 (P.length-1)&&((P[a.toNat]?).map (·.kind)==some n)
def PZ(n P:Int):Bool:=P==1||P==2&&within n 2 4||P==3&&n==2
def eX(n:List bd)(f:bd):Int:=
 if !within f.kind 1 4 then 2 else if !within f.dt 1 3|| !PZ f.kind f.dt||f.floor&&f.kind !=1 then 1 else
 if f.bl.any λm=>decide (m.bt<0)||decide (m.ns<0)||m.kV== -1&&m.least !=0 then 1 else
 if f.bl.any λm=>m.kV != -1&& !QP n m.kV 1 then 8 else 0
def lG(P:aM)(n:iV):Int:=
 if(P.Cy n.aS n.field).isNone then 8 else
 if n.group==3&& !QP (P.at n.aS) n.Eb 2||n.group !=3&&n.Eb !=0 then 8 else
 if !within n.group 1 3|| !within n.make 1 5 then 2 else 0
def cj{P:Type}(n:P->Int):List P->Int
 |[]=>0
 |x::a=>if n x !=0 then n x else cj n a
def cN(n:aM):Int:=
 if qG n then 3 else
 let P:=cj (λa=>cj (eX a) a) n.types
 if P !=0 then P else cj (lG n) n.projs
def aW(n:aj):Int×Int:=(n.origin,n.seq)
def dS(a n:aj):Bool:=decide (a.ay<n.ay)||a.ay==n.ay&&(decide (a.origin<n.origin)||a.origin==n.origin&&decide (a.seq<n.seq))
def rV(n P:aj):Int:=if dS n P then-1 else if dS P n then 1 else 0
def cK(n:aj)(P:Nat):Int:=
 if n.origin<0\/(P:Int)<=n.origin\/min n.seq n.ay<1\/min n.agg n.key<0\/n.aP.length≠P\/n.aP.any (λa=>decide (a<0))then 1 else
 if n.aP.getD n.origin.toNat 0≠oK (n.seq-1)then 9 else
 if n.op<1\/5<n.op then 2 else if min n.aS n.field<0\/8<=n.aS\/8<=n.field then 8 else 0
def Ax(n P:aj):Bool:=decide (n.seq<=fl P.aP n.origin)
def ux(n P:aj):Bool:=aW n !=aW P&& !Ax n P&& !Ax P n
structure aw where
 n:Nat
 l:List aj
def c_(n:aj):List aj->List aj
 |[]=>[n]
 |x::P=>if dS n x then n::x::P else x::c_ n P
def aw.Es(n:aw)(P:Nat):Nat:=n.l.countP λa=>a.origin==(P:Int)
def aw.vec(n:aw):List Int:=(List.range n.n).map λP=>(n.Es P:Int)
def aw.get(n:aw)(id:Int×Int):Option aj:=n.l.find? λP=>aW P==id
def aw.top(n:aw):Int:=n.l.foldl (λP a=>max P a.ay) 0
def aw.lI(d:aw)(n:aj)(a:Nat):Bool:=
 let b:=n.aP.getD a 0
 b==0||match d.get (a,b)with
  |none=>false
  |some P=>decide (P.ay<n.ay)&&(List.range P.aP.length).all λc=>decide (P.aP.getD c 0<=n.aP.getD c 0)
def aw.add(n:aw)(P:aj):Int×aw:=
 let no:=cK P n.n
 if no≠0 then(no,n)else
 if(n.get (aW P)).isSome then(16,n)else
 if P.seq≠(n.vec.getD P.origin.toNat 0)+1 then(9,n)else
 if(List.range n.n).any λa=>!n.lI P a then(9,n)else(0,{n with l:=c_ P n.l})
def aw.fw(n:aw)(l:List aj):aw:=l.foldl (λn P=>(n.add P).2) n
def aw.missing(a:aw)(b:List Int)(n:Int):List aj:=(a.l.filter λP=>decide (max 0 (fl b P.origin)<P.seq)).take (max 0 n).toNat
def aw.keyed(n:aw)(key:Int):Option aj:=n.l.find? λP=>key !=0&&P.key==key
def du(n:List bd):List cD:=n.map λ_=>⟨0,[]⟩
def Lf(n P:Int):Bool:=decide (n<oK (n+P))==decide (0<P)
def vF(e:List bd)(c:List cD)(n b arg:Int):Int:=
 let d:=e.getD n.toNat ⟨0,0,false,[]⟩
 let P:=c.getD n.toNat ⟨0,[]⟩
 let f:Bool:=
  if b=1 then(arg==0||Lf P.n arg)&& !(d.floor&&decide (oK (P.n+arg)<0))
  else if b=3 then decide (arg∈P.set)||decide (P.set.length<64)
  else if b=5 then(let a:=d.bl.getD arg.toNat ⟨0,0,0,0⟩;P.n==a.bt&&(decide (a.kV<0)||decide (a.least<=(c.getD a.kV.toNat ⟨0,[]⟩).n)))
  else true
 if f then 0 else 10
def pA(n:Int):List Int->List Int
 |[]=>[n]
 |y::P=>if n<y then n::y::P else if n=y then y::P else y::pA n P
def Ri(c:List bd)(a:List cD)(n b arg:Int):List cD:=
 let d:=c.getD n.toNat ⟨0,0,false,[]⟩
 let P:=a.getD n.toNat ⟨0,[]⟩
 if b=1 then a.set n.toNat {P with n:=oK (P.n+arg)}
 else if b=2 then a.set n.toNat {P with n:=arg}
 else if b=3 then a.set n.toNat {P with set:=pA arg P.set}
 else if b=4 then a.set n.toNat {P with set:=P.set.filter λe=>e !=arg}
 else if b=5 then a.set n.toNat {P with n:=(d.bl.getD arg.toNat ⟨0,0,0,0⟩).ns}
 else a
def dY(P:bd)(a n:Int×Int):Bool:=
 if P.kind=2 then a.1==2&&n.1==2&&a !=n
 else if P.kind=4 then a.1==5&&n.1==5&&a !=n
 else if P.kind=3 then a==(3,n.2)&&n==(4,a.2)||a==(4,n.2)&&n==(3,a.2)
 else false
def lW(f:bd)(n P:aj):Bool:=(f.dt==2||f.dt==3&&decide (P.arg<n.arg))&&dY f (n.op,n.arg) (P.op,P.arg)&&ux n P
structure aU where
 decl:aM
 entries:List cz
 dR:List ((Int×Int)×mf)
 done:List ((Int×Int×Int)×List aj)
def aU.new(n:aM):aU:=⟨n,[],[],[]⟩
def aU.try(P:aU)(n:aj):Bool×(Int×Int)×aU:=
 if kM P.decl n.aS n.field n.op n.arg≠0 then(true,(0,0),P)else
 let c:=P.decl.at n.aS
 let b:=(n.aS,n.agg,n.field)
 match((aE P.done b).getD []).find? λe=>lW (c.getD n.field.toNat ⟨0,0,false,[]⟩) e n with
 |some e=>(true,aW e,P)
 |none=>
  let d:=aE P.dR (n.aS,n.agg)
  let a:=match d with
   |some d=>d.cells
   |none=>du c
  if vF c a n.field n.op n.arg≠0 then(true,(0,0),P)else
  (false,(0,0),{P with
   dR:=aI P.dR (n.aS,n.agg) ⟨oK ((d.getD ⟨0,[]⟩).version+1),Ri c a n.field n.op n.arg⟩
   done:=aI P.done b ((aE P.done b).getD []++[n])})
def aU.add(b:aU)(P:aj):cz×aU:=
 let n:=b.try P
 let a:cz:=⟨P,n.1,n.2.1⟩
 (a,{n.2.2 with entries:=n.2.2.entries++[a]})
def aU.state(n:aU)(P a:Int):Option mf:=aE n.dR (P,a)
def cm(n:aM)(P:List aj):aU:=P.foldl (λa b=>(a.add b).2) (aU.new n)
def jS(b:List cz)(c P d:Int)(n:Nat):List cz×Bool:=
 let own:=(b.filter λa=>a.ev.aS==c&&a.ev.agg==P).drop (max d 0).toNat
 (own.take n,decide (n<own.length))
def nn(b:List dh)(n:Int)(P:Nat):List dh×Bool:=
 let a:=b.dropWhile λc=>decide (c.group<=n)
 (a.take P,decide (P<a.length))
def i_(P:aM)(n:lO):Int:=if n.agg<0\/n.key<0\/n.expect< -1 then 1 else kM P n.aS n.field n.op n.arg
def aQ(P:lO)(n:Int)(a:List Int)(b:Int):Int×aj:=
 let no:aj:=⟨0,0,0,[],0,0,0,0,0,0⟩
 if n<0\/(a.length:Int)<=n\/b<0 then(1,no)else
 if fl a n=9223372036854775807\/b=9223372036854775807 then(13,no)else
 (0,⟨n,fl a n+1,b+1,jJ a [],P.aS,P.agg,P.field,P.op,P.arg,P.key⟩)
def qH(d:aM)(b:aw)(h:aU)(P start:Int)(n:lO):aj×Bool×Int:=
 let no:aj:=⟨0,0,0,[],0,0,0,0,0,0⟩
 let e:=i_ d n
 if e≠0 then(no,false,e)else
 match b.keyed n.key with
 |some i=>(i,false,0)
 |none=>
  let f:=d.at n.aS
  let g:=h.state n.aS n.agg
  let a:=match g with
   |some j=>j.cells
   |none=>du f
  if¬(n.expect= -1\/n.expect=(g.getD ⟨0,[]⟩).version)then(no,false,11)else
  if vF f a n.field n.op n.arg≠0 then(no,false,10)else
  let c:=aQ n P b.vec (max b.top start)
  (c.2,decide (c.1=0),c.1)
structure dd where
 p:iV
 rows:List (Int×dh)
def lF(n:iV)(P:dh)(arg:Int):Int:=
 if n.make=1 then P.count else if n.make=2 then oK (P.value+arg)else
 if n.make=5\/P.count=1/\(n.make=3\/n.make=4)then arg else
 if n.make=3 then min P.value arg else if n.make=4 then max P.value arg else 0
def dd.add(n:dd)(e:cz)(b:Int):dd:=
 let a:=if n.p.group=1 then some e.ev.agg else if n.p.group=2 then some e.ev.arg else if n.p.group=3 then some b else none
 match a with
 |none=>n
 |some a=>
  if e.void||e.ev.aS !=n.p.aS||e.ev.field !=n.p.field then n else
  let P:=(aE n.rows a).getD ⟨0,0,0⟩
  let P:dh:=⟨a,P.value,oK (P.count+1)⟩
  {n with rows:=aI n.rows a ⟨a,lF n.p P e.ev.arg,P.count⟩}
def ml(n:dh):List dh->List dh
 |[]=>[n]
 |y::P=>if n.group<y.group then n::y::P else y::ml n P
def dd.list(n:dd):List dh:=(n.rows.map (·.2)).foldr ml []
structure jE where
 view:aU
 rows:List dd
def jE.new(n:aM):jE:=⟨aU.new n,n.projs.map λP=>⟨P,[]⟩⟩
def rU(n:Option mf)(P:iV):Int:=match n with
 |none=>0
 |some n=>((n.cells[P.Eb.toNat]?).map (·.n)).getD 0
def jE.add(a:jE)(n:aj):jE:=
 let P:=a.view.add n
 let c:=P.2.state n.aS n.agg
 ⟨P.2,a.rows.map λb=>b.add P.1 (rU c b.p)⟩
def dG(n:aM)(P:List aj):jE:=P.foldl jE.add (jE.new n)
def eS(n:Nat)(P:List aj)(a:aj):Bool×List aj:=
 if n<=P.length\/P.any (λb=>aW b==aW a)then(false,P)else(true,c_ a P)
def eF(n:aw):List aj->Option (aj×aw×List aj)
 |[]=>none
 |e::a=>if(n.add e).1=0 then some (e,(n.add e).2,a)else(eF n a).map λP=>(P.1,P.2.1,e::P.2.2)
def dT:Nat->aw->List aj->List aj->List aj×List aj
 |0,a,P,n=>(n,P)
 |k+1,a,P,n=>match eF a P with
  |none=>(n,P)
  |some (b,c,d)=>dT k c d (n++[b])
def br(P:aw)(n:List aj):List aj×List aj:=
 let n:=n.filter λa=>(P.get (aW a)).isNone
 dT (n.length+1) P n []
structure bS where
 kind:Int
 bt:Int
 ns:Int
 vec:List Int
 events:List aj
def gw(n:bS)(P:Int):Int:=if 0<n.events.length then 8 else if(n.vec.length:Int)≠P then 1 else if n.vec.any (λa=>decide (a<0))then 1 else 0
def eR(P:bS)(a:Nat)(n:Int):Int:=if 0<P.vec.length then 8 else if P.events.length<1\/n<(P.events.length:Int)then 3 else cj (λb=>cK b a) P.events
def fr(m:bS)(a:Nat)(P:Int):Int:=
 let n:=!(decide (0<=m.bt)&&decide (m.bt<a))|| !(decide (0<=m.ns)&&decide (m.ns<a))||m.bt==m.ns
 if m.kind=3 then(if n then 1 else eR m a P)
 else if m.kind=1\/m.kind=2\/m.kind=4 then(if n then 1 else gw m a)
 else 2
def jQ(n:aw)(P a:Int):bS:=⟨1,P,a,n.vec,[]⟩
def yJ(n:aw)(P a:Int):bS:=⟨4,P,a,n.vec,[]⟩
def lr(c:aw)(n:Int)(P:bS)(a:Int):List bS:=
 if P.kind≠1/\P.kind≠2 then []else
 let d:=c.missing P.vec (max 1 (min a 32))
 let f:List bS:=if 0<d.length then [⟨3,n,P.bt,[],d⟩]else []
 let e:=lK P.vec c.vec
 let g:List bS:=if P.kind=1/\(e=2\/e=3)then [⟨2,n,P.bt,c.vec,[]⟩]else []
 let b:=f++g
 if b.isEmpty then [yJ c n P.bt]else b
def EV:(if r<e then r else e)=min e r:=oM
def RB{D:XN}(i:Row aJ 8 b D d a t):
  ZG 184 #[.slice d a c,.func (.func 183) #[] #[]] b (Ok λg n=>g= .bool (t.any λP=>decide (P<0))/\b=n):=by
 have w:=i.len;have q:=i.dP;unfold aK at q;refine jb (PC.ok (φ:=λg n=>(∃f:Int,g= XH f/\(0<=f↔(t.any λP=>decide (P<0))=true))/\b=n) (kh ⟨λl f n=>∃e:Nat,f=e/\e<=a/\l=a-e/\((t.take e).any λP=>decide (P<0))=false/\b=n,
  ⟨_,0,rfl,Qj _,rfl,sM,rfl⟩,?_⟩) ?_)
 ·rintro l f _ _ ⟨e,rfl,x,rfl,j,rfl⟩
  refine an.dec (λr=>?_) (λr=>?_)
  ·obtain⟨s,k,m,rfl,o,_,u⟩:=i.mr (i:=e) oM
   refine⟨s,k,rfl,oM,oM,_,u,183,_,_,rfl,kR,PC.ok (φ:=λg n=>g= .bool (decide (m<0))/\b=n) (yu (Ok.mk ⟨rfl,rfl⟩)) ?_⟩;rintro _ _ ⟨rfl,rfl⟩;refine⟨_,rfl,an.dec (λp=>?_) (λp=>?_)⟩
   ·exact Ok.mk ⟨⟨_,rfl,λ_=>List.any_eq_true.2 ⟨m,QZ o,by simpa using p⟩,λ_=>oM⟩,rfl⟩
   ·refine⟨_,oM,e+1,aq oM,oM,rfl,?_,rfl⟩
    rw[Qw,o,List.any_append,j];simp;omega
  ·rw[Qz oM]at j
   exact Ok.mk ⟨⟨_,rfl,λh=>oM,λh=>by rw[j]at h;cases h⟩,rfl⟩
 ·rintro _ _ ⟨⟨f,rfl,v⟩,rfl⟩
  exact⟨_,rfl,Ok.mk ⟨by cases h:(t.any λP=>decide (P<0))<;>simp[h]at v⊢<;>omega,rfl⟩⟩
def xr{D:XN}(k:Row aJ 8 b D d a o.aP)(I:i<4611686018427387904):
  ZG 113 #[.agg (aC o d a c).toArray,XH (i:Int)] b (Ok λh j=>h= XH (cK o i)/\ai b j):=by
 have J:=k.len;have x:=k.dP;unfold aK at x;refine Ce (PA.mk λy l K f=>⟨_,ae f rfl,?_⟩);have e:(o.origin<0\/(i:Int)<=o.origin\/min o.seq o.ay<1\/min o.agg o.key<0\/o.aP.length≠i\/o.aP.any (λp=>decide (p<0))=true)->Ok (λh j=>h= XH (cK o i)/\ai b j) (.returned (XH 1)) y:=λn=>by
  refine Ok.mk ⟨?_,l⟩;unfold cK;rw[Zx n]
 refine an.dec (λn=>e (.inl n)) λL=>⟨_,ae f rfl,an.dec (λn=>e (.inr (.inl n))) λM=>⟨_,ae f rfl,_,ae f rfl,?_⟩⟩
 with_reducible (conv=>whnf)
 rw[EV];refine an.dec (λn=>e (.inr (.inr (.inl n)))) λN=>⟨_,ae f rfl,_,ae f rfl,?_⟩
 with_reducible (conv=>whnf)
 rw[EV];refine an.dec (λn=>e (.inr (.inr (.inr (.inl n))))) λO=>⟨_,_,_,ae f rfl,an.dF (λn=>e (.inr (.inr (.inr (.inr (.inl oM)))))) λQ=>⟨_,_,_,ae f rfl,PC.ok (RB (k.ah l)) ?_⟩⟩
 rintro _ _ ⟨rfl,rfl⟩;refine⟨_,rfl,an.mk (λn=>e (.inr (.inr (.inr (.inr (.inr n)))))) λz=>⟨_,_,_,ae f rfl,_,ae f rfl,?_⟩⟩;obtain⟨A,q,B,rfl,C,R,E⟩:=(k.ah l).mr (i:=o.origin.toNat) oM;have t:¬(o.origin<0\/(i:Int)<=o.origin\/min o.seq o.ay<1\/min o.agg o.key<0\/o.aP.length≠i\/o.aP.any (λp=>decide (p<0))=true):=by
  rw[z];simp only[Bool.false_eq_true,or_false,not_or];omega
 refine⟨A,q,rfl,oM,oM,_,E,_,ae f rfl,λu v=>?_⟩;have F:ai b u:=l.then v.af;have g:=(bF.af (S:=λ_=>False) v).get f id;have w:o.aP.getD o.origin.toNat 0=B:=by rw[QQ,C];rfl
 have P:∀r:Int,cK o i=r->Ok (λh j=>h= XH (cK o i)/\ai b j) (.returned (XH r)) u:=λr n=>Ok.mk ⟨by rw[n],F⟩;refine an.dF (λn=>P 9 (by unfold cK;rw[Zq t,w,Zx n])) λH=>⟨_,ae g rfl,?_⟩
 have s:cK o i=if o.op<1\/5<o.op then 2 else if min o.aS o.field<0\/8<=o.aS\/8<=o.field then 8 else 0:=by
  unfold cK;rw[Zq t,w,Zq (by simpa using H)]
 refine an.dec (λn=>P 2 (by rw[s,Zx (.inl n)])) λS=>⟨_,ae g rfl,an.dec (λn=>P 2 (by rw[s,Zx (.inr n)])) λT=>⟨_,ae g rfl,_,ae g rfl,?_⟩⟩
 with_reducible (conv=>whnf)
 rw[EV];have m:cK o i=if min o.aS o.field<0\/8<=o.aS\/8<=o.field then 8 else 0:=by rw[s,Zq oM]
 refine an.dec (λn=>P 8 (by rw[m,Zx (.inl n)])) λU=>⟨_,ae g rfl,an.dec (λn=>P 8 (by rw[m,Zx (.inr (.inl n))])) λV=>⟨_,ae g rfl,an.dec (λn=>P 8 (by rw[m,Zx (.inr (.inr n))])) λW=>P 0 (by rw[m,Zq oM])⟩⟩
end Go.Proofs.YtjgjkeponbeekaaGreatDoor
namespace Go.au
open Go
def Vz(P n:Value):Bool:=match P with
 | .int a _=>match n with
  | .int b _=>decide (b=a)
  |_=>false
 | .bool _=>match n with
  | .bool _=>true
  |_=>false
 | .string _=>match n with
  | .string _=>true
  |_=>false
 | .slice _ _ _=>match n with
  | .slice _ _ _=>true
  |_=>false
 | .pointer _=>match n with
  | .pointer _=>true
  |_=>false
 | .map _=>match n with
  | .map _=>true
  |_=>false
 |_=>true
def Ui:List Value->List Value->Bool
 |[],[]=>true
 |z::n,P::a=>Vz z P&&Ui n a
 |_,_=>false
def RP(z n:Value):Bool:=match z with
 | .agg P=>match n with
  | .agg cs=>Ui P.toList cs.toList
  |_=>false
 |z=>Vz z n
variable{l:Array Value}{a c:Nat}{C:Nat×Nat}{h:Program}{g q:TypeId}{b8 v:Value}{M:Value->Prop}{b:World}{y:XU}
def QD{φ:Value->Prop}(P:Vz v b8=true)(n:φ b8):NZ v φ:=by
 unfold NZ
 cases v<;>cases b8<;>simp[Vz]at P<;>first
  |exact⟨_,n⟩
  |exact⟨_,_,_,n⟩
  |(subst P;exact⟨_,n⟩)
def KU:∀{P cs:List Value} {φ:List Value->Prop},Ui P cs=true->φ cs->PH P φ
 |[],[],φ,_,a=>a
 |[],_::_,φ,n,_=>by simp[Ui]at n
 |_::_,[],φ,n,_=>by simp[Ui]at n
 |z::P,b::d,φ,n,a=>by
  simp only[Ui,QK]at n;exact QD (φ:=λb=>PH P λc=>φ (b::c)) n.1 (KU (φ:=λc=>φ (b::c)) n.2 a)
def bO(n:RP v b8=true)(P:M b8):tH v M:=by
 unfold tH;split
 ·rename_i c
  cases b8<;>simp[RP]at n
  rename_i cs;exact KU (φ:=λa=>M (.agg a.toArray)) n (by simpa using P)
 ·rename_i b
  refine QD ?_ P
  cases v<;>first|exact n|exact Zz rfl (b _)
def xM{b:World}{c:Addr}{d:Prop}:∀{cs:List Value} {n:Nat},(∀P v,cs[P]? =some v->b.cell? (c.add (n+P))=some v)->d->gZ b c n cs d
 |[],n,_,a=>a
 |v::h,n,e,a=>⟨e 0 v rfl,xM (λP f g=>by have:=e (P+1) f (by simpa using g);rwa [show n+1+P=n+(P+1) by omega]) a⟩
def gM(n:Program)(P:TypeId)(cs:List Value):Bool:=tx n P&&(match dv n P with
 | .agg a=>Nat.beq (lD n P) a.size&&Ui a.toList cs
 |_=>false)&&Nat.beq cs.length (lD n P)&&cs.all Value.oneCell'
def KV{cs:List Value}(e:gM h g cs=true)(i:∀P d,cs[P]? =some d->b.cell? ⟨a,c+P,none⟩=some d)(j:M (.agg cs.toArray)):
  iK h g (.pointer (some ⟨a,c,none⟩)) b M:=by
 simp only[gM,QK]at e;obtain⟨⟨⟨k,n⟩,m⟩,o⟩:=e;unfold iK;simp only[k]
 revert n
 cases dv h g<;>simp only[Bool.false_eq_true,false_implies]
 rename_i p;intro n;simp only[QK]at n;simp only[n.1];exact KU (φ:=λf=>gZ b ⟨a,c,none⟩ 0 f (M (.agg f.toArray))) n.2 (xM (λP d l=>by rw[Xz,Addr.add_lit];exact i P d l) j)
def ar{cs:List Value}(n:gM h g cs=true)(P:b.heap[a]? =some (.cells cs.toArray q C))(c:M (.agg cs.toArray)):
  iK h g (XL a) b M:=KV n (λe f d=>ae P (by rw[Xz];simpa using d)) c
def TX{cs:List Value}(d:gM h g cs=true)(e:b.heap[a]? =some (.cells l q C))(f:∀n P,cs[n]? =some P->l[c+n]? =some P)(i:M (.agg cs.toArray)):
  iK h g (.pointer (some ⟨a,c,none⟩)) b M:=KV d (λn P j=>ae e (f n P j)) i
def bw{P a k:Nat}{es:List Value}(d:gM h g es=true)(e:es.length=k)(f:∀n,n<k->b.cell? ⟨P,a+n,none⟩=es[n]?)(i:M (.agg es.toArray)):
  iK h g (.pointer (some ⟨P,a,none⟩)) b M:=KV d (λn j c=>by rw[f n (by rw[<-e];exact(Qv.1 c).1)];exact c) i
def DX{b d:Nat}{g:TypeId}{h:XU}:∀(a:List Value) (P:Nat) {n:World} {cs:Array Value},n.heap[b]? =some (.cells cs g (0,0))->d+P+a.length<=cs.size->
  (∀c,ak (·=b) n c->c.heap.size=n.heap.size->c.heap[b]? =some (.cells (BH cs (d+P) a) g (0,0))->h c)->iO ⟨b,d,none⟩ P a n h
 |[],P,n,cs,e,i,f=>f n (ak.refl _) rfl e
 |v::a,P,n,cs,e,i,f=>by
  unfold iO;rw[Addr.add_lit];rw[Xq]at i;exact PS.mk e oM λr j k l=>DX a (P+1) l be λm o p q=>f m (j.then o) (p.trans k) q
def Uj{cs:List Value}(P:gM h g cs=true)(d:b.heap[a]? =some (.cells l q (0,0)))(o:c+cs.length<=l.size)(e:∀n,ak (·=a) b n->n.heap.size=b.heap.size->n.heap[a]? =some (.cells (BH l c cs) q (0,0))->y n):nq h g (.pointer (some ⟨a,c,none⟩)) (.agg cs.toArray) b y:=by
 simp only[gM,QK]at P;obtain⟨⟨⟨f,p⟩,i⟩,j⟩:=P;unfold nq;have k:Nat.beq cs.toArray.size (lD h g)=true:=by simpa using i
 have m:cs.toArray.toList.all Value.oneCell'=true:=by simpa using j
 simp only[f,k,m];exact DX cs 0 d oM e
def az{cs:List Value}(P:gM h g cs=true)(c:b.heap[a]? =some (.cells l q (0,0)))(d:cs.length=l.size)(e:∀n,ak (·=a) b n->n.heap.size=b.heap.size->n.heap[a]? =some (.cells cs.toArray q (0,0))->y n):nq h g (XL a) (.agg cs.toArray) b y:=
 Uj P c oM λn f i j=>e n f i (by rw[j,DW d])
end Go.au
namespace Go.Proofs
open Go.Shelf
def Tryz.NO:Go.Shelf.Ren:=⟨λ|6=>154|15=>218|14=>217|28=>276|29=>277|20=>268|21=>269|22=>270|23=>271|24=>272|25=>273|26=>274|27=>275|46=>316|47=>317|48=>318|49=>319|50=>320|57=>348|n=>n,λ|22=>59|24=>63|25=>260|3=>3|39=>324|0=>0|53=>365|55=>367|4=>4|46=>359|45=>358|50=>273|5=>5|9=>9|66=>400|70=>375|76=>426|77=>427|n=>n,λ|n=>n⟩
def Tryz.Tb:Go.Proofs.SlLaysF0.n6 Tryz.prog Tryz.NO:={
 mixed:=by kernel_rfl
 f6:=⟨Tryz.f154.name,am,Tryz.func154.trans ac⟩
 f14:=⟨Tryz.f217.name,am,Tryz.func217.trans ac⟩
 f15:=Tryz.func218.trans ac
 f20:=⟨Tryz.f268.name,am,Tryz.func268.trans ac⟩
 f21:=⟨Tryz.f269.name,am,Tryz.func269.trans ac⟩
 f22:=⟨Tryz.f270.name,am,Tryz.func270.trans ac⟩
 f23:=⟨Tryz.f271.name,am,Tryz.func271.trans ac⟩
 f24:=⟨Tryz.f272.name,am,Tryz.func272.trans ac⟩
 f25:=⟨Tryz.f273.name,am,Tryz.func273.trans ac⟩
 f26:=⟨Tryz.f274.name,am,Tryz.func274.trans ac⟩
 f27:=⟨Tryz.f275.name,am,Tryz.func275.trans ac⟩
 f28:=Tryz.func276.trans ac
 f29:=Tryz.func277.trans ac
 f46:=⟨Tryz.f316.name,am,Tryz.func316.trans ac⟩
 f47:=Tryz.func317.trans ac
 f48:=Tryz.func318.trans ac
 f49:=⟨Tryz.f319.name,am,Tryz.func319.trans ac⟩
 f50:=⟨Tryz.f320.name,am,Tryz.func320.trans ac⟩
 f57:=⟨Tryz.f348.name,am,Tryz.func348.trans ac⟩
 t0:=Tryz.underlying0
 a0:=Tryz.isAgg0
 z0:=Tryz.sizeOf0
 v0:=Tryz.zeroValue0
 t3:=Tryz.underlying3
 a3:=Tryz.isAgg3
 z3:=Tryz.sizeOf3
 v3:=Tryz.zeroValue3
 t4:=Tryz.underlying4
 a4:=Tryz.isAgg4
 z4:=Tryz.sizeOf4
 v4:=Tryz.zeroValue4
 t5:=Tryz.underlying5
 a5:=Tryz.isAgg5
 z5:=Tryz.sizeOf5
 v5:=Tryz.zeroValue5
 t9:=Tryz.underlying9
 a9:=Tryz.isAgg9
 z9:=Tryz.sizeOf9
 v9:=Tryz.zeroValue9
 t22:=Tryz.underlying59
 a22:=Tryz.isAgg59
 z22:=Tryz.sizeOf59
 v22:=Tryz.zeroValue59
 t25:=Tryz.underlying260
 a25:=Tryz.isAgg260
 z25:=Tryz.sizeOf260
 v25:=Tryz.zeroValue260
 t39:=Tryz.underlying324
 a39:=Tryz.isAgg324
 z39:=Tryz.sizeOf324
 v39:=Tryz.zeroValue324
 t45:=Tryz.underlying358
 a45:=Tryz.isAgg358
 z45:=Tryz.sizeOf358
 v45:=Tryz.zeroValue358
 t46:=Tryz.underlying359
 a46:=Tryz.isAgg359
 z46:=Tryz.sizeOf359
 v46:=Tryz.zeroValue359
 t50:=Tryz.underlying273
 a50:=Tryz.isAgg273
 z50:=Tryz.sizeOf273
 v50:=Tryz.zeroValue273
 t53:=Tryz.underlying365
 a53:=Tryz.isAgg365
 z53:=Tryz.sizeOf365
 v53:=Tryz.zeroValue365
 t55:=Tryz.underlying367
 a55:=Tryz.isAgg367
 z55:=Tryz.sizeOf367
 v55:=Tryz.zeroValue367
 t66:=Tryz.underlying400
 a66:=Tryz.isAgg400
 z66:=Tryz.sizeOf400
 v66:=Tryz.zeroValue400
 t70:=Tryz.underlying375
 a70:=Tryz.isAgg375
 z70:=Tryz.sizeOf375
 v70:=Tryz.zeroValue375
 t76:=Tryz.underlying426
 a76:=Tryz.isAgg426
 z76:=Tryz.sizeOf426
 v76:=Tryz.zeroValue426
 t77:=Tryz.underlying427
 a77:=Tryz.isAgg427
 z77:=Tryz.sizeOf427
 v77:=Tryz.zeroValue427}
def Tryz.NP:Go.Shelf.Ren:=⟨λ|6=>406|15=>218|14=>408|28=>276|29=>277|20=>409|21=>410|22=>411|23=>412|24=>413|25=>414|26=>415|27=>416|46=>417|47=>317|48=>318|49=>418|50=>419|57=>420|n=>n,λ|22=>51|24=>135|25=>466|3=>3|39=>324|0=>0|53=>365|55=>367|4=>4|46=>359|45=>358|50=>273|5=>5|9=>9|66=>400|70=>375|76=>426|77=>427|n=>n,λ|n=>n⟩
def Tryz.Tc:Go.Proofs.SlLaysF0.n6 Tryz.prog Tryz.NP:={
 mixed:=by kernel_rfl
 f6:=⟨Tryz.f406.name,am,Tryz.func406.trans ac⟩
 f14:=⟨Tryz.f408.name,am,Tryz.func408.trans ac⟩
 f15:=Tryz.func218.trans ac
 f20:=⟨Tryz.f409.name,am,Tryz.func409.trans ac⟩
 f21:=⟨Tryz.f410.name,am,Tryz.func410.trans ac⟩
 f22:=⟨Tryz.f411.name,am,Tryz.func411.trans ac⟩
 f23:=⟨Tryz.f412.name,am,Tryz.func412.trans ac⟩
 f24:=⟨Tryz.f413.name,am,Tryz.func413.trans ac⟩
 f25:=⟨Tryz.f414.name,am,Tryz.func414.trans ac⟩
 f26:=⟨Tryz.f415.name,am,Tryz.func415.trans ac⟩
 f27:=⟨Tryz.f416.name,am,Tryz.func416.trans ac⟩
 f28:=Tryz.func276.trans ac
 f29:=Tryz.func277.trans ac
 f46:=⟨Tryz.f417.name,am,Tryz.func417.trans ac⟩
 f47:=Tryz.func317.trans ac
 f48:=Tryz.func318.trans ac
 f49:=⟨Tryz.f418.name,am,Tryz.func418.trans ac⟩
 f50:=⟨Tryz.f419.name,am,Tryz.func419.trans ac⟩
 f57:=⟨Tryz.f420.name,am,Tryz.func420.trans ac⟩
 t0:=Tryz.underlying0
 a0:=Tryz.isAgg0
 z0:=Tryz.sizeOf0
 v0:=Tryz.zeroValue0
 t3:=Tryz.underlying3
 a3:=Tryz.isAgg3
 z3:=Tryz.sizeOf3
 v3:=Tryz.zeroValue3
 t4:=Tryz.underlying4
 a4:=Tryz.isAgg4
 z4:=Tryz.sizeOf4
 v4:=Tryz.zeroValue4
 t5:=Tryz.underlying5
 a5:=Tryz.isAgg5
 z5:=Tryz.sizeOf5
 v5:=Tryz.zeroValue5
 t9:=Tryz.underlying9
 a9:=Tryz.isAgg9
 z9:=Tryz.sizeOf9
 v9:=Tryz.zeroValue9
 t22:=Tryz.underlying51
 a22:=Tryz.isAgg51
 z22:=Tryz.sizeOf51
 v22:=Tryz.zeroValue51
 t25:=Tryz.underlying466
 a25:=Tryz.isAgg466
 z25:=Tryz.sizeOf466
 v25:=Tryz.zeroValue466
 t39:=Tryz.underlying324
 a39:=Tryz.isAgg324
 z39:=Tryz.sizeOf324
 v39:=Tryz.zeroValue324
 t45:=Tryz.underlying358
 a45:=Tryz.isAgg358
 z45:=Tryz.sizeOf358
 v45:=Tryz.zeroValue358
 t46:=Tryz.underlying359
 a46:=Tryz.isAgg359
 z46:=Tryz.sizeOf359
 v46:=Tryz.zeroValue359
 t50:=Tryz.underlying273
 a50:=Tryz.isAgg273
 z50:=Tryz.sizeOf273
 v50:=Tryz.zeroValue273
 t53:=Tryz.underlying365
 a53:=Tryz.isAgg365
 z53:=Tryz.sizeOf365
 v53:=Tryz.zeroValue365
 t55:=Tryz.underlying367
 a55:=Tryz.isAgg367
 z55:=Tryz.sizeOf367
 v55:=Tryz.zeroValue367
 t66:=Tryz.underlying400
 a66:=Tryz.isAgg400
 z66:=Tryz.sizeOf400
 v66:=Tryz.zeroValue400
 t70:=Tryz.underlying375
 a70:=Tryz.isAgg375
 z70:=Tryz.sizeOf375
 v70:=Tryz.zeroValue375
 t76:=Tryz.underlying426
 a76:=Tryz.isAgg426
 z76:=Tryz.sizeOf426
 v76:=Tryz.zeroValue426
 t77:=Tryz.underlying427
 a77:=Tryz.isAgg427
 z77:=Tryz.sizeOf427
 v77:=Tryz.zeroValue427}
def Tryz.KT:Go.Shelf.Ren:=⟨λ|5=>279|7=>321|n=>n,λ|23=>267|25=>3|3=>135|4=>4|20=>20|n=>n,λ|n=>n⟩
def Tryz.TY:Go.Proofs.SlLaysW.n5 Tryz.prog Tryz.KT:={
 mixed:=by kernel_rfl
 f5:=⟨Tryz.f279.name,am,Tryz.func279.trans ac⟩
 f7:=Tryz.func321.trans ac
 t4:=Tryz.underlying4
 a4:=Tryz.isAgg4
 z4:=Tryz.sizeOf4
 v4:=Tryz.zeroValue4
 t20:=Tryz.underlying20
 a20:=Tryz.isAgg20
 z20:=Tryz.sizeOf20
 v20:=Tryz.zeroValue20
 t23:=Tryz.underlying267
 a23:=Tryz.isAgg267
 z23:=Tryz.sizeOf267
 v23:=Tryz.zeroValue267}
end Go.Proofs
namespace Go.Proofs.YtjgjkeponbeekaaGreatDoor
open Go.au Go.Sort
def aV(n:aj)(P:ZH)(a b:Nat):gM XP 63 (aC n P a b)=true:=kR
def rk(n:aj)(P:ZH)(a b:Nat):RP (dv XP 63) (.agg (aC n P a b).toArray)=true:=kR
def G(n P:World):Prop:=∃a b,P=grow (n.drewN a) b
variable{N e r:Int}{d4:Int×Int}{h0:List ((Int×Int)×aj)}{J e0:List aj}{a c i p:Nat}{f:XN}{c8:Obj}{d u:ZH}{g:TypeId}{a5 b k:World}{y:XU}{O o:aj}{F:aw}
def G.then(d:G b k)(e:G k a5):G b a5:=by
 obtain⟨n,P,rfl⟩:=d;obtain⟨a,c,rfl⟩:=e;exact⟨n+a,P++c,by show grow (grow ((b.drewN n).drewN a) P) c=_;rw[grow_grow,World.drewN_drewN]⟩
def G.af{S:XN}(n:G b k):ak S b k:=by
 obtain⟨d,P,rfl⟩:=n;refine⟨rfl,rfl,rfl,by simp[grow],λa c _=>?_⟩;show(b.heap++P)[a]? =_;rw[Array.getElem?_append_left c]
def G.drew(n:bF b k):G b k:=by obtain⟨P,rfl⟩:=n;exact⟨P,#[],sM⟩
def PA.Vo(P:∀n,G b n->n.heap.size=b.heap.size+1->n.heap[b.heap.size]? =some c8->y n):PA b c8 y:=
 P (b.alloc c8) ⟨0,#[c8],by rw[alloc_eq_grow];rfl⟩ sM (heap_alloc_new b c8)
def isNaN:ZG 278 #[XH e] b (Ok λn P=>n= .bool false/\b=P):=yx (Ok.mk ⟨sM,rfl⟩)
def IB(n P:Int):Int:=if n<P then-1 else if P<n then 1 else 0
def gj:ZG 220 #[XH e,XH r] b (Ok λa c=>a= XH (IB e r)/\b=c):=by
 refine uj (PC.ok isNaN ?_);rintro _ _ ⟨rfl,rfl⟩;refine⟨_,rfl,PC.ok isNaN ?_⟩;rintro _ _ ⟨rfl,rfl⟩;refine⟨_,rfl,an.ff rfl (an.ff rfl (an.dec (λn=>Ok.mk ⟨by unfold IB;rw[Zx n],rfl⟩) (λn=>an.dec (λP=>Ok.mk ⟨by unfold IB;rw[Zq n,Zx P],rfl⟩) (λP=>Ok.mk ⟨by unfold IB;rw[Zq n,Zq P],rfl⟩))))⟩
def LY:List Int->Int
 |[]=>0
 |x::n=>if x≠0 then x else LY n
def On(q:b.heap[a]? =some (.cells #[XH e,XH r,XH N] g (0,0))):
  ZG 219 #[.slice (XM a) 3 3] b (Ok λh d=>h= XH (LY [e,r,N])/\b=d):=by
 refine EM ⟨λk c d=>∃n:Nat,c=n/\n<=3/\k=3-n/\LY [e,r,N]=LY ([e,r,N].drop n)/\b=d,⟨_,0,rfl,oM,rfl,rfl,rfl⟩,?_⟩;rintro k c _ _ ⟨n,rfl,w,rfl,i,rfl⟩;refine an.dec (λs=>?_) (λs=>?_)
 ·have t:∀f:Int,[e,r,N][n]? =some f->∃l m,(XM a:ZH)=some ⟨l,m,none⟩/\(0:Int)<=n/\(n:Int)<((3:Nat):Int)/\∃j:Int,b.cell? ⟨l,m+Int.toNat n,none⟩=some (XH j)/\an (j !=0) (Ok (λh d=>h= XH (LY [e,r,N])/\b=d) (.returned (XH j)) b) (∃o,o<3-n/\∃c:Nat,XG .i64 ((n:Int)+1)=c/\c<=3/\o=3-c/\LY [e,r,N]=LY ([e,r,N].drop c)/\b=b):=by
   intro f P;have p:[e,r,N].drop n=f::[e,r,N].drop (n+1):=by
    rw[X4 be];congr 1;simpa using(Qv.1 P).2
   refine⟨a,0,rfl,oM,oM,f,ae q ?_,an.dF (λu=>Ok.mk ⟨?_,rfl⟩) (λv=>⟨_,oM,n+1,aq oM,oM,rfl,?_,rfl⟩)⟩
   ·rw[Xz]
    match n,P with
    |0,P=>simp at P;simp[P]
    |1,P=>simp at P;simp[P]
    |2,P=>simp at P;simp[P]
    |n+3,P=>simp at P
   ·rw[i,p,LY,Zx u]
   ·rw[i,p,LY,Zq (by simpa using v)]
  have P:n<[e,r,N].length:=by simp;omega
  exact t [e,r,N][n] (by simp[P])
 ·obtain rfl:n=3:=oM
  exact Ok.mk ⟨by rw[i];rfl,rfl⟩
def GA(n P:aj):LY [IB n.ay P.ay,IB n.origin P.origin,IB n.seq P.seq]=rV n P:=by
 unfold rV dS IB LY LY LY LY
 by_cases d:n.ay<P.ay
 ·simp[d]
 by_cases g:P.ay<n.ay
 ·simp[d,g];omega
 have a:n.ay=P.ay:=oM
 by_cases e:n.origin<P.origin
 ·simp[a,e]
 by_cases h:P.origin<n.origin
 ·simp[a,e,h];omega
 have b:n.origin=P.origin:=oM
 by_cases c:n.seq<P.seq
 ·simp[a,b,c]
 by_cases f:P.seq<n.seq
 ·simp[a,b,c,f]
 ·simp[a,b,c,f]
def BE:ZG 155 #[.agg (aC o d a c).toArray,.agg (aC O u i p).toArray] b (Ok λh j=>h= XH (rV o O)/\G b j):=by
 refine vZ (PA.Vo λs k t l=>PA.Vo λv f w m=>λx q=>⟨λ_=>False,?_⟩);have n:=G.drew q;have P:=(n.af (S:=λ_=>False)).get ((f.af (S:=λ_=>False)).get l id) id;have e:=(n.af (S:=λ_=>False)).get m id;refine⟨_,ae P rfl,_,ae e rfl,id,_,ae P rfl,id,_,ae e rfl,id,_,ae P rfl,id,_,ae e rfl,PC.ok gj ?_⟩;rintro _ _ ⟨rfl,rfl⟩;refine⟨_,rfl,ak.refl _,PC.ok gj ?_⟩;rintro _ _ ⟨rfl,rfl⟩;refine⟨_,rfl,ak.refl _,PC.ok gj ?_⟩;rintro _ _ ⟨rfl,rfl⟩;refine⟨_,rfl,ak.refl _,PA.Vo λy g z r=>⟨g.af,PC.ok (On r) ?_⟩⟩;rintro _ _ ⟨rfl,rfl⟩;exact⟨_,rfl,ak.refl _,Ok.mk ⟨by rw[GA],((k.then f).then n).then g⟩⟩
structure QB where
 e:aj
 a:ZH
 n:Nat
 c:Nat
instance:Inhabited QB:=⟨⟨⟨0,0,0,[],0,0,0,0,0,0⟩,none,0,0⟩⟩
def encS(n:QB):List Value:=aC n.e n.a n.n n.c
def QC(P:QB):∀a∈encS P,a.oneCell'=true:=by
 intro b n;simp only[encS,aC,Q2,List.not_mem_nil,or_false]at n;rcases n with rfl|rfl|rfl|rfl|rfl|rfl|rfl|rfl|rfl|rfl<;>rfl
def yZ(n P:QB):ltOf (λn P:QB=>rV n.e P.e) n P=dS n.e P.e:=by
 unfold ltOf rV
 cases a:dS n.e P.e
 ·cases b:dS P.e n.e<;>simp[a,b]
 ·simp[a]
def iX:dS o O=true↔o.ay<O.ay\/o.ay=O.ay/\(o.origin<O.origin\/o.origin=O.origin/\o.seq<O.seq):=by simp[dS]
def tF:dS o O=false↔¬(o.ay<O.ay\/o.ay=O.ay/\(o.origin<O.origin\/o.origin=O.origin/\o.seq<O.seq)):=by rw[<-iX];simp
def Vp:SWO (ltOf λn P:QB=>rV n.e P.e) where
 irrefl n:=by rw[yZ,tF];omega
 trans n P z h1 h2:=by rw[yZ,iX]at*;omega
 ntrans n P z h1 h2:=by rw[yZ,tF]at*;omega
def IC{c:World}{D:XN}:∀{a:List aj} {cs:List Value},bD jo c D a cs->∃P:List QB,P.map (·.e)=a/\cs=P.flatMap encS/\∀n∈P,Row aJ 8 c D n.a n.n n.e.aP/\n.e.Ok
 |[],_,d=>⟨[],rfl,d,sM⟩
 |e::a,_,⟨r,s,f,⟨g,h,i,j,k,l⟩,m⟩=>by
  obtain⟨P,o,p,q⟩:=IC m;refine⟨⟨e,g,h,i⟩::P,by simp[o],by rw[f,j,p];rfl,?_⟩;intro n b;rcases Q2.1 b with rfl|b
  ·exact⟨k,l⟩
  ·exact q n b
def xJ{a:World}{D:XN}:∀{n:List QB},(∀x∈n,Row aJ 8 a D x.a x.n x.e.aP/\x.e.Ok)->bD jo a D (n.map (·.e)) (n.flatMap encS)
 |[],_=>rfl
 |x::n,P=>⟨encS x,n.flatMap encS,rfl,⟨x.a,x.n,x.c,rfl,(P x (QV ..)).1,(P x (QV ..)).2⟩,xJ λb c=>P b (QJ _ c)⟩
def qO{n:List QB}(P:a<n.length*10):(n.flatMap encS)[a]? =(encS n[a/10]!)[a % 10]? :=by
 induction n generalizing a with
 |nil=>simp at P
 |cons d n e=>
  have f:(encS d).length=10:=rfl;rw[List.flatMap_cons]
  by_cases b:a<10
  ·rw[XW oM,Nat.div_eq_of_lt b,Nat.mod_eq_of_lt b];rfl
  ·rw[X8 oM,f,e (by simp at P;omega)]
   obtain⟨c,rfl⟩:∃c,a=c+10:=⟨a-10,oM⟩
   rw[Nat.add_sub_cancel,Nat.add_div_right _ dC,Nat.add_mod_right];simp
def gB(n:List QB):(n.flatMap encS).length=n.length*10:=by
 induction n with
 |nil=>rfl
 |cons P n a=>rw[List.flatMap_cons,QX,a];have b:(encS P).length=10:=rfl;rw[b];simp;omega
def BF(n:List QB):(flatK encS 10 n.toArray).toList=n.flatMap encS:=by
 apply X3;intro P
 by_cases a:P<n.length*10
 ·rw[qO a]
  have d:P<(flatK encS 10 n.toArray).size:=by simpa using a
  have b:=get_flatK encS 10 n.toArray P (by simpa using a);rw[getElem!_pos _ P d]at b;have e:(encS n[P/10]!).length=10:=rfl;have c:P % 10<(encS n[P/10]!).length:=by rw[e];omega
  rw[Qq (by simpa using a),Qq c]
  congr 1
  rw[Array.getElem_toList,b];rw[getElem!_pos _ _ (by simpa using c)]
  congr 1
  simp
 ·rw[Q7 (by simpa using a),Q7 (by rw[gB];omega)]
def BD(n:List aj):Prop:=n.Pairwise λP a=>dS a P=false
def Iy(l:aO jo 63 f b d a c J)(t:J.length<=20000000):
  ZG 154 #[.slice d a c,.func (.func 155) #[] #[]] b (Ok λM u=>M= .tuple #[]/\∃A,A.Perm J/\BD A/\aO jo 63 f u d a c A/\ak (λm=>aF d=some m) b u):=by
 obtain⟨cs,D,B,Z,N⟩:=l.body;obtain⟨P,C,rfl,a4⟩:=IC Z;have E:=l.len dC;have v:P.length=a:=by rw[E,<-C];simp
 rcases B.cases with⟨rfl,rfl,rfl,h0⟩|⟨g,i,rfl,w,O,F,Q⟩
 ·have hd:P=[]:=QW v
  refine(AnyF.slices_SortFunc_none Tryz.Tb none 0 _ b).mono ?_;rintro p u ⟨rfl,rfl⟩;exact Ok.mk ⟨rfl,J,List.Perm.refl _,by rw[<-C,hd];exact List.Pairwise.nil,l,ak.refl _⟩
 ·have R:jo.k=10:=rfl
  rw[R]at Q F;have a5:flatK encS 10 P.toArray=(P.flatMap encS).toArray:=by rw[<-BF]
  have hH:HoldsK encS 10 b g 0 P.toArray:=by
   intro j q;rw[size_flatK]at q;simp only[List.size_toArray]at q;have S:j<(P.flatMap encS).length:=by rw[gB];exact q
   refine⟨?_,by simp[World.frozen?,w]⟩;have k:(flatK encS 10 P.toArray)[j]! =(P.flatMap encS)[j]:=by
    rw[a5,getElem!_pos _ j (by simpa using S)];simp
   rw[k,Xz];refine ae w ?_;have h:(i.toList.take (a*10))[j]? =some (P.flatMap encS)[j]:=by rw[Q];exact Qq S
   rw[Xw,Zx oM]at h;simpa using h
  have t:=B.row;have H:c<=maxLen:=by
   obtain⟨_,a0,_,T,_,_,_,H,_⟩:=B.row.2.resolve_left (by rintro⟨l,_⟩;cases l);simp only[XX]at T;rw[T.2.2];exact H
  have a6:P.toArray.size<4611686018427387904:=by
   simp only[List.size_toArray,v];omega
  have U:=AnyQ.slices_SortFunc Tryz.Tb 10 (λb=>cI _ _ _ kR ⟨_,Tryz.underlying63⟩ b) (λb=>Tryz.sizeOf63 b) encS (λ_=>rfl) QC (λx V=>rV x.e V.e) Vp 155 #[] g 0 c P.toArray b
   (enters_of Tryz.func155 kR rfl) (λb0 r dk b1 x V=>(BE).mono ?_) hH (ax w) a6
  ·rw[show P.toArray.size=a by simpa using v]at U
   refine U.mono ?_;rintro p u ⟨rfl,e,y,r,hp,hs,rfl⟩;obtain⟨p1,p2,W⟩:=hp;have n:e.size=a:=p1.trans (by simpa using v);have X:e.toList.Perm P:=by
    have k:e.extract 0 a=e:=by rw[<-n];exact Array.extract_size
    have h:P.toArray.extract 0 a=P.toArray:=by rw[show a=P.toArray.size by simpa using v.symm];exact Array.extract_size
    rw[k,h]at W;exact W
   have a1:flatK encS 10 e=(e.toList.flatMap encS).toArray:=by rw[<-BF]
   have I:(sortWorldK encS 10 b g 0 y e r).heap[g]? =some (.cells (putCells id 0 (flatK encS 10 e) i) 63 (0,0)):=by
    have a7:=ax w;show((Sort.ahead b y).heap.modify g _++r)[g]? =_;rw[Array.getElem?_append_left (by simpa[Sort.ahead]using a7),Array.getElem?_modify,Zx rfl];show Option.map _ b.heap[g]? =_;rw[w];rfl
   have z:ak (λm=>aF (XM g)=some m) b (sortWorldK encS 10 b g 0 y e r):=by
    refine⟨rfl,rfl,rfl,?_,λa2 z E=>?_⟩
    ·show b.heap.size<=((Sort.ahead b y).heap.modify g _++r).size
     simp[Sort.ahead]
    ·show((Sort.ahead b y).heap.modify g _++r)[a2]? =_
     rw[Array.getElem?_append_left (by simpa[Sort.ahead]using z),Array.getElem?_modify,Zq (λp=>E (by rw[p];rfl))]
     rfl
   have a3:(putCells id 0 (flatK encS 10 e) i).size=c*10:=by unfold putCells;rw[Array.size_mapIdx];exact F
   refine Ok.mk ⟨rfl,e.toList.map (·.e),by rw[<-C];exact X.map _,?_,⟨⟨e.toList.flatMap encS,D,⟨⟨?_,.inr ⟨g,c,_,rfl,Qj _,I,O,H,a3,?_⟩⟩⟩,xJ λx hx=>?_,N⟩,l.self,λm t=>Qk (l.aB m t) z.size⟩,z⟩
   ·unfold BD
    rw[List.pairwise_map,List.pairwise_iff_getElem];intro Y j hi q a8;have k:=hs Y j (Qj _) a8 (by simpa[n]using q);rw[yZ,getElem!_pos _ j (by simpa using q),getElem!_pos _ Y (by simpa using hi)]at k;simpa using k
   ·rw[gB,XK,n];rfl
   ·apply X3
    intro s;rw[R,Xw];split
    ·rename_i o
     rw[qO (by rw[XK,n];exact o),<-qO (by rw[XK,n];exact o)];unfold putCells;have a9:s<i.size:=by rw[F];exact Qk o (Q0 _ O)
     rw[Array.getElem?_toList,Array.getElem?_mapIdx,X6 a9];simp only[Option.map_some];have K:s<(flatK encS 10 e).size:=by rw[size_flatK,n];exact o
     rw[Zx ⟨Qj _,by rw[Xz];exact K⟩,Nat.sub_zero,getElem!_pos _ s K];have:(flatK encS 10 e)[s]=(e.toList.flatMap encS)[s]'(by rw[gB,XK,n];exact o):=by
      have h:=Zj (·[s]?) a1;simp only[List.getElem?_toArray]at h;rw[X6 K,Qq (by rw[gB,XK,n];exact o)]at h;exact XJ h
     rw[this];exact(Qq _).symm
    ·rename_i o
     rw[Q7 (by rw[gB,XK,n];omega)]
   ·have L:x∈P:=X.mem_iff.1 hx
    obtain⟨k,h⟩:=a4 x L;exact⟨k.af z λm t p=>(N m t).2 p,h⟩
  ·rintro p u ⟨M,rfl,rfl,hG⟩
   exact⟨rfl,hG⟩
open Go.au
abbrev Ti(n:List aj):Prop:=n.Pairwise λP a=>dS P a=true
structure aw.OK (S:aw):Prop where
 n:S.n<=64
 Oo:Ti S.l
 ids:(S.l.map aW).Nodup
 VK:∀e∈S.l,cK e S.n=0
 ok:∀e∈S.l,e.Ok
def Em(P:aW o≠aW O):dS o O=true\/dS O o=true:=by
 rw[iX,iX];have:¬(o.origin=O.origin/\o.seq=O.seq):=λn=>P (by unfold aW;rw[n.1,n.2]);omega
def sI{n P a:aj}(b:dS n P=true)(c:dS P a=true):dS n a=true:=by rw[iX]at*;omega
def mI(n:dS o O=true):dS O o=false:=by rw[iX]at n;rw[tF];omega
def cU(P:aj):∀n,(c_ P n).Perm (P::n)
 |[]=>List.Perm.refl _
 |x::n=>by
  unfold c_;split
  ·exact List.Perm.refl _
  ·exact(List.Perm.cons x (cU P n)).trans (List.Perm.swap P x n)
def vE{c:aj}:∀{P},Ti P->(∀x∈P,aW x≠aW c)->Ti (c_ c P)
 |[],_,_=>by unfold c_;exact List.pairwise_singleton ..
 |x::P,d,e=>by
  obtain⟨f,g⟩:=List.pairwise_cons.1 d;unfold c_;split
  ·rename_i b
   exact List.pairwise_cons.2 ⟨λa n=>by
    rcases Q2.1 n with rfl|n
    ·exact b
    ·exact sI b (f a n),d⟩
  ·rename_i b
   refine List.pairwise_cons.2 ⟨λa n=>?_,vE g λa n=>e a (QJ _ n)⟩;rcases Q2.1 ((cU c P).mem_iff.1 n)with rfl|n
   ·exact(Em (e x (QV ..))).resolve_right (by simpa using b)
   ·exact f a n
def KS(f:BD J)(g:Ti e0)(b:J.Perm e0)(i:(J.map aW).Nodup):J=e0:=by
 refine b.eq_of_pairwise (le:=λP n=>dS n P=false) (λP n j k c d=>?_) f (g.imp λh=>mI h)
 by_cases e:aW P=aW n
 ·have a:n∈J:=b.mem_iff.2 k
  obtain⟨o,l,rfl⟩:=List.getElem_of_mem j;obtain⟨p,m,rfl⟩:=List.getElem_of_mem a;have:=(List.getElem_inj (xs:=J.map aW) (h₀:=by simpa using l) (h₁:=by simpa using m) i).1 (by simpa using e);subst this;rfl
 ·rcases Em e with h|h
  ·rw[h]at d;cases d
  ·rw[h]at c;cases c
def Sq(P:(J.map aW).Nodup)(n:o∈J):J.find? (λa=>aW a==aW o)=some o:=by
 induction J with
 |nil=>cases n
 |cons a J b=>
  simp only[QY,List.nodup_cons]at P;rcases Q2.1 n with rfl|n
  ·simp
  ·have c:aW a≠aW o:=λd=>P.1 (d▸Xk.2 ⟨o,n,rfl⟩)
   rw[List.find?_cons_of_neg (by simpa using c)];exact b P.2 n
def aw.get_some(n:F.get d4=some o):o∈F.l/\aW o=d4:=
 ⟨List.mem_of_find?_eq_some n,by simpa using List.find?_some n⟩
def aw.get_none(P:F.get d4=none):∀n∈F.l,aW n≠d4:=λn a=>by
 have:=List.find?_eq_none.1 P n a;simpa using this
def aw.OK.get(n:F.OK)(P:o∈F.l):F.get (aW o)=some o:=Sq n.ids P
def Ix(g:F.OK)(c:∀n∈h0,n.1=aW n.2)(d:(h0.map (·.2)).Perm F.l)(k:Tidy h0)(P:Int×Int):aE h0 P=F.get P:=by
 cases a:aE h0 P with
 |none=>
  rw[jT]at a
  symm
  refine List.find?_eq_none.2 λb h=>?_;obtain⟨n,e,rfl⟩:=Xk.1 (d.mem_iff.2 h);intro i;exact a (Xk.2 ⟨n,e,by rw[c n e];simpa using i⟩)
 |some b=>
  have f:=bT a;have j:P=aW b:=c _ f;have:b∈F.l:=d.mem_iff.1 (Xk.2 ⟨_,f,rfl⟩);rw[j,g.get this]
def wV(P:List aj)(n:Int):P.foldl (λn a=>max n a.ay) n=max n (P.foldl (λn a=>max n a.ay) 0)\/n<0:=by
 induction P generalizing n with
 |nil=>simp;omega
 |cons b P c=>
  rw[List.foldl_cons,List.foldl_cons]
  by_cases e:n<0
  ·exact .inr e
  ·rcases c (max n b.ay)with h|h
   ·rcases c (max 0 b.ay)with d|d
    ·left;rw[h,d];omega
    ·omega
   ·omega
def aw.Sm(n:aw)(P:aj):aw.top ⟨n.n,c_ P n.l⟩=max n.top P.ay:=by
 show(c_ P n.l).foldl _ _=_;rw[(cU P n.l).foldl_eq' (λa _ b _ c=>oM),List.foldl_cons];rcases wV n.l (max 0 P.ay)with h|h
 ·rw[h]
  show max (max 0 P.ay) n.top=_;have:0<=n.top:=by
   rcases wV n.l 0 with h|h
   ·unfold aw.top;omega
   ·omega
  omega
 ·omega
def aw.KE(n:aw):0<=n.top:=by
 rcases wV n.l 0 with h|h
 ·unfold aw.top;omega
 ·omega
def qR(n:cK o a=0):0<=o.origin/\o.origin<a/\1<=o.seq/\1<=o.ay/\0<=o.agg/\0<=o.key/\o.aP.length=a/\(∀P∈o.aP,0<=P)/\o.aP.getD o.origin.toNat 0=oK (o.seq-1)/\1<=o.op/\o.op<=5/\0<=o.aS/\o.aS<8/\0<=o.field/\o.field<8:=by
 unfold cK at n;split at n
 ·simp at n
 ·rename_i b
  split at n
  ·simp at n
  ·rename_i c
   split at n
   ·simp at n
   ·rename_i g
    split at n
    ·simp at n
    ·rename_i h
     simp only[not_or,List.any_eq_true,Zk,not_exists,not_and]at b;obtain⟨i,j,k,P,l,d⟩:=b;refine⟨oM,oM,oM,oM,oM,oM,oM,λe f=>by have:=d e f;omega,by simpa using c,oM,oM,oM,oM,oM,oM⟩
def aw.Et(n:aw)(P:aj)(a:Nat):aw.Es ⟨n.n,c_ P n.l⟩ a=n.Es a+if P.origin=(a:Int)then 1 else 0:=by
 unfold aw.Es;show(c_ P n.l).countP _=_;rw[(cU P n.l).countP_eq,List.countP_cons]
 congr 1
 simp
def aw.Qe(n:aw)(P:Nat):n.Es P<=n.l.length:=List.countP_le_length
def aw.bM(n:aw):n.vec.length=n.n:=by simp[aw.vec]
def aw.oz(n:aw)(P:a<n.n):n.vec[a]? =some (n.Es a:Int):=by simp[aw.vec,P]
def aw.tP(S:aw)(n:a<S.n):S.vec.getD a 0=(S.Es a:Int):=by rw[QQ,S.oz n];rfl
def aw.Sn(n:aw)(b:aj)(e:b.origin=(a:Int)):aw.vec ⟨n.n,c_ b n.l⟩=n.vec.set a (n.Es a+1:Int):=by
 apply X3;intro c
 by_cases P:c<n.n
 ·rw[aw.oz ⟨n.n,c_ b n.l⟩ P,aw.Et,Xj,n.oz P,n.bM]
  by_cases d:a=c
  ·subst d;simp[e,P]
  ·rw[Zq d,Zq oM];simp
 ·rw[Q7 (by rw[aw.bM];exact Nat.le_of_not_lt P),Q7 (by rw[List.length_set,n.bM];omega)]
def aw.add_def(n:aw)(P:aj):n.add P=if cK P n.n≠0 then(cK P n.n,n)else if(n.get (aW P)).isSome then(16,n)else
 if P.seq≠(n.vec.getD P.origin.toNat 0)+1 then(9,n)else if(List.range n.n).any λa=>!n.lI P a then(9,n)else(0,⟨n.n,c_ P n.l⟩):=rfl
def aw.zo(n:F.OK)(f:o.Ok):(F.add o).2.OK/\(F.add o).2.n=F.n:=by
 rw[aw.add_def]
 by_cases b:cK o F.n=0
 rotate_left
 ·rw[Zx b];exact⟨n,rfl⟩
 rw[Zq (by simpa using b)]
 by_cases c:(F.get (aW o)).isSome=true
 ·rw[Zx c];exact⟨n,rfl⟩
 rw[Zq c];split
 ·exact⟨n,rfl⟩
 split
 ·exact⟨n,rfl⟩
 have e:F.get (aW o)=none:=by simpa using c
 have d:=cU o F.l;refine⟨⟨n.n,vE n.Oo (aw.get_none e),?_,?_,?_⟩,rfl⟩
 ·refine(d.map aW).nodup_iff.2 ?_
  rw[QY,List.nodup_cons];exact⟨λg=>by obtain⟨a,P,h⟩:=Xk.1 g;exact aw.get_none e a P h,n.ids⟩
 ·intro a P
  rcases Q2.1 (d.mem_iff.1 P)with rfl|P
  ·exact b
  ·exact n.VK a P
 ·intro a P
  rcases Q2.1 (d.mem_iff.1 P)with rfl|P
  ·exact f
  ·exact n.ok a P
def aw.sE(n:a<=64):aw.OK ⟨a,[]⟩:=⟨n,List.Pairwise.nil,sM,sM,sM⟩
end Go.Proofs.YtjgjkeponbeekaaGreatDoor
namespace Go.au
open Go
def wP(n:List Int):List UInt8:=bJ ((n.length:Int)::n)
def uZ(n:List Int):List UInt8:=fU 2 (wP n)
def ow(n:List UInt8):List Int×lY:=bf (bW 64 ⟨n,0,0⟩).1.toNat (bW 64 ⟨n,0,0⟩).2
def jw(n:List UInt8):Option (List Int):=
 if(bj n).no≠0\/(bj n).n≠n.length\/(bj n).kind≠2 then none else if kq (ow (bj n).body).2≠0 then none else some (ow (bj n).body).1
def DG(n:List UInt8):(∀P∈(ow n).1,aH P)/\(ow n).1.length<=64/\(ow n).2.Fit:=by
 obtain⟨a,e,f,g⟩:=lY.Fit.count (r:=⟨n,0,0⟩) ⟨Qj _,.inl rfl⟩ (m:=64) oM;obtain⟨b,c,d,h⟩:=a.ints (bW 64 ⟨n,0,0⟩).1.toNat;exact⟨c,by show(bf _ _).1.length<=64;rw[d];omega,b⟩
variable{t:List Int}{x:List UInt8}
def Np(n:jw x=some t):(∀P∈t,aH P)/\t.length<=64:=by
 unfold jw at n;split at n
 ·cases n
 split at n
 ·cases n
 ·cases n
  exact⟨(DG _).1,(DG _).2.1⟩
def DF(a:∀n∈t,aH n)(b:t.length<=64):(wP t).length<=585:=by
 have:=fm (l:=(t.length:Int)::t) (by
  intro n P;rcases Q2.1 P with rfl|P
  ·unfold aH;omega
  ·exact a n P)
 unfold wP;rw[Xq]at this;omega
def Bj(n:List Int):(uZ n).length=(wP n).length+9:=kJ _ _
end Go.au
namespace Go.Proofs.YtjgjkeponbeekaaGreatDoor
open Go.au
def Tx(P:Int)(n:cG):Int:=n.synced+max 0 (min P ((n.bytes.length:Int)-n.synced))
def ES(P:Int)(n:cG):cG:=n.cut (Tx P n)
def al.AI(D:al)(P:Int):al:={D with files:=(D.files.filter λn=>n.2.lX).map (λn=>(n.1,ES P n.2)),qf:=false,dead:=false}
def al.Hw(D:al)(n:List (ByteArray×cG)):al:=⟨D.most,n,D.qf,D.left,D.dead⟩
def al.gu(D:al):al:={D with files:=D.files.filter λn=>n.2.lX}
def Cp(n:List (ByteArray×cG))(P:ByteArray×cG->Bool):dZ (n.filter P)<=dZ n:=by
 unfold dZ
 induction n with
 |nil=>simp
 |cons a n b=>
  rw[List.filter_cons];split
  ·simp;omega
  ·simp;omega
variable{w:ByteArray}{e:Int}{f6:List ByteArray}{b0 t:List Int}{J e0:List aj}{a c i p:Nat}{Y f:XN}{d u:ZH}{j:Type}{b:World}{O o:aj}
def xq{n:List (ByteArray×j)}(P:Tidy n)(a:ByteArray×j->Bool):Tidy (n.filter a):=List.Nodup.sublist (List.Sublist.map _ List.filter_sublist) P
def al.Ok.gu{D:al}(n:D.Ok):D.gu.Ok:=by
 have c:=Cp D.files λP=>P.2.lX;have b:=n.fits;have d:=List.length_filter_le (λP:ByteArray×cG=>P.2.lX) D.files;have e:=n.many;unfold al.used at b;exact⟨n.most,by show dZ (D.files.filter _)<=D.most;omega,by show(D.files.filter _).length<=64;omega,xq n.tidy _,λP a=>n.names P (List.mem_filter.1 a).1,λP a=>n.QS P (List.mem_filter.1 a).1,n.AD,n.AE⟩
def Ph{P:List (ByteArray×j)}(b:Tidy P){k e:ByteArray×j->j}{u l:j}(f:(w,u)∈P)(g:∀a∈P,a.1≠w->e a=k a)(p:e (w,u)=l):
  aI (P.map λn=>(n.1,k n)) w l=P.map λn=>(n.1,e n):=by
 induction P with
 |nil=>cases f
 |cons q P m=>
  obtain⟨n,a⟩:=q;unfold Tidy at b m;simp only[QY,List.nodup_cons]at b;simp only[QY];unfold aI
  by_cases h:(w==n)=true
  ·have r:w=n:=eq_of_beq h
   subst r;have s:a=u:=by
    rcases Q2.1 f with h|h
    ·cases h;rfl
    ·exact Zz (Xk.2 ⟨_,h,rfl⟩) b.1
   subst s;rw[Zx h,p]
   congr 1
   refine List.map_congr_left λc d=>?_;rw[g c (QJ _ d) λi=>b.1 (Xk.2 ⟨c,d,i⟩)]
  ·have o:n≠w:=λi=>h (by rw[i];simp)
   rw[Zq h,g (n,a) (QV ..) o]
   congr 1
   refine m b.2 ?_ λc d=>g c (QJ _ d);rcases Q2.1 f with H|H
   ·cases H;exact Zz rfl o
   ·exact H
def rR(P:Int)(left:List (ByteArray×mZ))(n:ByteArray×cG):cG:=if left.any (λa=>a.1==n.1)then n.2 else ES P n.2
def J_{D:al}(h:aN b a f D)(e5:aH e):
  ZG 83 #[XL a,XH e] b (Ok λS t=>∃q,S= .tuple #[]/\aN t a q (D.AI e)/\bL f b q t):=by
 obtain⟨u,x,j⟩:=h.open;have e6:x.filter (λn=>n.2.f.lX)=x.filter (λn=>n.2.f.lX):=rfl;refine sX ⟨a,0,rfl,some u,ae j.head rfl,PC.ok (yE j.map j.each λn k P i=>(j.Hr n k P i).2.2) ?_⟩;rintro _ v ⟨rfl,c1,B⟩;have c2:∀P,P=u->f P:=λP m=>m▸j.Fr;have r:eL v a f D.gu u (x.filter λn=>n.2.f.lX):=by
  have C:∀n∈x.filter (λn=>n.2.f.lX),n∈x:=λn k=>(List.mem_filter.1 k).1;refine⟨B.get j.head (λm=>j.pr m),c1,?_,⟨λn k=>(j.each.each n (C n k)).af B λP i=>(j.Hr n (C n k) P i).2.2,λn k c o=>j.each.apart n (C n k) c (C c o),xq j.each.tidy _⟩,λn k=>j.Hr n (C n k),j.Fr,j.pr,j.self,λP i=>Qk (j.aB P i) B.size,j.ok.gu⟩;show D.files.filter _=_;rw[j.files,List.filter_map]
  rfl
 generalize e7:x.filter (λn=>n.2.f.lX)=p at r;have c3:∀n∈p,∀P,n.2.G P->P<v.heap.size:=λn k P i=>(r.each.each n k).aB P i;refine⟨rfl,a,0,rfl,some u,ae r.head rfl,mapRange mF r.map λw2 hR T s2=>?_⟩;have c4:Tidy D.gu.files:=r.ok.tidy;have c5:∀c∈p,uz c∈D.gu.files:=λc o=>by rw[r.files];exact Xk.2 ⟨c,o,rfl⟩
 have a5:bL f b f w2:=⟨((B.mono λP _ i=>c2 P i)).ah T,λ_ h=>.inl h⟩
 refine⟨λU t=>∃(left s:List (ByteArray×mZ)) (q:XN),cB t v.heap.size u Value.string (p.map dH) (left.map dH)/\U=left.length/\eL t a q (D.gu.Hw (D.gu.files.map λg=>(g.1,rR e left g))) u s/\s.map dH=p.map dH/\
   bL f b q t/\(∀n∈left,n∈p/\aE s n.1=some n.2)/\Tidy left/\v.heap.size<t.heap.size/\¬q v.heap.size,
  ⟨_,p,p,f,hR,rfl,?_,rfl,a5,λn k=>⟨k,qh r.each.tidy k⟩,r.each.tidy,oM,λi=>by have:=r.aB _ i;omega⟩,?_⟩
 ·have m:(D.gu.files.map λn=>(n.1,rR e p n))=D.gu.files:=by
   have:∀n∈D.gu.files,(n.1,rR e p n)=n:=λn k=>by
    rw[r.files]at k;obtain⟨c,o,rfl⟩:=Xk.1 k;have:p.any (λg=>g.1==(uz c).1)=true:=List.any_eq_true.2 ⟨c,o,by simp[uz]⟩;unfold rR;rw[Zx this]
   have I:=List.map_congr_left (f:=λn=>(n.1,rR e p n)) (g:=id) this;rw[I,List.map_id]
  rw[m];exact r.ah T
 ·rintro U a1 w3 ⟨left,s,q,c6,rfl,V,a7,J,W,y,e2,X⟩
  refine m_ c6 (λK=>.inl ⟨rfl,?_⟩) λd S l1 l2 Y c7 c8 c9 Z s4=>.inr ⟨_,_,rfl,qj c9 ?_⟩
  ·have d0:left=[]:=by simpa using K
   subst d0;refine⟨a,0,rfl,V.at.Hq λw5 h5 k5 s5=>⟨a,0,rfl,h5.yS λw6 h6 k6 s6=>Ok.mk ⟨q,rfl,?_,J.trans ⟨k5.then k6,λ_ h=>.inl h⟩⟩⟩⟩;have m:(D.gu.files.map λn=>(n.1,rR e [] n))=(D.files.filter λn=>n.2.lX).map (λn=>(n.1,ES e n.2)):=List.map_congr_left λn _=>by simp[rR]
   rw[m]at h6;exact h6
  ·obtain⟨l,n,P,rfl,rfl,rfl,rfl⟩:=wF c7
   obtain⟨a8,E⟩:=W (d,n) sM;have E:aE s d=some n:=E;have a9:∀P,P=v.heap.size->¬q P:=λP m=>m▸X;have w:=V.af Z λP i m=>a9 P m i;have L:=w.get E;have M:=bT E;have d1:dJ Y n.q n.G n.f:=w.each.each _ M;have d2:∀P,n.G P->P<v.heap.size:=c3 _ a8;have b0:∀P,n.G P->q P/\P≠a/\P≠u:=w.Hr _ M;have b1:n.f.bytes.length<=262144:=w.ok.len (bT L);have e3:n.f.synced<=n.f.bytes.length:=w.ok.QS _ (bT L);have e8:n.f=(uz (d,n)).2:=rfl;refine⟨_,_,rfl,λw5 z=>?_⟩;have b2:=d1.af (z.af (S:=λ_=>False)) λ_ _ h=>h;have b3:=w.ah z.af;obtain⟨fa,A,fc,F0,F,I,h3,h4⟩:=b2.body;have b4:A=n.f.bytes.length:=I.len dC;have H:(if(if(XG .i64 (((A:Nat):Int)-(n.f.synced:Int)))<e then(XG .i64 (((A:Nat):Int)-(n.f.synced:Int)))else e)>0 then(if(XG .i64 (((A:Nat):Int)-(n.f.synced:Int)))<e then(XG .i64 (((A:Nat):Int)-(n.f.synced:Int)))else e)else 0)=max 0 (min e ((n.f.bytes.length:Int)-n.f.synced)):=by
    rw[wrap_i64 bc,b4];omega
   refine⟨n.q,0,rfl,_,ae F rfl,n.q,0,rfl,fa,A,fc,ae F rfl,n.q,0,rfl,_,ae F rfl,?_⟩;refine PC.ok (by rw[H,wrap_i64 (by unfold aH at*;omega)];exact AH b2 b1) ?_;rintro _ w6 ⟨N,rfl,O,Q⟩
   replace O:dJ w6 n.q N (ES e n.f):=O
   have d3:((D.gu.Hw (D.gu.files.map λg=>(g.1,rR e (l++(d,n)::P) g))).gD d (ES e n.f)).Ok:=b3.ok.cut L _;obtain⟨F6,b5,a0⟩:=b3.eg E O Q d3;have d4:=c8.af (z.af (S:=λ_=>False)) id id;have d5:=d4.af Q.af (λi=>by have:=d2 _ i;omega) (λi=>(b0 _ i).2.2 rfl);have b6:d∉(l++P).map (·.1):=by
    unfold Tidy at y;rw[Q3,QY]at y;rw[Q3];intro b7;have hp:=(List.perm_middle (a:=d) (l₁:=l.map (·.1)) (l₂:=P.map (·.1))).nodup_iff.1 y;exact(List.nodup_cons.1 hp).1 b7
   have b8:Tidy (l++P):=by
    unfold Tidy at y⊢;rw[Q3,QY]at y;rw[Q3];exact(List.nodup_cons.1 ((List.perm_middle (a:=d) (l₁:=l.map (·.1)) (l₂:=P.map (·.1))).nodup_iff.1 y)).2
   have b9:(l++P).any (λc=>c.1==d)=false:=by
    rw[List.any_eq_false];intro c o K;exact b6 (Xk.2 ⟨c,o,eq_of_beq K⟩)
   have e_:aI (D.gu.files.map λg=>(g.1,rR e (l++(d,n)::P) g)) d (ES e n.f)=D.gu.files.map λg=>(g.1,rR e (l++P) g):=by
    refine Ph (u:=n.f) c4 (c5 _ a8) (λc o R=>?_) ?_
    ·have d6:(d==c.1)=false:=beq_false_of_ne (Ne.symm R)
     have m:(l++(d,n)::P).any (λg=>g.1==c.1)=(l++P).any (λg=>g.1==c.1):=by
      rw[List.any_append,List.any_cons,List.any_append,d6,Bool.false_or]
     show rR e (l++P) c=rR e (l++(d,n)::P) c;unfold rR;rw[m]
    ·unfold rR
     rw[Zq (by show¬((l++P).any (λc=>c.1==d)=true);rw[b9];simp)]
   have d7:(D.gu.Hw (D.gu.files.map λg=>(g.1,rR e (l++(d,n)::P) g))).gD d (ES e n.f)=D.gu.Hw (D.gu.files.map λg=>(g.1,rR e (l++P) g)):=by
    unfold al.gD al.Hw;simp only[e_]
   rw[d7]at b5;have a4:(aI s d (⟨n.q,N,ES e n.f⟩:mZ)).map dH=p.map dH:=by
    have F:(aI s d (⟨n.q,N,ES e n.f⟩:mZ)).map dH=aI (s.map dH) d (ptr n.q):=qg (λn:mZ=>ptr n.q) s d _;rw[F,qi (k:=d) (v:=ptr n.q) (l:=s.map dH) (Xk.2 ⟨(d,n),M,rfl⟩) w.map.tidy,a7]
   refine⟨rfl,_,?_,l++P,_,F6,by rw[Q3];exact d5,rfl,b5,a4,?_,λc o=>?_,b8,?_,?_⟩
   ·simp
   ·have e4:=B.size
    have d8:bL f b q Y:=⟨J.af.new Z λP i=>.inr oM,J.new⟩
    exact(d8.trans ⟨z.af,λ_ h=>.inl h⟩).trans a0
   ·have d9:c∈l++(d,n)::P:=by simp only[Q6,Q2]at o⊢;exact o.imp id .inr
    obtain⟨e0,e1⟩:=W c d9;have R:c.1≠d:=λm=>b6 (Xk.2 ⟨c,o,m⟩);refine⟨e0,?_⟩;rw[qV,Zq (by simpa using R)];exact e1
   ·have:=Q.af.size;have:=(z.af (S:=λ_=>False)).size;omega
   ·intro i
    rcases a0.new _ i with h|h
    ·exact X h
    ·have:=(z.af (S:=λ_=>False)).size;omega
def lv:ByteArray:=⟨#[109,97,110,105,102,101,115,116,46,116,109,112]⟩
def uY:ByteArray:=⟨#[109,97,110,105,102,101,115,116]⟩
def ou(D:al):Int×al:=if(aE D.files lv).isSome then D.delete lv else(0,D)
def su(n:List Int):Nat->al->Int×al
 |0,D=>ou D
 |1,D=>D.create lv
 |2,D=>D.append lv (uZ n)
 |3,D=>D.sync lv
 |_,D=>D.rename lv uY
def wO(n:List Int):Nat->Nat->al->Int×al
 |_,0,D=>(0,D)
 |P,a+1,D=>if(su n P D).1≠0 then((su n P D).1,(ou (su n P D).2).2)else wO n (P+1) a (su n P D).2
def bZ(D:al)(n:List Int):Int×al:=if 64<n.length then(3,D)else wO n 0 5 D
def eU(D:al):Option (List Int):=if(D.read uY).2≠0 then none else jw (D.read uY).1
def HL(n:List ByteArray):(uy n).Perm n:=List.mergeSort_perm _ _
def Nn{D:al}:w∈D.list↔(aE D.files w).isSome=true:=by
 unfold al.list;rw[(HL _).mem_iff];constructor
 ·intro n
  cases P:aE D.files w with
  |none=>exact Zz n (jT.1 P)
  |some a=>rfl
 ·intro n
  obtain⟨a,b⟩:=Option.isSome_iff_exists.1 n;exact Xk.2 ⟨_,bT b,rfl⟩
def nJ(D:al):D.list.length=D.files.length:=by unfold al.list uy;simp
def No(n:List Int)(c:a<5)(D:al):wO n a (5-a) D=if(su n a D).1≠0 then((su n a D).1,(ou (su n a D).2).2)else wO n (a+1) (5-(a+1)) (su n a D).2:=by
 obtain⟨P,b⟩:∃P,5-a=P+1:=⟨4-a,oM⟩
 rw[b,show 5-(a+1)=P by omega]
 rfl
def FG{D:XN}(P:Row MM 16 b D d a f6):
  ZG 292 #[.slice d a c,.string w] b (Ok λo e=>(∃k:Int,o= XH k/\(0<=k↔w∈f6))/\b=e):=by
 have u:=P.len;have p:=P.dP;unfold aK at p;refine jy ⟨λl i e=>∃n:Nat,i=n/\n<=a/\l=a-n/\w∉f6.take n/\b=e,⟨_,0,rfl,Qj _,rfl,sM,rfl⟩,?_⟩;rintro l i _ _ ⟨n,rfl,v,rfl,f,rfl⟩;refine an.dec (λq=>?_) (λq=>?_)
 ·obtain⟨r,g,x,rfl,m,_,s⟩:=P.mr (i:=n) oM
  refine⟨r,g,rfl,oM,oM,_,s,an.Wi (λj=>?_) (λj=>?_)⟩
  ·exact Ok.mk ⟨⟨_,rfl,λ_=>j▸QZ m,λ_=>oM⟩,rfl⟩
  ·refine⟨_,oM,n+1,aq oM,oM,rfl,?_,rfl⟩
   rw[Qw,m];intro t;rcases Q6.1 t with h|h
   ·exact f h
   ·simp at h;exact j h
 ·rw[Qz oM]at f
  exact Ok.mk ⟨⟨_,rfl,λh=>oM,λh=>Zz h f⟩,rfl⟩
def yI{D:XN}(n:Row MM 16 b D d a f6):
  ZG 237 #[.slice d a c,.string w] b (Ok λP e=>P= .bool (decide (w∈f6))/\b=e):=by
 refine iu (PC.ok (FG n) ?_);rintro _ _ ⟨⟨g,rfl,f⟩,rfl⟩;exact⟨_,rfl,Ok.mk ⟨by rw[decide_eq_decide.2 f],rfl⟩⟩
def qD{D:al}(n:aN b a f D):ZG 174 #[XL a] b (Ok (uA b a f (ou D))):=by
 refine wi (PC.ok (wH n) ?_);rintro _ l ⟨m,o,p,G,rfl,g,P,q⟩;have r:D.list.length<=64:=by rw[nJ];exact n.ok.many
 refine⟨_,_,_,rfl,PC.ok (yI (g.row dC ba)) ?_⟩;rintro _ _ ⟨rfl,rfl⟩;have e:(lv∈D.list)↔(aE D.files lv).isSome=true:=Nn;refine⟨_,rfl,an.dec (λc=>PC.ok (xm (n.ah P)) λh i j=>lz h i P ?_) (λc=>?_)⟩
 ·have d:ou D=D.delete lv:=by unfold ou;rw[Zx (e.1 c)]
  rw[d];exact j
 ·have d:ou D=(0,D):=by unfold ou;rw[Zq λk=>c (e.2 k)]
  rw[d];exact Ok.mk (uA.same (n.ah P) P.af)
def Bh(C:pL b)(u:Row aJ 8 b f d a t)(v:∀h∈t,aH h)(hD:∀P,f P->P<b.heap.size)(E:t.length<=64):
  ZG 179 #[.agg #[.slice d a c]] b (Ok (px fx 5 b (uZ t))):=by
 have F:=u.len;refine wj (PA.mk λH I s1 w=>⟨_,_,_,ae w rfl,PC.ok (AJ (m:=(a:Int)) bc (Row.nil H λ_=>False) ba λ_ J=>J.elim) ?_⟩);rintro _ L ⟨a2,n2,c2,M,rfl,x,y,N⟩;have O:ai b L:=I.then y;have Q:nZ (a:Int)=bJ ((a:Int)::t.take 0):=by simp[bJ]
 rw[List.nil_append,Q]at x;refine⟨_,_,_,rfl,_,_,_,ae (y.get w id) rfl,λz l m o i A=>∃n:Nat,i=n/\n<=a/\z=a-n/\∃B,aO fx 5 B A l m o (bJ ((a:Int)::t.take n))/\ai b A/\∀P,B P->b.heap.size<=P,
  ⟨_,0,rfl,Qj _,rfl,M,x,O,λP j=>by have:=N P j;omega⟩,?_⟩
 rintro z l m o i _ R ⟨n,rfl,hj,rfl,S,e,g,a0⟩;have a1:(bJ ((a:Int)::t.take n)).length<=9*(n+1):=by
  have h1:=fm (l:=(a:Int)::t.take n) (by
   intro h K;rcases Q2.1 K with rfl|K
   ·unfold aH;omega
   ·exact v h (List.mem_of_mem_take K))
  have h2:((a:Int)::t.take n).length=n+1:=by simp;omega
  omega
 have a3:=e.len dC;refine an.dec (λa5=>?_) (λa6=>?_)
 ·obtain⟨P,p,h,rfl,K,T,U⟩:=(u.ah g).mr (i:=n) oM
  refine⟨P,p,rfl,oM,oM,_,U,PC.ok (AJ T (e.row (bytes:=1) dC ba) ba e.aB) ?_⟩;rintro _ V ⟨W,X,Y,q,rfl,k,r,s⟩;refine⟨_,_,_,rfl,_,?_,n+1,aq oM,oM,rfl,q,?_,g.then r,λP j=>by have:=s P j;have:=g.size;omega⟩
  ·omega
  ·have Z:bJ ((a:Int)::t.take (n+1))=bJ ((a:Int)::t.take n)++nZ h:=by
    rw[Qw,K,<-List.cons_append,gY]
    congr 1
    simp[bJ]
   rw[Z];exact k
 ·obtain rfl:n=a:=oM
  rw[Qz oM,F]at e
  change aO fx 5 S R l m o (wP t)at e
  have a7:=DF v E;refine PC.ok (Dp (C.ah g) (e.row (bytes:=1) dC ba) e.aB) ?_;rintro _ V ⟨_,rfl,W,X,Y,q,rfl,k,r,s⟩;rw[show jK 2 (wP t)=(uZ t,0) by unfold jK uZ;rw[Zq dC,Zq oM]]at k⊢;exact⟨_,_,_,_,rfl,Ok.mk ⟨_,_,_,q,rfl,k,g.then r,λP j=>by have:=s P j;have:=g.size;omega⟩⟩
def Bi{D:al}(ht:pL b)(hD:aN b a f D)(hl:Row aJ 8 b Y d c t)(a8:∀b7∈t,aH b7)(a3:∀n,Y n->n<b.heap.size/\¬f n)(a9:∀n,f n->n≠2/\n≠3):
  ZG 112 #[XL a,.agg #[.slice d c i]] b (Ok (uA b a f (bZ D t))):=by
 have hn:=hl.len;refine vN (PA.mk λw1 k1 s1 g1=>PA.mk λj U s2 g2=>PA.mk λw3 H s3 g3=>⟨_,_,_,ae (H.get g2 id) rfl,an.dec (λh=>?_) (λh=>?_)⟩)
 ·refine PS.mk g3 sM λp B s4 g4=>⟨_,ae g4 rfl,?_⟩
  have k:bZ D t=(3,D):=by unfold bZ;rw[Zx oM]
  rw[k];have y:ai b p:=((k1.then U).then H).new B λn P=>.inr oM;exact Ok.mk (uA.same (hD.ah y) y.af)
 refine PA.mk λp B s4 g4=>?_;have y:ai b p:=((k1.then U).then H).then B;have k:bZ D t=wO t 0 5 D:=by unfold bZ;rw[Zq oM]
 rw[k];have I:=hD.aB;refine⟨λa1 M l=>∃(u:Nat) (J:al) (v:XN),M=u/\u<=5/\a1=5-u/\wO t 0 5 D=wO t u (5-u) J/\aN l a v J/\ak (λn=>f n\/n=j.heap.size) p l/\(∀n,v n->f n\/p.heap.size<=n)/\l.heap[j.heap.size]? =some (.cells #[XH 0] 34 (0,0)),
  ⟨_,0,D,f,rfl,oM,rfl,rfl,hD.ah y,ak.refl _,λn P=>.inl P,B.get g3 id⟩,?_⟩
 rintro a1 M _ x ⟨u,J,v,rfl,hi,rfl,N,C,E,V,ge⟩;have W:∀n,b.heap.size<=n->n<p.heap.size->¬v n:=λn h1 h2 hf=>by
  rcases V n hf with h|h
  ·have:=I n h;omega
  ·omega
 have O:x.heap[b.heap.size]? =some (.cells #[XL a] 93 (0,0)):=E.get (B.get (H.get (U.get g1 id) id) id) (λq=>q.elim (λh=>by have:=I _ h;omega) (λh=>oM));have gm:x.heap[w1.heap.size]? =some (.cells #[.slice d c i] 211 (0,0)):=E.get (B.get (H.get g2 id) id) (λq=>q.elim (λh=>by have:=I _ h;omega) (λh=>oM));have Q:=E.get g4 (λq=>q.elim (λh=>by have:=I _ h;omega) (λh=>oM));have c5:=E.size;have w:∀(k:Int) (R:al) (G:XN) (g:World),aN g a G R->ak (λn=>f n\/n=j.heap.size) p g->(∀n,G n->f n\/p.heap.size<=n)->g.heap[j.heap.size]? =some (.cells #[XH k] 34 (0,0))->
   wO t 0 5 D=(k,if k≠0 then(ou R).2 else R)->
   Lv XP (λb0=>∃A:Int,b0.cell? ⟨j.heap.size,0,none⟩=some (XH A)/\Ok (uA b a f (wO t 0 5 D)) (.returned (XH A)) b0) (λch l=>Ok (uA b a f (wO t 0 5 D)) (.panicked ch) l)
    ([{target:=.fn (.func 173) #[XL j.heap.size,XL b.heap.size],args:= #[]}]:List Deferred) .returning g:=by
  intro k R G g hE r hG X hr;have b8:g.heap[b.heap.size]? =some (.cells #[XL a] 93 (0,0)):=r.get (B.get (H.get (U.get g1 id) id) id) (λq=>q.elim (λh=>by have:=I _ h;omega) (λh=>oM));have m:∀o (K:XN) (E':al),aN o a K E'->bL G g K o->wO t 0 5 D=(k,E')->∃A:Int,o.cell? ⟨j.heap.size,0,none⟩=some (XH A)/\Ok (uA b a f (wO t 0 5 D)) (.returned (XH A)) o:=by
   intro o K E' a4 s a0;have b9:¬G j.heap.size:=λh=>(hG _ h).elim (λh=>by have:=I _ h;omega) (λh=>oM);have c6:=r.size;refine⟨k,ae (s.af.get X b9) rfl,Ok.mk ?_⟩;rw[a0];refine⟨K,rfl,a4,?_,λn P=>?_⟩
   ·have c0:ak f b g:=y.af.new r λn P=>P.imp id λh=>by omega
    exact c0.new s.af λn P=>(hG n P).imp id λh=>by omega
   ·rcases s.new n P with h|h
    ·exact(hG n h).imp id λh=>by omega
    ·exact .inr oM
  refine Lv.one sM kR (CallsD.mono (rp (R:=λe' o=>e'= .returned (.tuple #[])/\∃A:Int,o.cell? ⟨j.heap.size,0,none⟩=some (XH A)/\Ok (uA b a f (wO t 0 5 D)) (.returned (XH A)) o) ⟨_,ae X rfl,an.dF (λZ=>?_) (λh0=>?_)⟩) ?_)
  ·refine⟨_,ae b8 rfl,PC.ok (qD hE) ?_⟩
   rintro _ o ⟨K,rfl,a4,s⟩;exact⟨_,rfl,rfl,m o K _ a4 s (by rw[hr,Zx Z])⟩
  ·exact⟨rfl,m g G R hE (bL.refl _ _) (by rw[hr,Zq (by simpa using h0)])⟩
  ·rintro e' u' o ⟨rfl,rfl,hX⟩
   exact Lv.ret rfl hX
 refine an.dec (λc7=>?_) (λc8=>?_)
 ·have b1:u<5:=oM
  have step:∀κ ε,(∀z l,uA x a v (su t u J) z l->κ z l)->∃b2:Value,x.cell? ⟨w3.heap.size,0+Int.toNat (u:Int),none⟩=some b2/\∃a5 a2 a7,b2= .func (.func a5) a2 a7/\enters XP a5=true/\PC XP a5 (a2++ #[]++a7) x κ ε:=by
   intro κ ε e;rw[Qx,Xz];have m:∀{b3:Int×al} {z l},uA x a v b3 z l->∃M:Int,z= XH M/\Ok (uA x a v b3) (.returned (XH M)) l:=λh=>lz _ _ (ak.refl _) h
   match u,b1,e with
   |0,_,e=>exact⟨_,ae Q rfl,_,_,_,rfl,kR,PC.ok (td ⟨_,ae O rfl,PC.ok (qD C) λz l h=>m h⟩) e⟩
   |1,_,e=>exact⟨_,ae Q rfl,_,_,_,rfl,kR,PC.ok (te ⟨_,ae O rfl,PC.ok (xo C) λz l h=>m h⟩) e⟩
   |2,_,e=>
    refine⟨_,ae Q rfl,_,_,_,rfl,kR,PC.ok (φ:=uA x a v (su t 2 J)) (tf λg d6=>?_) e⟩;have r:ai x g:=d6.af;have F:ak (λn=>f n\/n=j.heap.size) p g:=E.then r.af;have c1:Row aJ 8 g Y d c t:=(hl.ah y).af F λn P q=>q.elim (a3 n P).2 λh=>by have:=(a3 n P).1;omega
    have c2:pL g:=by
     have:=(ht.ah y)
     have c9:b.heap.size<=p.heap.size:=y.size;have h1:=ht.lt;have hz:=F.size;refine⟨λS hj=>?_,λS hj=>?_,oM⟩
     ·exact(this.lower S hj)▸F.cell (a:=⟨2,S,none⟩) (by show 2<_;omega) (λq=>q.elim (λh=>(a9 _ h).1 rfl) (λh=>by have h:2=j.heap.size:=h;omega))
     ·exact(this.upper S hj)▸F.cell (a:=⟨3,S,none⟩) (by show 3<_;omega) (λq=>q.elim (λh=>(a9 _ h).2 rfl) (λh=>by have h:3=j.heap.size:=h;omega))
    refine⟨v,W _ (Q4 _) oM,_,ae (r.get O id) rfl,_,_,_,ae (r.get gm id) rfl,PC.ok (Bh c2 c1 a8 (λn P=>by have:=(a3 n P).1;have:=y.size;have:=F.size;omega) oM) ?_⟩;rintro _ o ⟨d0,n7,d1,F7,rfl,a6,L,c3⟩;have d2:=Bj t;have d3:=DF a8 oM;refine⟨_,_,_,rfl,L.af,PC.ok (xp ((C.ah r).ah L) (a6.row dC ba) (λk=>a6.MG k) λn P=>⟨a6.aB n P,λhf=>by have:=C.aB n hf;have:=c3 n P;have:=r.size;omega⟩) ?_⟩;rintro _ w8 ⟨F8,rfl,c4,s⟩;exact⟨_,rfl,s.af,Ok.mk ⟨F8,rfl,c4,(bL.mk (ai.af (r.then L)) λ_ h=>.inl h:bL v x v o).trans s⟩⟩
   |3,_,e=>exact⟨_,ae Q rfl,_,_,_,rfl,kR,PC.ok (tg ⟨_,ae O rfl,PC.ok (Da C) λz l h=>m h⟩) e⟩
   |4,_,e=>exact⟨_,ae Q rfl,_,_,_,rfl,kR,PC.ok (th ⟨_,ae O rfl,PC.ok (Hu C) λz l h=>m h⟩) e⟩
  refine⟨_,_,rfl,oM,oM,step _ _ ?_⟩;rintro _ g ⟨F6,rfl,h6,s⟩;have b4:∀n,F6 n->n≠j.heap.size:=λn P k=>by
   subst k;rcases s.new _ P with h|h
   ·exact W _ oM oM h
   ·omega
  have b5:∀n,F6 n->f n\/p.heap.size<=n:=λn P=>by
   rcases s.new n P with h|h
   ·exact V n h
   ·exact .inr oM
  have F:ak (λn=>f n\/n=j.heap.size) p g:=E.new s.af λn P=>(V n P).imp .inl id;refine⟨_,rfl,PS.mk (s.af.get ge (W _ oM oM)) sM λo L s7 T=>?_⟩;have h7:=h6.af L λn P=>b4 n P;have b6:ak (λn=>f n\/n=j.heap.size) p o:=F.then (L.mono λn _ P=>.inr P);rw[No t b1]at N;refine⟨_,ae T rfl,an.dF (λZ=>?_) (λh0=>?_)⟩
  ·refine⟨_,ae T rfl,PS.mk T sM λw8 k8 s8 g8=>?_⟩
   exact w _ _ F6 w8 (h7.af k8 λn P=>b4 n P) (b6.then (k8.mono λn _ P=>.inr P)) b5 g8 (by rw[N,Zx Z,Zx Z])
  ·rw[Zq (by simpa using h0)]at N
   rw[h0]at T;exact⟨rfl,_,oM,u+1,_,F6,aq oM,oM,rfl,N,h7,b6,b5,T⟩
 ·obtain rfl:u=5:=oM
  refine⟨_,ae ge rfl,PS.mk ge sM λg r s6 X=>?_⟩;refine w 0 J v g (C.af r λn P k=>W n oM oM P) (E.then (r.mono λn _ P=>.inr P)) V X ?_;rw[N];rfl
def Cx{D:al}(ht:pL b)(hD:aN b a f D):
  ZG 109 #[XL a] b (Ok λQ g=>∃l o p G,Q= .tuple #[.agg #[.slice l o p],.bool (eU D).isSome]/\aO aJ 3 G g l o p ((eU D).getD [])/\ai b g/\∀n,G n->b.heap.size<=n):=by
 refine yk (PA.mk λA C s1 g1=>PC.ok (wG (hD.ah C)) ?_);rintro _ w2 ⟨_,rfl,a7,n2,c2,F2,rfl,u,R,e8⟩
 change aO fx 5 F2 w2 a7 n2 c2 (D.read uY).1 at u
 have b3:(D.read uY).1.length<=262144:=by
  unfold al.read;split
  ·simp
  ·split
   ·simp
   ·rename_i e7 hf;exact hD.ok.len (bT hf)
 have a3:∀{g},ai A g->g.heap[b.heap.size]? =some (.cells #[.slice none 0 0] 211 (0,0)):=λhk=>hk.get g1 id;have d:eU D=none->∀v,ai A v->PS v ⟨b.heap.size,0,none⟩ (.slice none 0 0) λw=>∃(b4:ZH) (b5:Nat) (b6:Nat),w.cell? ⟨b.heap.size,0,none⟩=some (.slice b4 b5 b6)/\
   Ok (λQ g=>∃l o p G,Q= .tuple #[.agg #[.slice l o p],.bool (eU D).isSome]/\aO aJ 3 G g l o p ((eU D).getD [])/\ai b g/\∀n,G n->b.heap.size<=n) (.returned (.tuple #[.agg #[.slice b4 b5 b6],.bool false])) w:=by
  intro S v E;refine PS.mk (a3 E) sM λw4 T s4 U=>⟨_,_,_,ae U rfl,?_⟩
  rw[S];exact Ok.mk ⟨none,0,0,λ_=>False,rfl,aO.nil w4,(C.then E).new T λn P=>.inr oM,λ_ h=>h.elim⟩
 refine⟨_,_,_,_,rfl,an.dF (λk=>d (by unfold eU;exact Zx k) w2 R) (λS=>?_)⟩;have B:eU D=jw (D.read uY).1:=by unfold eU;exact Zq λh=>h S
 generalize(D.read uY).1=F at u b3 B;have d6:=u.len dC;refine PC.ok (Dq (ht.ah (C.then R)) (u.row (bytes:=1) dC ba) u.jX u.aB) ?_;rintro _ v ⟨c0,n3,c3,F3,rfl,b7,E,e9⟩;refine⟨_,_,_,_,_,_,rfl,PA.mk λw4 T s4 U=>PS.mk U sM λw5 k5 s5 g5=>PS.mk g5 sM λx k6 s6 g6=>?_⟩;have V:x.heap[v.heap.size]? =some (.cells #[XH (bj F).kind,.slice c0 n3 c3] 277 (0,0)):=g6;have W:ai v x:=(T.new k5 λn P=>.inr oM).new k6 λn P=>.inr oM;have s:ai A x:=(R.then E).then W;have f8:=W.size;refine an.dF (λk=>d (by rw[B];unfold jw;exact Zx (.inl k)) x s) (λb8=>?_);refine an.dF (λk=>d (by rw[B];unfold jw;exact Zx (.inr (.inl λe=>k (by rw[e,d6])))) x s) (λg0=>?_);refine⟨_,ae V rfl,an.dF (λk=>d (by rw[B];unfold jw;exact Zx (.inr (.inr k))) x s) (λd7=>?_)⟩;have X:eU D=if kq (ow (bj F).body).2≠0 then none else some (ow (bj F).body).1:=by
  rw[B];unfold jw;refine Zq ?_;rintro(h|h|h)
  ·exact h b8
  ·exact h oM
  ·exact h d7
 have Y:=b7.ah W;obtain⟨g2,h9,d8⟩:=uJ b8;generalize(bj F).body=c at Y X d8 V b7;refine⟨_,_,_,ae V rfl,PC.ok (Df (Y.row (bytes:=1) dC ba) Y.aB) ?_⟩;rintro _ w ⟨H,a4,rfl,I,k7,hP⟩;refine⟨_,rfl,PA.mk λw8 k8 s8 g8=>PC.ok (Hx (m:=64) (I.ah k8)) ?_⟩;rintro _ t ⟨rfl,Z,k9⟩;have b9:=I.aB;have hq:=I.self;have g3:=b9 H hq;have g7:=hP H hq;obtain⟨c1,a8,c5,c4⟩:=lY.Fit.count (r:=⟨c,0,0⟩) ⟨Qj _,.inl rfl⟩ (m:=64) oM;have g9:t.heap[w.heap.size]? =some (.cells #[.slice none 0 0] 211 (0,0)):=k9.get g8 (λe=>oM);have J:ow c=bf (bW 64 ⟨c,0,0⟩).1.toNat (bW 64 ⟨c,0,0⟩).2:=rfl;have K:ai A t:=((s.then k7).then k8).new k9 λn P=>.inr (by have:=s.size;omega);generalize h2:bW 64 ⟨c,0,0⟩=ct at Z c1 a8 c5 c4 J;obtain⟨cn,L⟩:=ct;simp only at Z c1 a8 c5 c4 J;refine⟨_,rfl,λm a5 g=>∃i:Nat,a5=i/\(i:Int)<=cn/\m=cn.toNat-i/\eM g H a4 (bf i L).2/\ai A g/\∃l o p G,g.heap[w.heap.size]? =some (.cells #[.slice l o p] 211 (0,0))/\aO aJ 3 G g l o p (bf i L).1/\(∀n,G n->t.heap.size<=n)/\t.heap.size<=g.heap.size,
  ⟨_,0,rfl,a8,rfl,Z,K,none,0,0,λ_=>False,g9,aO.nil t,λ_ h=>h.elim,Q4 _⟩,?_⟩
 have h3:=k9.size;rintro m a5 _ c6 ⟨i,rfl,hj,rfl,a0,M,c7,c8,c9,d0,a9,y,q,f0⟩;have d9:∀n,a4 n->n<t.heap.size:=λn P=>by have:=b9 n P;omega
 refine an.dec (λh4=>?_) (λh5=>?_)
 ·intro N b0
  have j:ai c6 N:=b0.af;refine⟨(λn=>n=H\/d0 n),λhs=>hs.elim (λe=>oM) (λe=>by have:=q _ e;omega),_,_,_,ae (j.get a9 id) rfl,PC.ok (EU (a0.ah j)) ?_⟩;rintro _ d1 ⟨rfl,d2,r⟩;obtain⟨f1,f2,f3,f4⟩:=c1.ints i;obtain⟨f5,f6,f7⟩:=f1.int;refine⟨_,rfl,r.mono λn _ P=>.inl P,?_⟩;have a1:=(y.ah j).af r λn P e=>by have:=q n P;omega
  refine PA.mk λh6 z h7 e0=>⟨z.af,?_⟩
  have d3:=a1.ah z;have d4:(bf i L).1.length=i:=f3;refine ko d3 tO (D:=(·=d1.heap.size)) (Row.lit e0 [(fp (bf i L).2).1] rfl (λf9 hx=>by simp at hx;subst hx;exact f6) (by unfold aK;simp)) (λn e=>⟨oM,λe2=>by have:=a1.aB n (a1.self n e2);omega⟩) (by rw[d4];unfold aK;simp;omega) (by rw[d4];unfold maxLen;simp;omega) λb1 e1 e3 h8 a2 O _ d5=>?_
  replace a2:=a2.alone
  have e4:e3.heap[w.heap.size]? =some (.cells #[.slice c7 c8 c9] 211 (0,0)):=O.get (z.get (r.get (j.get a9 id) (λe=>oM)) id) (λe=>by have:=q _ (y.self _ e);omega);have z1:=j.size;have z2:=r.size;have z3:=z.size;have z4:=O.size;have a6:∀n,aF b1=some n->t.heap.size<=n:=λn P=>by
   rcases d5 n P with h|h
   ·exact q n h
   ·omega
  refine⟨_,_,_,rfl,PS.mk e4 sM λi0 b2 i1 e5=>⟨_,oM,i+1,aq oM,oM,rfl,?_,?_,b1,_,e1,(λn=>aF b1=some n),e5,?_,a6,oM⟩⟩
  ·refine(((d2.ah z).af O λn P e=>by have:=d9 n P;have:=q n (y.self n e);omega)).af b2 λn P e=>by have:=I.aB n P;omega
  ·refine((((M.then j).new r λn P=>.inr (by have:=s.size;omega)).then z).new O λn P=>.inr (by have:=q n (y.self n P);have:=K.size;omega)).new b2 λn P=>.inr (by have:=(s.then k7).size;omega)
  ·exact a2.af b2 λn P e=>by have:=a6 n P;omega
 ·obtain rfl:cn=(i:Int):=oM
  rw[Qx]at J;rw[<-J]at a0 y;refine PC.ok (Lt a0) ?_;rintro _ N ⟨rfl,b0⟩;have j:ai c6 N:=b0.af;refine⟨_,rfl,an.dF (λk=>d (by rw[X];exact Zx k) N (M.then j)) (λh0=>?_)⟩;have hS:eU D=some (ow c).1:=by rw[X];exact Zq λh=>h h0
  rw[hS];refine⟨_,_,_,ae (j.get a9 id) rfl,PS.mk (a3 (M.then j)) sM λd1 r i2 e6=>⟨_,_,_,ae e6 rfl,Ok.mk ⟨c7,c8,c9,d0,rfl,?_,?_,?_⟩⟩⟩
  ·exact(y.ah j).af r λn P e=>by have:=q n P;have:=K.size;omega
  ·exact(C.then (M.then j)).new r λn P=>.inr oM
  ·intro n P;have:=q n P;have:=K.size;omega
def Fe{x y:Operand}{a b c d:Int}{w:World}:(do eqGuard .eql 46 x y (.agg #[XH a,XH b]) (.agg #[XH c,XH d]);binOp .eql 46 (.agg #[XH a,XH b]) (.agg #[XH c,XH d]):Sem Value).run XP w= .ok (.bool (a==c&&b==d)) w:=by
 have f:Tryz.prog.underlying 46=some (.struct (Tryz.prog.fieldsOf 46)):=kR
 have e:Tryz.prog.underlying 3=some (.int .i64):=kR
 have n:(Tryz.prog.fieldsOf 46).toList.map (λP=>(P.name,P.type,P.offset))=[("Origin",3,0),("Seq",3,1)]:=kR
 rw[Sem.run_bind,run_eqGuard_agg w .eql _ x y _ _ kR,Result.andThen_ok,run_eql_struct,run_equalIn_struct w 9999 _ _ _ f kR];generalize(Tryz.prog.fieldsOf 46).toList=g at n
 match g,n with
 |[P,t],n=>
  simp only[QY,List.map_nil,List.cons.injEq,Prod.mk.injEq,and_true]at n;obtain⟨⟨h,i,j⟩,k,l,m⟩:=n;have o:(isAgg 3).run XP w= .ok false w:=cI _ _ _ kR ⟨_,e⟩ w;have p:=run_equalIn_int (P:=XP) w 9998 3 .i64 .i64 a c e;have q:=run_equalIn_int (P:=XP) w 9998 3 .i64 .i64 b d e;unfold Op.eqFields Op.eqFields Op.eqFields;rw[h,i,j,k,l,m]
  cases r:a==c<;>simp[part,o,p,q,r]
  by_cases s:b=d<;>simp[s]
 |[],n=>simp at n
 |[_],n=>simp at n
 |_::_::_::_,n=>simp at n
def sf{a j r s:Nat}{D v:XN}(c:Row aJ 8 b D d a t)(k:Row aJ 8 b v u j b0):
  ZG 14 #[.slice d a r,.slice u j s] b (Ok λw e=>w= .bool (decide (t=b0))/\bF b e):=by
 have x:=c.len;have y:=k.len;have z:=c.dP;unfold aK at z;refine Ac (an.dF (λl=>?_) (λl=>?_))
 ·have f:t≠b0:=by rintro rfl;simp[x,y]at l
  exact Ok.mk ⟨by simp[f],bF.refl b⟩
 ·refine⟨λm i e=>∃n:Nat,i=n/\n<=a/\m=a-n/\t.take n=b0.take n/\bF b e,⟨_,0,rfl,Qj _,rfl,rfl,bF.refl b⟩,?_⟩
  rintro m i _ L ⟨n,rfl,M,rfl,o,P⟩;refine an.dec (λA=>?_) (λA=>?_)
  ·obtain⟨B,C,N,rfl,p,_,E⟩:=(c.ah P.af).mr (i:=n) oM
   obtain⟨F,H,O,rfl,g,_,I⟩:=(k.ah P.af).mr (i:=n) oM;refine⟨B,C,rfl,oM,oM,_,E,F,H,rfl,oM,oM,_,I,λQ q=>?_⟩;refine an.dF (λh=>?_) (λh=>?_)
   ·have f:t≠b0:=by rintro rfl;rw[p]at g;cases g;exact h rfl
    exact Ok.mk ⟨by simp[f],P.then q⟩
   ·subst h
    exact⟨_,oM,n+1,aq oM,oM,rfl,Dr o p g,P.then q⟩
  ·have:t=b0:=by
    have J:t.take n=t:=Qz oM;have K:b0.take n=b0:=Qz oM;rw[<-J,<-K,o]
   exact Ok.mk ⟨by simp[this],P⟩
def sg{D y:XN}(z:Row aJ 8 b D d a o.aP)(A:Row aJ 8 b y u c O.aP):
  ZG 39 #[.agg (aC o d a i).toArray,.agg (aC O u c p).toArray] b (Ok λl g=>l= .bool (decide (o=O))/\ai b g):=by
 have no:∀{g},ai b g->o≠O->Ok (λl g=>l= .bool (decide (o=O))/\ai b g) (.returned (.bool false)) g:=λB C=>Ok.mk ⟨by rw[Xv C],B⟩;refine ye (PA.mk λI E J F=>PA.mk λr s K j=>?_);have P:=s.get F id;have k:ai b r:=E.then s;refine⟨_,_,ae P rfl,ae P rfl,_,_,ae j rfl,ae j rfl,aG.mk Fe ⟨_,rfl,an.mk (λm=>?_) (λm=>?_)⟩⟩
 rotate_left
 ·exact no k λn=>by subst n;simp at m
 refine⟨_,ae P rfl,_,ae j rfl,an.dE (λt=>?_) (λt=>no k λn=>t (by rw[n]))⟩;refine⟨_,_,_,ae P rfl,_,_,_,ae j rfl,PC.ok (sf (z.ah k) (A.ah k)) ?_⟩;rintro _ v ⟨rfl,H⟩;have q:ai r v:=H.af;have P:=q.get P id;have h:=q.get j id;have f:ai b v:=k.then q;refine⟨_,rfl,an.dec (λw=>?_) (λw=>no f λn=>w (by rw[n]))⟩;refine⟨_,ae P rfl,_,ae h rfl,an.dE (λL=>?_) (λe=>no f λn=>e (by rw[n]))⟩;refine⟨_,ae P rfl,_,ae h rfl,an.dE (λM=>?_) (λe=>no f λn=>e (by rw[n]))⟩;refine⟨_,ae P rfl,_,ae h rfl,an.dE (λN=>?_) (λe=>no f λn=>e (by rw[n]))⟩;refine⟨_,ae P rfl,_,ae h rfl,an.dE (λQ=>?_) (λe=>no f λn=>e (by rw[n]))⟩;refine⟨_,ae P rfl,_,ae h rfl,an.dE (λR=>?_) (λe=>no f λn=>e (by rw[n]))⟩;refine⟨_,ae P rfl,_,ae h rfl,Ok.mk ⟨?_,f⟩⟩
 congr 1
 have S:o.origin=O.origin/\o.seq=O.seq:=by simpa using m
 by_cases x:o.key=O.key
 ·have:o=O:=by cases o;cases O;simp_all
  subst this;simp
 ·rw[Xv λn=>x (by rw[n])]
  simp[x]
def zV{c m w x:Nat}{D y:XN}(f:Row jo 96 b D d c J)(o:Row jo 96 b y u m e0):
  ZG 17 #[.slice d c w,.slice u m x] b (Ok λz g=>z= .bool (decide (J=e0))/\ai b g):=by
 have A:=f.len;have B:=o.len;have C:=f.dP;unfold aK at C;refine vO (an.dF (λp=>?_) (λp=>?_))
 ·have h:J≠e0:=by rintro rfl;simp[A,B]at p
  exact Ok.mk ⟨by simp[h],ak.refl b⟩
 ·refine⟨λq i g=>∃a:Nat,i=a/\a<=c/\q=c-a/\J.take a=e0.take a/\ai b g,⟨_,0,rfl,Qj _,rfl,rfl,ak.refl b⟩,?_⟩
  rintro q i _ S ⟨a,rfl,T,rfl,r,s⟩;refine an.dec (λE=>?_) (λE=>?_)
  ·intro F H
   have e:ai b F:=s.then H.af;obtain⟨I,K,U,V,rfl,_,_,t,L,W,X,Y,rfl,M,Z⟩:=(f.ah e).yP (i:=a) oM;obtain⟨N,O,a0,fs,rfl,_,_,j,Q,a2,n2,c2,rfl,R,a3⟩:=(o.ah e).yP (i:=a) oM;have n:=λi (k:i<10)=>L i k;have P:=λi (k:i<10)=>Q i k;refine⟨I,K,rfl,oM,oM,_,_,_,_,_,_,_,_,_,_,_,_,n 0 dC,n 1 dC,n 2 dC,n 3 dC,n 4 dC,n 5 dC,n 6 dC,n 7 dC,n 8 dC,n 9 dC,?_⟩;refine⟨N,O,rfl,oM,oM,_,_,_,_,_,_,_,_,_,_,_,_,P 0 dC,P 1 dC,P 2 dC,P 3 dC,P 4 dC,P 5 dC,P 6 dC,P 7 dC,P 8 dC,P 9 dC,?_⟩;refine PC.ok (sg M R) ?_;rintro _ w3 ⟨rfl,v⟩;refine⟨_,rfl,an.not (an.dec (λl=>?_) (λl=>?_))⟩
   ·subst l
    exact⟨_,oM,a+1,aq oM,oM,rfl,Dr r t j,e.then v⟩
   ·have h:J≠e0:=by rintro rfl;rw[t]at j;cases j;exact l rfl
    exact Ok.mk ⟨by simp[h],e.then v⟩
  ·have:J=e0:=by
    have n:J.take a=J:=Qz oM;have P:e0.take a=e0:=Qz oM;rw[<-n,<-P,r]
   exact Ok.mk ⟨by simp[this],s⟩
end Go.Proofs.YtjgjkeponbeekaaGreatDoor
namespace Go.au
open Go.ChangeShapes Go.WideShapes Go.ChangeAt Go.RowKit
def lC{n:Type}(P:Program)(a:TypeId)(b:DataW n):Prop:=∀c∈b.weights P a,c<=reachBytes
abbrev In(n:World):XN:=λP=>P<n.heap.size
variable{e:Int}{a c:Nat}{j:Type}{g q:TypeId}{v:Value}
section
variable {H:Type} {enc:TypeId×Value->H} {P:Program} {w:World} {base:Nat} {held:Bool}
def OV{n:List TypeId}{a:List (DataW H)}(c:(DataW.weightsEach P n a).all (·<=reachBytes)=true){j:Nat}{b:DataW H}(d:n[j]? =some g)(e:a[j]? =some b):lC P g b:=
 λf h=>by simpa using ZY.1 c _ (DataW.weights_mem_each d e f h)
def qo{b:TypeId}:∀{n:List (DataW H)} {d:DataW H},d∈n->∀a∈d.weights P b,a∈DataW.weightsAll P b n
 |x::n,d,h,a,c=>by
  simp only[DataW.weightsAll,Q6];rcases Q2.1 h with rfl|h
  ·exact Or.inl c
  ·exact Or.inr (qo h a c)
def Reads{c:Type}(P:Program)(d:jt c)(a:TypeId):Prop:=
 ∀(H:Type) (enc:TypeId×Value->H) (w:World) (held:Bool) (n:Nat) (cs:List Value) (b:DataW H×List MemPlace),DataW.trod enc P w 0 (λ_=>true) held n a cs=some b->lC P a b.1->∃e,d.rep w (In w) e cs
def ks{P:Option _}(n:w.cell? ⟨a,c,P⟩=some v):a<w.heap.size:=by
 unfold World.cell? at n
 by_cases b:a<w.heap.size
 ·exact b
 ·rw[show w.heap[a]? =none by simp;omega]at n;cases n
def open_row{i:jt j}{bytes v:Nat}{cs:List Value}{B:DataW H×List MemPlace}(I:P.underlying g=some (.slice q))(Q:P.cellsOf q=i.k)(J:0<i.k)(R:P.bytesOf q=bytes)(S:Reads P i q)(o:DataW.trod enc P w 0 (λ_=>true) held v g cs=some B)(T:lC P g B.1):
  ∃a p e U,cs=[.slice a p e]/\p<=e/\(a=none->p=0/\e=0)/\Row i bytes w (In w) a p U:=by
 rcases DataW.trod_slice I o with⟨rfl,rfl⟩|⟨a,b,e,n,f,p,_,rfl,rfl,hb,V,hm,a4,W,a5,a6⟩
 ·exact⟨none,0,0,[],rfl,Q4 _,λ_=>⟨rfl,rfl⟩,Row.nil _ _⟩
 ·have x:∀k∈(n.length+f.length)*P.bytesOf q::(DataW.weightsAll P q (n.map (·.1))++DataW.weightsAll P q (f.map (·.1))),k<=reachBytes:=by
   have:=T;simpa only[lC,DataW.weights,I,Q8]using this
  have read:∀d,d<b->∃c k,n[d]? =some k/\c.length=i.k/\(∀h,h<i.k->w.cell? (a.add (d*i.k+h))=c[h]?)/\DataW.trod enc P w 0 (λ_=>true) held p q c=some k:=by
   intro d m;have K:=W d m;rw[Q,Qq (by omega:d<n.length)]at K;obtain⟨c,A,y⟩:=Option.bind_eq_some_iff.1 K;obtain⟨_,C,s⟩:=World.cells?_some A;exact⟨c,_,Qq oM,C,λh E=>by rw[<-Addr.add_add];exact s h E,y⟩
  have X:0<b->a.spot=none:=by
   intro Y;obtain⟨c,k,_,C,s,_⟩:=read 0 Y;have:=s 0 J;rw[Nat.zero_mul,Nat.add_zero,Qq oM]at this;have q:a.add 0=a:=by simp[Addr.add]
   rw[q]at this;unfold World.cell? at this;split at this
   ·cases t:a.spot with
    |none=>rfl
    |some L=>rw[t]at this;simp at this
   ·cases this
  have one:∀d,d<b->∃r,∃u z M,some a=some ⟨u,z,none⟩/\u<w.heap.size/\In w u/\(∀h,h<i.k->w.cell? ⟨u,z+d*i.k+h,none⟩=M[h]?)/\i.rep w (In w) r M:=by
   intro d m;have t:=X oM;have N:∀F,a.add F=⟨a.block,a.off+F,none⟩:=by
    intro F;obtain⟨u,Z,L⟩:=a;simp only at t;subst t;unfold Addr.add;split
    ·next o=>subst o;rfl
    ·rfl
   obtain⟨c,k,y,C,s,h5⟩:=read d m;have a0:lC P q k.1:=λr l=>x r (QJ _ (ZV _ (qo (d:=k.1) (Xk.2 ⟨k,QZ y,rfl⟩) r l)));obtain⟨r,l⟩:=S H enc w held p c k h5 a0;have O:a.block<w.heap.size:=by
    have:=s 0 J;rw[N,Qq oM]at this;exact ks this
   refine⟨r,a.block,a.off,c,?_,O,O,λh E=>?_,l⟩
   ·obtain⟨u,Z,L⟩:=a
    simp only at t;rw[t]
   ·have:=s h E
    rw[N]at this;rw[<-this,Nat.add_assoc]
  have a1:b*bytes<=aK:=by
   have A:=x _ (QV ..);have y:b*P.bytesOf q<=(n.length+f.length)*P.bytesOf q:=Q0 _ oM;rw[R]at A y;unfold reachBytes at A;unfold aK;omega
  by_cases l:b=0
  ·subst l
   exact⟨some a,0,e,[],rfl,Qj _,λo=>(by cases o),rfl,sM,λd B m=>(by simp at m)⟩
  ·have a2:Nonempty j:=⟨(one 0 oM).choose⟩
   haveI:Inhabited j:=⟨Classical.choice a2⟩
   obtain⟨a3,hf⟩:=Go.Deep.choose_lt one;refine⟨some a,b,e,(List.range b).map a3,rfl,V,λo=>(by cases o),sM,a1,λd r l=>?_⟩
   by_cases m:d<b
   ·rw[Q9,List.getElem?_range m]at l
    cases l
    exact hf d m
   ·rw[Q7 be]at l;cases l
def aX(n:(Lit.int .i64 e).wf=true):aH e:=by
 have:IntKind.i64.min<=e/\e<=IntKind.i64.max:=by simpa[Lit.wf]using n
 exact this
end
section
variable {H:Type} {enc:TypeId×Value->H} {P:Program} {w:World} {held:Bool} {r:Reach} {b0:Nat} {v:Value} {d:DataW H} {ps:List MemPlace}
def JA(a:P.underlying g=some (.int .i64))(b:Value.okWide P w r b0 g v)(c:DataW.Trod enc P w 0 (λ_=>true) held g v d ps):∃n,v= XH n/\aH n:=by
 obtain⟨n,rfl,-,-,e⟩:=open_int a b c;exact⟨n,rfl,aX e⟩
end
variable{l:Array Value}{a6:Func}{f7:List MemPlace}{b k:World}
def ai.below(n:ai b k):Below b.heap.size b k:=⟨n.os,n.tape,n.output,n.size,λP a=>n.block P a id⟩
section
variable {H:Type} {enc:TypeId×Value->H} {P:Program}
def uK(i:laidOutB P=true){e j:World}(k:ai e j){l:Nat->Bool}:∀{b:List TypeId} {m:List Value} {o:List (DataW H)} {c:List MemPlace},b.all (λf=>P.readableRec f&&decide (f<P.types.size))=true->(∀n∈c,n.block<e.heap.size)->(∀n∈c,l n.block=true)->
  DataW.TrodAll enc P e 0 (λ_=>true) true b m o c->DataW.TrodAll enc P j 0 l true b m o c
 |[],_,_,_,_,_,_,a=>by
  obtain⟨rfl,rfl,rfl⟩:=trodAll_nil a;exact trodAll_mk0
 |f::b,_,_,_,d,p,q,a=>by
  obtain⟨t,u,v,w,x,y,rfl,rfl,rfl,r,s⟩:=trodAll_cons a;simp only[List.all_cons,QK,Zk]at d;refine trodAll_cons_mk (WideElems.Trod_stays i d.1.1 d.1.2 r (λg h=>k.below.same (p g (ZV _ h))) λg h=>q g (ZV _ h)) (uK i k (by simpa using d.2) (λn a=>p n (ZW _ a)) (λn a=>q n (ZW _ a)) s)
def Mx{c:ChangeSpec}{e o:List (DataW H)}{tb:TypeId}{n h E i:Bool}(F:laidOutB P=true)(u:a6.resultTypes= #[tb])(v:P.underlying tb=some .bool)(w:c.vars=[])(I:(c.fn H (e++o)).results=[.lit (.bool true)])(J:(c.fn H (e++o)).args=e)(K:(c.fn H (e++o)).vars=[])(L:a6.params.toList.all (λx=>P.readableRec x&&decide (x<P.types.size))=true)(p:DataW.Whole enc P a6.params.toList c.vars n b l.toList e o f7)(q:ai b k):c.post enc P a6 n h E i b l (.bool true) k:=by
 have M:=p;have r:=λa d=>p.lt a d;obtain⟨a,V,N,y,O,Q,R⟩:=p;rw[w]at y;obtain⟨rfl,rfl⟩:=trodVars_none y;obtain rfl:f7=a:=by simpa using O
 have z:∀f:Nat->Bool,(∀a∈f7,f a.block=true)->DataW.TrodAll enc P k 0 f true a6.params.toList l.toList (c.fn H (e++[])).args f7:=λf S=>by
  rw[J];exact uK F q L (λs t=>by simpa using r s t) (λs t=>S s t) N
 have A:∀(g:Nat) (f:Nat->Bool) (B:Bool),DataW.TrodAll enc P k g f B a6.resultTypes.toList ((Value.bool true).resultList a6.resultTypes.size) (c.fn H (e++[])).results []:=λg f B=>by
  rw[u,I];exact trodAll_cons_mk (shut_bool v _) trodAll_mk0
 have C:∀f:Nat->Bool,DataW.TrodVars enc P k f c.vars (c.fn H (e++[])).vars []:=λf=>by rw[K,w];exact rfl
 have T:∀a∈f7,(λg=>decide (g<b.heap.size)) a.block=true:=λa d=>by simpa using r a d
 refine⟨e,[],f7,[],f7,[],M,A _ _ _,z _ T,C _,World.keptBut_mono (λa d=>⟨d,Or.inr (by simpa using d)⟩) (q.below.frame (·∈f7)),λ_=>?_⟩;refine⟨ok_one u rfl (okWide_bool_mk v _),_,_,([]++f7)++[],⟨[]++f7,[],trodAll_append (z _ (λ_ _=>rfl)) (A _ _ _),C _,rfl,?_,?_⟩,?_⟩
 ·intro g j d
  have m:MemPlace.cell g j∈f7:=by simpa using d
  rw[q.below.frozen (p:=⟨g,j,none⟩) (r _ m)];exact Q g j (by simpa using m)
 ·intro U
  simpa using R U
 ·intro a d _
  simpa using d
end
end Go.au
namespace Go.Proofs.YtjgjkeponbeekaaGreatDoor
open Go.au
def aR(a P:World)(d:Nat)(D:al)(b:XN):Prop:=∃c,aN P d c D/\ai a P/\(∀n,c n->a.heap.size<=n/\¬b n)/\∀n,b n->n<P.heap.size
abbrev no:XN:=λ_=>False
abbrev di(n:XN):XN:=λP=>¬n P
variable{l:Array Value}{z:FuncId}{e:Int}{d3:Int×al}{x:List UInt8}{a c:Nat}{f:XN}{d:ZH}
section
variable {w0 w w1 w':World} {p:Nat} {D D':al} {X Y:XN}
def aR.gr(n:aR w0 w p D X):ai w0 w:=by obtain⟨a,b,P,c,d⟩:=n;exact P
def aR.ok(n:aR w0 w p D X):D.Ok:=by obtain⟨a,P,b,c,d⟩:=n;exact P.ok
def aR.ah(P:aR w0 w p D X)(n:ai w w'):aR w0 w' p D X:=by
 obtain⟨a,b,c,d,e⟩:=P;exact⟨a,b.ah n,c.ah n,d,λf g=>Qk (e f g) n.size⟩
def aR.mono(c:aR w0 w p D X)(a:∀n,Y n->X n):aR w0 w p D Y:=by
 obtain⟨d,e,f,b,g⟩:=c;exact⟨d,e,f,λn P=>⟨(b n P).1,λh=>(b n P).2 (a n h)⟩,λn P=>g n (a n P)⟩
def aR.add(P:aR w0 w p D X)(b:ai w w')(c:∀n,Y n->w.heap.size<=n/\n<w'.heap.size):aR w0 w' p D (λn=>X n\/Y n):=by
 obtain⟨f,d,g,e,h⟩:=P;exact⟨f,d.ah b,g.ah b,λn a=>⟨(e n a).1,λi=>i.elim (e n a).2 λj=>by have:=d.aB n a;have:=(c n j).1;omega⟩,λn a=>a.elim (λP=>Qk (h n P) b.size) λP=>(c n P).2⟩
def aR.of(a:ai w0 w)(b:ai w w')(e:aN w' p f D)(c:∀n,f n->w.heap.size<=n)(d:∀n,X n->n<w.heap.size):aR w0 w' p D X:=
 ⟨f,e,a.ah b,λn P=>⟨Xx a.size (c n P),λg=>by have:=c n P;have:=d n g;omega⟩,λn P=>Qk (d n P) b.size⟩
def mX(w0 w:World)(p:Nat)(X:XN)(n:Int×al)(P:Value)(w':World):Prop:=P= XH n.1/\aR w0 w' p n.2 X/\ak (di X) w w'
def aR.UX(e:aR w0 w p D X)(d:ai w w1)(i:∀a,aN w1 p a D->(∀n,a n->w0.heap.size<=n/\n<w.heap.size/\¬X n)->ZG z l w1 (Ok (uA w1 p a d3))):ZG z l w1 (Ok (mX w0 w1 p X d3)):=by
 obtain⟨a,f,g,b,h⟩:=e;refine Calls.ok (i a (f.ah d) λn P=>⟨(b n P).1,f.aB n P,(b n P).2⟩) ?_;rintro q w' ⟨j,k,m,c⟩;have:=d.size;have:=g.size;have:=c.af.size;exact⟨k,⟨j,m,(g.ah d).new c.af λn P=>.inr (b n P).1,λn P=>(c.new n P).elim (b n) λe=>⟨oM,λo=>by have:=h n o;omega⟩,λn P=>by have:=h n P;omega⟩,c.af.mono λn _ P=>(b n P).2⟩
def aR.call(a:aR w0 w p D X)(b:∀P,aN w p P D->(∀n,P n->w0.heap.size<=n/\n<w.heap.size/\¬X n)->ZG z l w (Ok (uA w p P d3))):ZG z l w (Ok (mX w0 w p X d3)):=a.UX (ak.refl w) b
def aR.append{e:ByteArray}(P:aR w0 w p D X)(b:Row fx 1 w f d a x)(j:d=none->a=0/\c=0)(g:∀n,f n->n<w0.heap.size\/X n):
  ZG 178 #[XL p,.string e,.slice d a c] w (Ok (mX w0 w p X (D.append e x))):=by
 have q:=P.gr.size;have k:∀n,X n->n<w.heap.size:=by obtain⟨l,r,s,t,m⟩:=P;exact m
 exact P.call λl o h=>xp o b j λn b=>⟨(g n b).elim (λP=>oM) (k n),λi=>(g n b).elim (λP=>by have:=(h n i).1;omega) (h n i).2.2⟩
def aR.create{n:ByteArray}(P:aR w0 w p D X):ZG 170 #[XL p,.string n] w (Ok (mX w0 w p X (D.create n))):=P.call λb a _=>xo a
def aR.sync{n:ByteArray}(P:aR w0 w p D X):ZG 172 #[XL p,.string n] w (Ok (mX w0 w p X (D.sync n))):=P.call λb a _=>Da a
def aR.Hs{k:ByteArray}(n:aR w0 w p D X):ZG 169 #[XL p,.string k,XH e] w (Ok (mX w0 w p X (D.Hs k e))):=n.call λa P _=>Pf P
def aR.delete{n:ByteArray}(P:aR w0 w p D X):ZG 141 #[XL p,.string n] w (Ok (mX w0 w p X (D.delete n))):=P.call λb a _=>xm a
def aR.read{k:ByteArray}(j:aR w0 w p D X):ZG 162 #[XL p,.string k] w (Ok λd w'=>∃a b c P,d= .tuple #[.slice a b c,XH (D.read k).2]/\aO fx 5 P w' a b c (D.read k).1/\(∀n,P n->w.heap.size<=n)/\aR w0 w' p D (λn=>X n\/P n)/\ai w w'):=by
 obtain⟨P,e,l⟩:=j;refine Calls.ok (wG e) ?_;rintro d w' ⟨m,rfl,a,b,c,G,rfl,f,g,h⟩;exact⟨a,b,c,G,rfl,f,h,aR.add ⟨P,e,l⟩ g λn i=>⟨h n i,f.aB n i⟩,g⟩
def aR.list(j:aR w0 w p D X):ZG 160 #[XL p] w (Ok λd w'=>∃a b c P,d= .slice a b c/\aO MM 9 P w' a b c D.list/\(∀n,P n->w.heap.size<=n)/\aR w0 w' p D (λn=>X n\/P n)/\ai w w'):=by
 obtain⟨P,e,k⟩:=j;refine Calls.ok (wH e) ?_;rintro d w' ⟨a,b,c,G,rfl,f,g,h⟩;exact⟨a,b,c,G,rfl,f,h,aR.add ⟨P,e,k⟩ g λn i=>⟨h n i,f.aB n i⟩,g⟩
end
def TL(n:Nat):al:=⟨n,[],false,0,false⟩
variable{A:XT}{t:List Int}{b k:World}
def sE(g:ai b k)(l:64<=e)(m:e<=262144):ZG 42 #[XH e] k (Ok λa P=>∃n,a= .tuple #[XL n,XH 0]/\aR b P n (TL e.toNat) (λc=>c<k.heap.size)/\ai k P):=by
 refine Calls.ok MO ?_;intro a P d;rw[Zq oM]at d;obtain⟨n,o,rfl,h,f,i⟩:=d;exact⟨n,rfl,aR.of g f h i λc j=>j,f⟩
def Hz{D:al}(n:D.Ok)(P:ByteArray):(D.read P).1.length<=262144:=by
 unfold al.read;split
 ·simp
 ·split
  ·simp
  ·rename_i b a;exact n.len (bT a)
def nA:ByteArray:=⟨#[97]⟩
open Go.au Go.ChangeShapes Go.WideShapes Go.ChangeAt Go.RowKit
section
variable {w0 w w1 w':World} {p:Nat} {D D':al} {X Y:XN}
def aR.bZ(P:aR w0 w p D X)(g:pL w0)(j:Row aJ 8 w f d a t)(k:∀l∈t,aH l)(h:∀n,f n->n<w0.heap.size\/X n):
  ZG 112 #[XL p,.agg #[.slice d a c]] w (Ok (mX w0 w p X (bZ D t))):=by
 have s:=P.gr.size;have m:∀n,X n->n<w.heap.size:=by obtain⟨o,u,v,x,q⟩:=P;exact q
 have y:=g.lt;exact P.call λo r e=>Bi (g.ah P.gr) r j k (λn b=>⟨(h n b).elim (λP=>oM) (m n),λi=>(h n b).elim (λP=>by have:=(e n i).1;omega) (e n i).2.2⟩) λn b=>by have:=(e n b).1;omega
def aR.jw(c:aR w0 w p D X)(j:pL w0):ZG 109 #[XL p] w (Ok λd w'=>∃P a b G,d= .tuple #[.agg #[.slice P a b],.bool (eU D).isSome]/\aO aJ 3 G w' P a b ((eU D).getD [])/\
  (∀n,G n->w.heap.size<=n)/\aR w0 w' p D (λn=>X n\/G n)/\ai w w'):=by
 have k:=c.gr;obtain⟨l,e,m⟩:=c;refine Calls.ok (Cx (j.ah k) e) ?_;rintro d w' ⟨P,a,b,G,rfl,f,g,h⟩;exact⟨P,a,b,G,rfl,f,h,aR.add ⟨l,e,m⟩ g λn i=>⟨h n i,f.aB n i⟩,g⟩
end
def LK{D:XN}{P bytes:Nat}(a:Row aJ bytes b D d P t):∀n∈t,aH n:=λn c=>by
 obtain⟨e,f⟩:=List.mem_iff_getElem?.1 c;obtain⟨i,g,j,-,-,-,-,h⟩:=a.el e n f;exact h.2
def CU{D:al}:((eU D).getD []).length<=64:=by
 unfold eU;split
 ·simp
 ·cases n:jw (D.read uY).1 with
  |none=>simp
  |some P=>exact(Np n).2
def tn:(lv==uY)=false:=by decide+kernel
def yz:jN:=⟨[(6,[(8,.slice none 0 0),(9,XH 0)])],[],[],[],[]⟩
def yA(a0:PC_ 146 #[.ii e] b (λa3 a4=>∃o,a3= .string o/\PC_ 162 #[.pointer d,.string o] a4 (λa5 p=>∃q k l r,a5= .tuple #[.slice q k l,.ii r]/\an (r !=0) (rt A ((.tuple #[.slice none 0 0,.ii 0])) p) ((∃m:Nat->ZH->Nat->Nat->Int->XU,(∃j,m j none 0 0 0 p)/\∀(j:Nat) (c:ZH) (f:Nat) (g:Nat) (a:Int) (c9:Nat->Value) (s:World),m j c f g a s->((0:Int)<=a/\(a:Int)<=(k:Int)/\PC_ 163 #[.slice (cH q (Int.toNat a) l 1) (k-Int.toNat a) (l-Int.toNat a)] s (λa6 h=>∃t u v w x y,a6= .tuple #[.agg #[.ii t,.slice u v w],.ii x,.ii y]/\PA h (.cells #[.ii 0,.slice none 0 0] 277) λa7=>PS a7 (ab_ h 0) (.ii t) λa8=>PS a8 (ab_ h (0+1)) (.slice u v w) λi=>an (y !=0) (rt A ((.tuple #[.slice c f g,.ii a])) i) ((rI i (ab_ h 0) λa9=>an (a9 !=1) (rt A ((.tuple #[.slice c f g,.ii a])) i) ((rS i (ab_ h (0+1)) λb0 b1 b2=>PC_ 231 #[.slice b0 b1 b2] i (λb3 n=>∃z B D C E G F H I J K L M,b3= .tuple #[.agg #[.ii z,.ii B,.ii D,.slice C E G,.ii F,.ii H,.ii I,.ii J,.ii K,.ii L],.ii M]/\PA n (.cells #[.ii 0,.ii 0,.ii 0,.slice none 0 0,.ii 0,.ii 0,.ii 0,.ii 0,.ii 0,.ii 0] 63) λb4=>PS b4 (ab_ n 0) (.ii z) λb5=>PS b5 (ab_ n (0+1)) (.ii B) λb6=>PS b6 (ab_ n (0+2)) (.ii D) λb7=>PS b7 (ab_ n (0+3)) (.slice C E G) λb8=>PS b8 (ab_ n (0+4)) (.ii F) λb9=>PS b9 (ab_ n (0+5)) (.ii H) λc0=>PS c0 (ab_ n (0+6)) (.ii I) λc1=>PS c1 (ab_ n (0+7)) (.ii J) λc2=>PS c2 (ab_ n (0+8)) (.ii K) λc3=>PS c3 (ab_ n (0+9)) (.ii L) λP=>an (M !=0) (rt A ((.tuple #[.slice c f g,.ii a])) P) ((∃N O Q R S T U V W X Y Z,P.cell? (ab_ n 0)=some (.ii N)/\P.cell? (ab_ n (0+1))=some (.ii O)/\P.cell? (ab_ n (0+2))=some (.ii Q)/\P.cell? (ab_ n (0+3))=some (.slice R S T)/\P.cell? (ab_ n (0+4))=some (.ii U)/\P.cell? (ab_ n (0+5))=some (.ii V)/\P.cell? (ab_ n (0+6))=some (.ii W)/\P.cell? (ab_ n (0+7))=some (.ii X)/\P.cell? (ab_ n (0+8))=some (.ii Y)/\P.cell? (ab_ n (0+9))=some (.ii Z)/\PA P (.cells #[.ii N,.ii O,.ii Q,.slice R S T,.ii U,.ii V,.ii W,.ii X,.ii Y,.ii Z] 63) λc4=>PR_ (ap_ 59 (.slice c f g) (.slice (some (ab_ P 0)) 1 1)) c4 (kS_ λc5 c6 c7 c8=>(∃a2,a2<j/\m a2 c5 c6 c7 (XG .i64 (a+x)) c8)) (pV A)))) (pE A)))))) (pE A))))) (pE A)) (pE A)):ZG 168 #[.pointer d,.ii e] b A:=DC yz Tryz.func168 rfl a0
end Go.Proofs.YtjgjkeponbeekaaGreatDoor
namespace Go.au
open Go
variable{J:List aj}{o:aj}
def qb(n:o.Ok)(P:o.aP.length<=64):fR o=(wy o,0):=by
 have c:=LJ n P;have a:iB o=(bJ (kp o),0):=by unfold iB;rw[Zq oM]
 have b:jK 1 (bJ (kp o))=(wy o,0):=by unfold jK wy;rw[Zq dC,Zq oM]
 unfold fR;rw[a];simp only;rw[b];simp
def xh(P:¬o.aP.length<=64):fR o=([],3):=by
 have n:iB o=([],3):=by unfold iB;rw[Zx oM]
 unfold fR;rw[n];simp
def ends(n:List aj):List Int:=(List.range n.length).map λP=>((dX (n.take (P+1))).length:Int)
def Pa(P:∀n∈J,n.Ok/\n.aP.length<=64):(dX J).length<=675*J.length:=by
 induction J with
 |nil=>simp[dX]
 |cons n J a=>
  rw[KN,QX,Xq];have d:=Iv (P n (QV ..)).1 (P n (QV ..)).2;have e:=a λb c=>P b (QJ _ c);omega
end Go.au
namespace Go.Proofs.YtjgjkeponbeekaaGreatDoor
open Go.au
end Go.Proofs.YtjgjkeponbeekaaGreatDoor
namespace Go.au
open Go
end Go.au
namespace Go.Proofs.YtjgjkeponbeekaaGreatDoor
section
open Go.au
variable{a c:Nat}{f:XN}{d:ZH}{j:Type}{b:World}{o:aj}
def CV{D:XN}(r:Laid b)(s:Row aJ 8 b D d a o.aP)(i:o.Ok)(t:∀P,D P->P<b.heap.size):
  ZG 205 #[.agg (aC o d a c).toArray] b (Ok λu j=>∃k l m p,u= .tuple #[.slice k l m,XH (fR o).2]/\aO fx 5 p j k l m (fR o).1/\ai b j/\∀P,p P->b.heap.size<=P):=by
 refine yp (PA.mk λC e E n=>?_);refine⟨_,_,_,_,_,_,_,_,_,_,_,_,ae n rfl,ae n rfl,ae n rfl,ae n rfl,ae n rfl,ae n rfl,ae n rfl,ae n rfl,ae n rfl,ae n rfl,
  PC.ok (MR (s.ah e) i λP h=>Qk (t P h) e.size) ?_⟩
 rintro _ v ⟨_,rfl,F,H,I,J,rfl,q,f,K⟩;refine⟨_,_,_,_,rfl,an.dF (λw=>?_) (λx=>?_)⟩
 ·rw[show fR o=([],(iB o).2) by unfold fR;rw[Zx w]]
  exact Ok.mk ⟨none,0,0,λ_=>False,rfl,aO.nil v,e.then f,λ_ g=>g.elim⟩
 rw[show fR o=jK 1 (iB o).1 by unfold fR;rw[Zq (by simpa using x)]];have L:(iB o).1.length<=666:=by
  by_cases g:64<o.aP.length
  ·simp[iB,g]
  ·have:=LJ i oM
   simpa[iB,g]using this
 refine PC.ok (Dp (r.ah (e.then f)).oL (q.row (bytes:=1) dC ba) q.aB) ?_;rintro _ M ⟨_,rfl,N,O,Q,y,rfl,z,A,B⟩;refine⟨_,_,_,_,rfl,Ok.mk ⟨_,_,_,y,rfl,z,(e.then f).then A,λP h=>?_⟩⟩;have:=B P h;have:=(e.then f).size;omega
def Qo{n:List j}(b:n.length=a)(P:Nat):(n.take a).drop P=n.drop P:=by rw[Qz oM]
def PU{D:al}{no:Int}(O:Laid b)(Q:aN b a f D)(hn:aH no):
  ZG 168 #[XL a,XH no] b (Ok λB d=>∃o p q G,B= .tuple #[.slice o p q,XH ((bR (D.read (cy (aA no))).1).2:Int)]/\
   aO uE 63 G d o p q (bR (D.read (cy (aA no))).1).1/\ai b d/\(∀P,G P->b.heap.size<=P)/\(bR (D.read (cy (aA no))).1).1.length<=262144):=by
 refine yA (PC.ok (je O hn) ?_);rintro _ w1 ⟨rfl,u⟩;refine⟨_,rfl,PC.ok (wG (Q.ah u)) ?_⟩;rintro _ r ⟨_,rfl,a4,R,c2,F2,rfl,l,C,c3⟩;have S:=Hz Q.ok (cy (aA no));have E:(D.read (cy (aA no))).2≠0->(D.read (cy (aA no))).1=[]:=by
  unfold al.read;split
  ·intro _;rfl
  ·split
   ·intro _;rfl
   ·intro h;exact Zz rfl h
 generalize D.read (cy (aA no))=rd at l S E;obtain⟨c,er⟩:=rd;simp only at l S E⊢;refine⟨_,_,_,_,rfl,an.dF (λk=>?_) (λhe=>?_)⟩
 ·rw[E k,It]
  exact Ok.mk ⟨none,0,0,λ_=>False,rfl,aO.nil r,u.then C,λ_ h=>h.elim,sM⟩
 have b2:=l.len dC;have b3:=l.jX;have a9:Row fx 1 r F2 a4 R c:=l.row dC ba;refine⟨λT v w y F d=>∃(n:Nat) (g:List aj) (G:XN),F=n/\n<=c.length/\T=c.length-n/\bR c=(g++(bR (c.drop n)).1,n+(bR (c.drop n)).2)/\g.length<=n/\
  aO uE 63 G d v w y g/\ai r d/\∀P,G P->r.heap.size<=P,⟨_,0,[],λ_=>False,rfl,Qj _,rfl,sM,sM,aO.nil r,ak.refl _,λ_ h=>h.elim⟩,?_⟩
 rintro T v w y _ _ U ⟨n,g,G,rfl,c5,rfl,V,c6,s,m,H⟩;refine⟨oM,oM,?_⟩;have W:ai b U:=(u.then C).then m;have X:=(a9.ah m).part (lo:=n) (hi:=R) (cap:=c2) oM (Q4 _) b3;rw[Qo b2.symm]at X;rw[Qx];refine PC.ok (Dq (O.ah W).oL X oM λP e=>by have:=l.aB P e;have:=m.size;omega) ?_;rintro _ I ⟨b0,n4,c4,F4,rfl,b4,z,c8⟩;have i:¬((bj (c.drop n)).no=0/\(bj (c.drop n)).kind=1/\(jf (bj (c.drop n)).body).2=0)->∀d,ai I d->
   Ok (λB d=>∃o p q G,B= .tuple #[.slice o p q,XH ((bR c).2:Int)]/\aO uE 63 G d o p q (bR c).1/\ai b d/\(∀P,G P->b.heap.size<=P)/\(bR c).1.length<=262144) (.returned (.tuple #[.slice v w y,XH (n:Int)])) d:=by
  intro h d Y;rw[V,By h];refine Ok.mk ⟨v,w,y,G,sM,by simpa using(s.ah z).ah Y,(W.then z).then Y,λP e=>?_,by simp;omega⟩;have:=H P e;have:=(u.then C).size;omega
 refine⟨_,_,_,_,_,_,rfl,PA.mk λw5 k5 s5 g5=>?_⟩;refine storeAll [XH (bj (c.drop n)).kind,.slice b0 n4 c4] g5 rfl λJ k6 s6 Z=>?_;have t:ai I J:=k5.new k6 λP e=>.inr oM;refine an.dF (λk=>i (λh=>k h.1) J t) (λa0=>?_);refine⟨_,ae Z rfl,an.dF (λk=>i (λh=>k h.2.1) J t) (λb1=>?_)⟩;obtain⟨b5,h9,c9⟩:=uJ a0;rw[XZ]at b5;have a1:=b4.ah t;refine⟨_,_,_,ae Z rfl,PC.ok (MS (a1.row (bytes:=1) dC ba) a1.aB) ?_⟩;rintro _ w7 ⟨a7,n7,c7,F7,rfl,K,k7,a3⟩;obtain⟨L,a5⟩:=Qp (bj (c.drop n)).body;generalize M:jf (bj (c.drop n)).body=b6 at K L a5;obtain⟨x,xe⟩:=b6;simp only at K L a5;refine⟨_,_,_,_,_,_,_,_,_,_,_,_,_,rfl,PA.mk λw8 k8 s8 g8=>?_⟩;refine storeAll (aC x a7 n7 c7) g8 rfl λA k9 s9 j=>?_;have a6:ai w7 A:=k8.new k9 λP e=>.inr oM;have a8:ai I A:=(t.then k7).then a6;refine an.dF (λk=>i (λh=>k (by have:=h.2.2;rw[M]at this;exact this)) A a8) (λb7=>?_);refine⟨_,_,_,_,_,_,_,_,_,_,_,_,ae j rfl,ae j rfl,ae j rfl,ae j rfl,ae j rfl,ae j rfl,ae j rfl,ae j rfl,ae j rfl,ae j rfl,?_⟩;have N:ai U A:=z.then a8;have b8:=s.ah N;have a2:=K.ah a6;have d0:=(z.then t).size;refine Mg b8 IL (x:=x) (D:=F7) ⟨a7,n7,c7,F7,rfl,a2,λ_ h=>h,L,by unfold aK;omega⟩ (λP e=>⟨a2.aB P e,λhc=>?_⟩) ba (by unfold maxLen;omega) λa' c' d1 F' b9 c0 c1 _=>?_
 ·have h1:=s.aB P (s.self P hc)
  have h2:=a3 P e;omega
 refine⟨_,_,_,rfl,_,?_,n+(bj (c.drop n)).n,g++[x],F',?_,oM,rfl,?_,by simp;omega,b9,?_,?_⟩
 ·omega
 ·rw[wrap_i64 bc];omega
 ·rw[V,Iu ⟨a0,b1,by rw[M];exact b7⟩,M,List.drop_drop]
  simp only[XQ,List.cons_append,List.nil_append,Nat.add_assoc]
 ·exact(m.then N).new c0 λP e=>.inr (H P (s.self P e))
 ·intro P e
  have hz:=(m.then N).size;have d2:=m.size;rcases c1 P e with h|h|h
  ·exact H P h
  ·have:=a3 P h;omega
  ·omega
end
section
open Go.au
variable{l:Array Value}{z:FuncId}{e:Int}{d3:Int×al}{t:List Int}{a c:Nat}{f:XN}{d:ZH}{b:World}
def bA{D:XN}(h:Row aJ 8 b D d a t)(f:∀n,D n->n<b.heap.size):
  ZG 92 #[.slice d a c] b (Ok (px aJ 3 b t)):=by
 have x:=h.len;have P:=h.dP;refine nR (jM tO.under ⟨_,rfl,an.mk (λe=>?_) (λe=>PA.mk λj g y k=>?_)⟩)
 ·have:t=[]:=by
   cases d with
   |none=>
    cases t with
    |nil=>rfl
    |cons l z=>obtain⟨n,m,A,o,_⟩:=h.el 0 l rfl;cases o
   |some p=>cases e
  subst this;exact Ok.mk ⟨none,0,0,λ_=>False,rfl,aO.nil b,ak.refl _,λ_ h=>h.elim⟩
 ·cases d with
  |none=>cases e
  |some p=>
   have q:aO aJ 3 (·=b.heap.size) j (XM b.heap.size) 0 0 []:=
    ⟨⟨[],λ_=>False,Own.zq (cur:= #[]) k rfl (Qj _),rfl,λ_ h=>h.elim⟩,λn P=>by simpa[aF]using P.symm,λn P=>oM⟩
   refine ko q tO (D:=D) (h.ah g) (λn P=>⟨by have:=f n P;omega,by have:=f n P;simp only[aF];intro r;cases r;omega⟩) be (by unfold aK at P;unfold maxLen;simp;omega) λi s B C u v _ w=>?_;refine⟨_,_,_,rfl,Ok.mk ⟨i,_,s,λn=>aF i=some n,rfl,by have h:=u.alone;rw[List.nil_append]at h;exact h,g.new v λn P=>.inr ?_,λn P=>?_⟩⟩
   ·simp only[aF,Q1]at P;omega
   ·rcases w n P with h|h<;>omega
def ic(n:Int)(P:ByteArray):Int:=if(lP P).2 then max n ((lP P).1+1)else n
def xz(n:List ByteArray):Int:=n.foldl ic 1
def AU(D:al):Int:=xz D.list
def Dz(n:ByteArray):0<=(lP n).1/\(lP n).1<1000000000000:=by
 unfold lP;split
 ·rename_i a P
  have:=(Be P).2;simp;omega
 ·simp
def FC(P:1<=e/\e<=1000000000000)(n:ByteArray):1<=ic e n/\ic e n<=1000000000000:=by
 have:=Dz n;unfold ic;split<;>omega
def HG:∀(P:List ByteArray) (n:Int),(1<=n/\n<=1000000000000)->1<=P.foldl ic n/\P.foldl ic n<=1000000000000
 |[],n,a=>a
 |s::P,n,a=>HG P _ (FC a s)
def DA(n:List ByteArray):1<=xz n/\xz n<=1000000000000:=HG n 1 oM
def HH{D:al}(s:Laid b)(h:aN b a f D):
  ZG 108 #[XL a] b (Ok λt d=>t= XH (AU D)/\ai b d):=by
 refine Cd (PC.ok (wH h) ?_);rintro _ i ⟨u,c,z,G,rfl,j,k,A⟩;have B:D.list.length<=64:=by rw[nJ];exact h.ok.many
 have C:=j.len dC;have v:Row MM 16 i G u c D.list:=j.row dC ba;refine⟨_,_,_,rfl,λl m o d=>∃n:Nat,o=n/\n<=c/\l=c-n/\m=xz (D.list.take n)/\ai i d,⟨_,0,rfl,Qj _,rfl,rfl,ak.refl _⟩,?_⟩;rintro l m o _ E ⟨n,rfl,F,rfl,rfl,P⟩;refine an.dec (λH=>?_) (λI=>?_)
 ·obtain⟨w,e,p,rfl,x,_,y⟩:=(v.ah P).mr (i:=n) oM
  refine⟨w,e,rfl,oM,oM,_,y,PC.ok (Aa (s.ah (k.then P))) ?_⟩;rintro _ J ⟨rfl,q⟩;have K:=Dz p;have L:=DA (D.list.take n);have r:xz (D.list.take (n+1))=ic (xz (D.list.take n)) p:=by
   unfold xz;rw[Qw,x,List.foldl_append];rfl
  refine⟨_,_,rfl,an.mk (λg=>⟨_,?_,n+1,aq oM,oM,rfl,?_,P.then q⟩) (λg=>⟨_,?_,n+1,aq oM,oM,rfl,?_,P.then q⟩)⟩
  ·omega
  ·rw[r,wrap_i64 bc]
   unfold ic;rw[Zx g];split<;>omega
  ·omega
  ·rw[r];unfold ic;rw[Zq (by simp[g])]
 ·obtain rfl:n=c:=oM
  rw[Qz oM];exact Ok.mk ⟨rfl,k.then P⟩
structure eu where
 size:Int
 bI:List Int
 bytes:Int
 next:Int
structure iA (w:World) (p q:Nat) (G:XN) (V:eu):Prop where
 body:∃a n c E,w.heap[q]? =some (.cells #[XL p,XH V.size,.slice a n c,XH V.bytes,XH V.next] 209 (0,0))/\aO aJ 3 E w a n c V.bI/\∀b,E b->G b/\b≠q
 self:G q
 aB:∀b,G b->b<w.heap.size
 many:V.bI.length<=64
 Aw:aH V.next
section
variable {w0 w w1 w':World} {p q:Nat} {D D':al} {V V':eu} {X Y G S:XN}
def iA.af(P:iA w p q G V)(a:ak S w w')(c:∀n,G n->¬S n):iA w' p q G V:=by
 obtain⟨e,f,g,h,i,j,d⟩:=P.body;exact⟨⟨e,f,g,h,a.get i (c q P.self),j.af a λn b=>c n (d n b).1,d⟩,P.self,λn b=>Qk (P.aB n b) a.size,P.many,P.Aw⟩
def iA.ah(n:iA w p q G V)(P:ai w w'):iA w' p q G V:=n.af P λ_ _ n=>n
def bX(w0 w:World)(p q:Nat)(V:eu)(D:al)(X:XN):Prop:=∃G,aR w0 w p D (λn=>X n\/G n)/\iA w p q G V/\∀n,G n->w0.heap.size<=n/\¬X n
def bX.gr(n:bX w0 w p q V D X):ai w0 w:=by obtain⟨G,P,a,b⟩:=n;exact P.gr
def bX.ok(n:bX w0 w p q V D X):D.Ok:=by obtain⟨G,P,a,b⟩:=n;exact P.ok
def bX.many(n:bX w0 w p q V D X):V.bI.length<=64:=by obtain⟨G,a,P,b⟩:=n;exact P.many
def bX.Aw(n:bX w0 w p q V D X):aH V.next:=by obtain⟨G,a,P,b⟩:=n;exact P.Aw
def bX.aB(P:bX w0 w p q V D X):∀n,X n->n<w.heap.size:=by obtain⟨G,⟨c,d,e,f,a⟩,g,h⟩:=P;exact λn b=>a n (.inl b)
def bX.Ww(P:bX w0 w p q V D X):q<w.heap.size/\w0.heap.size<=q/\¬X q:=by obtain⟨G,b,n,a⟩:=P;exact⟨n.aB q n.self,a q n.self⟩
def bX.uL(n:bX w0 w p q V D X):aR w0 w p D X:=by obtain⟨G,P,b,c⟩:=n;exact P.mono λd a=>.inl a
def bX.ah(P:bX w0 w p q V D X)(n:ai w w'):bX w0 w' p q V D X:=by
 obtain⟨G,a,b,c⟩:=P;exact⟨G,a.ah n,b.ah n,c⟩
def bX.mono(c:bX w0 w p q V D X)(a:∀n,Y n->X n):bX w0 w p q V D Y:=by
 obtain⟨G,d,e,b⟩:=c;exact⟨G,d.mono λn P=>P.imp (a n) id,e,λn P=>⟨(b n P).1,λf=>(b n P).2 (a n f)⟩⟩
def bX.add(e:bX w0 w p q V D X)(a:ai w w')(b:∀n,Y n->w.heap.size<=n/\n<w'.heap.size):bX w0 w' p q V D (λn=>X n\/Y n):=by
 obtain⟨G,f,c,d⟩:=e;refine⟨G,(f.add a b).mono λn P=>?_,c.ah a,λn P=>⟨(d n P).1,λg=>g.elim (d n P).2 λh=>by have:=c.aB n P;have:=(b n h).1;omega⟩⟩;rcases P with(P|P)|P
 ·exact .inl (.inl P)
 ·exact .inr P
 ·exact .inl (.inr P)
def bX.other(f:bX w0 w p q V D X)(a:ak Y w w')(b:∀n,Y n->X n/\w0.heap.size<=n):bX w0 w' p q V D X:=by
 obtain⟨G,⟨g,h,i,d,j⟩,k,e⟩:=f;exact⟨G,⟨g,h.af a λn P c=>(d n P).2 (.inl (b n c).1),i.new a λn P=>.inr (b n P).2,d,λn P=>Qk (j n P) a.size⟩,k.af a λn P c=>(e n P).2 (b n c).1,e⟩
def bX.on(d:bX w0 w p q V D X)(e:∀a,(∀n,X n->a n)->aR w0 w p D a->ZG z l w (Ok (mX w0 w p a d3))):ZG z l w (Ok λb w'=>b= XH d3.1/\bX w0 w' p q V d3.2 X/\ak (di X) w w'):=by
 obtain⟨G,f,g,h⟩:=d;refine Calls.ok (e _ (λn P=>.inl P) f) ?_;rintro b w' ⟨i,j,c⟩;exact⟨i,⟨G,j,g.af c λn P k=>k (.inr P),h⟩,c.mono λn _ P m=>P (.inl m)⟩
def eu.last(V:eu):ByteArray:=cy (aA (V.bI.getLast?.getD 0))
def iA.row(d:iA w p q G V):∃P n b a,w.heap[q]? =some (.cells #[XL p,XH V.size,.slice P n b,XH V.bytes,XH V.next] 209 (0,0))/\Row aJ 8 w a P n V.bI/\(∀c,a c->G c/\c≠q)/\n=V.bI.length:=by
 obtain⟨P,n,b,a,f,e,g⟩:=d.body;have:=d.many;exact⟨P,n,b,a,f,e.row dC ba,g,e.len dC⟩
def HI(d:Laid w)(b:iA w p q G V)(e:V.bI≠[]):ZG 206 #[XL q] w (Ok λf w'=>f= .string V.last/\ai w w'):=by
 obtain⟨u,P,v,x,g,h,y,i⟩:=b.row;have z:0<V.bI.length:=List.length_pos_iff.2 e;have A:=b.many;refine ue λw1 j=>?_;have n:ai w w1:=j.af;have c:=n.get g id;have k:XG .i64 ((P:Int)-1)=((P-1:Nat):Int):=by rw[wrap_i64 bc];omega
 obtain⟨l,a,m,rfl,o,r,s⟩:=(h.ah n).mr (i:=P-1) oM;refine⟨q,0,rfl,_,_,_,ae c rfl,q,0,rfl,_,_,_,ae c rfl,l,a,rfl,?_⟩;rw[k];refine⟨oM,oM,m,s,PC.ok (je (d.ah n) r) ?_⟩;rintro _ B ⟨rfl,t⟩;refine⟨_,rfl,Ok.mk ⟨?_,n.then t⟩⟩;unfold eu.last;rw[List.getLast?_eq_getElem?,<-i,o];rfl
def HJ(i:Laid w0)(f:bX w0 w p q V D X)(j:V.bI≠[]):ZG 135 #[XL q] w (Ok λk w'=>k= XH (D.sync V.last).1/\bX w0 w' p q V (D.sync V.last).2 X/\ak (di X) w w'):=by
 refine ub λw1 l=>?_;have c:ai w w1:=l.af;have m:=f.ah c;obtain⟨G,o,n,g⟩:=m;obtain⟨y,z,A,B,r,C,E,h⟩:=n.row;have F:=g q n.self;have H:=n.aB q n.self;refine⟨λa=>a≠q/\¬X a,q,0,rfl,λs=>s.1 rfl,_,ae r rfl,PC.ok (HI (i.ah (f.gr.then c)) n j) ?_⟩;rintro _ I ⟨rfl,b⟩;have t:=n.ah b;have u:=o.ah b;refine⟨_,rfl,b.af,PC.ok u.sync ?_⟩;rintro _ J ⟨rfl,v,d⟩;refine⟨_,rfl,d.mono λa _ P=>⟨λx=>P (.inr (x▸n.self)),λe=>P (.inl e)⟩,Ok.mk ⟨rfl,⟨G,v,t.af d λa P h=>h (.inr P),g⟩,?_⟩⟩;exact(ai.af (c.then b)).then (d.mono λa _ P e=>P (.inl e))
def EP(n:iA w p q G V):ZG 145 #[XL q] w (Ok (px aJ 3 w V.bI)):=by
 obtain⟨i,j,k,l,a,b,c,m⟩:=n.row;refine oW ⟨q,0,rfl,_,_,_,ae a rfl,PC.ok (bA b λP d=>n.aB P (c P d).1) ?_⟩;rintro _ w1 ⟨o,r,s,e,rfl,f,g,h⟩;exact⟨_,_,_,rfl,Ok.mk ⟨_,_,_,e,rfl,f,g,h⟩⟩
def O_(n:iA w p q G V):ZG 144 #[XL q] w (Ok λP w'=>P= XH V.next/\w=w'):=by
 obtain⟨b,c,d,e,a,f,g,h⟩:=n.row;exact ud ⟨q,0,rfl,_,ae a rfl,Ok.mk ⟨rfl,rfl⟩⟩
end
end
end Go.Proofs.YtjgjkeponbeekaaGreatDoor
namespace Go.au
open Go
def oF(n:Int×Int):Value:=.agg #[XH n.1,XH n.2]
def BK(n:Int×Int×Int):Value:=.agg #[XH n.1,XH n.2.1,XH n.2.2]
structure IQ (P:Program) (t ti:TypeId):Prop where
 hu:P.underlying t=some (.struct (P.fieldsOf t))
 ui:P.underlying ti=some (.int .i64)
 hf:∃n1 n2,(P.fieldsOf t).toList.map (λf=>(f.name,f.type,f.offset))=[(n1,ti,0),(n2,ti,1)]/\n1≠ "_"/\n2≠ "_"
 hp:P.stoodInHeld t=false
 hm:P.eqGuardType P.depth t=false
 ag:tx P ti=false
variable{N b9 e r:Int}{T X:Operand}{m s:XR}{b:World}
section
variable {P:Program} {t ti:TypeId}
def IQ.equalIn(a:IQ P t ti)(e:Nat)(b c:Int×Int)(d:World):(Op.equalIn (e+2) t (oF b) (oF c)).run P d= .ok (b==c) d:=by
 obtain⟨v,w,n,f,g⟩:=a.hf;unfold oF;rw[run_equalIn_struct d (e+1) _ _ _ a.hu a.hp];generalize(P.fieldsOf t).toList=h at n
 match h,n with
 |[x,y],n=>
  simp only[QY,List.map_nil,List.cons.injEq,Prod.mk.injEq,and_true]at n;obtain⟨⟨i,j,k⟩,l,m,o⟩:=n;have p:(isAgg ti).run P d= .ok false d:=cI _ _ _ a.ag ⟨_,a.ui⟩ d;have q:=run_equalIn_int (P:=P) d e ti .i64 .i64 b.1 c.1 a.ui;have r:=run_equalIn_int (P:=P) d e ti .i64 .i64 b.2 c.2 a.ui;unfold Op.eqFields Op.eqFields Op.eqFields;rw[i,j,k,l,m,o];have s:(b==c)=(b.1==c.1&&b.2==c.2):=rfl;rw[s]
  cases a:b.1==c.1<;>simp[part,p,q,r,a,f,g]
  by_cases u:b.2=c.2<;>simp[u]
 |[],n=>simp at n
 |[_],n=>simp at n
 |_::_::_::_,n=>simp at n
def IQ.eql(n:IQ P t ti)(a:m (.bool (e==N&&r==b9)) b):
  aG P (do eqGuard .eql t T X (.agg #[XH e,XH r]) (.agg #[XH N,XH b9]);binOp .eql t (.agg #[XH e,XH r]) (.agg #[XH N,XH b9]):Sem Value) b m s:=by
 refine aG.mk (v:=.bool (e==N&&r==b9)) ?_ a;rw[Sem.run_bind,run_eqGuard_agg b .eql _ T X _ _ n.hm,Result.andThen_ok,run_eql_struct];have:=n.equalIn 9998 (e,r) (N,b9) b;unfold oF at this;rw[this];rfl
def IQ.neq(n:IQ P t ti)(a:m (.bool (!(e==N&&r==b9))) b):
  aG P (do eqGuard .neq t T X (.agg #[XH e,XH r]) (.agg #[XH N,XH b9]);binOp .neq t (.agg #[XH e,XH r]) (.agg #[XH N,XH b9]):Sem Value) b m s:=by
 refine aG.mk (v:=.bool (!(e==N&&r==b9))) ?_ a;rw[Sem.run_bind,run_eqGuard_agg b .neq _ T X _ _ n.hm,Result.andThen_ok,run_neq_struct];have:=n.equalIn 9998 (e,r) (N,b9) b;unfold oF at this;rw[this];rfl
def IQ.check(b:IQ P t ti)(d:Nat)(g:Int×Int)(a:World)(e:Bool):(Instr.checkKey e (d+2) t (oF g)).run P a= .ok () a:=by
 obtain⟨u,v,n,h,i⟩:=b.hf;have j:(isAgg ti).run P a= .ok false a:=cI _ _ _ b.ag ⟨_,b.ui⟩ a;have k:∀f:Int,(Instr.checkKey e (d+1) ti (XH f)).run P a= .ok () a:=λf=>by simp[Instr.checkKey,run_underlying b.ui]
 unfold oF;have l:=b.hu;unfold Instr.checkKey;rw[Sem.run_bind,run_underlying l,Result.andThen_ok];generalize w:P.fieldsOf t=c at n;obtain⟨c⟩:=c
 match c,n with
 |[x,y],n=>
  simp only[QY,List.map_nil,List.cons.injEq,Prod.mk.injEq,and_true]at n;obtain⟨⟨m,o,p⟩,q,r,s⟩:=n;simp[m,o,p,q,r,s,part,j,k,h,i]
 |[],n=>simp at n
 |[_],n=>simp at n
 |_::_::_::_,n=>simp at n
def IQ.key(n:IQ P t ti):im P t oF:=
 im.struct n.hu (λa b=>rfl) (λa b c=>n.equalIn 9998 a b c) (λd c e=>n.check 9998 d c e) (λf a=>by unfold oF;simp[Instr.sameBits]) λ{a b} n=>by
  unfold oF at n;simp only[Value.agg.injEq,Array.mk.injEq,List.cons.injEq,Value.int.injEq,and_true,true_and]at n;exact Prod.ext n.1 n.2
structure vw (P:Program) (t t2 ti:TypeId):Prop where
 two:IQ P t2 ti
 hu:P.underlying t=some (.struct (P.fieldsOf t))
 hf:∃n1 n2,(P.fieldsOf t).toList.map (λf=>(f.name,f.type,f.offset))=[(n1,t2,0),(n2,ti,2)]/\n1≠ "_"/\n2≠ "_"
 hp:P.stoodInHeld t=false
 ag:tx P t2=true
 sz:(P.info? t2).map (·.size)=some 2
variable {t2:TypeId}
def vw.QF(b:vw P t t2 ti)(a:Int×Int×Int)(n:World):(part t2 #[XH a.1,XH a.2.1,XH a.2.2] 0).run P n= .ok (oF (a.1,a.2.1)) n:=by
 obtain⟨g,c,d⟩:=Option.map_eq_some_iff.1 b.sz;have e:(isAgg t2).run P n= .ok true n:=cI _ _ _ b.ag ⟨_,b.two.hu⟩ n;have f:(sizeOf t2).run P n= .ok 2 n:=by simp[sizeOf,typeInfo,c,d]
 unfold part;simp[e,f,oF]
def vw.equalIn(d:vw P t t2 ti)(f:Nat)(n a:Int×Int×Int)(b:World):(Op.equalIn (f+3) t (BK n) (BK a)).run P b= .ok (n==a) b:=by
 obtain⟨A,B,c,h,i⟩:=d.hf;have j:=d.QF n b;have k:=d.QF a b;have g:=d.two.equalIn f (n.1,n.2.1) (a.1,a.2.1) b;have m:=run_equalIn_int (P:=P) b (f+1) ti .i64 .i64 n.2.2 a.2.2 d.two.ui;have o:(isAgg ti).run P b= .ok false b:=cI _ _ _ d.two.ag ⟨_,d.two.ui⟩ b;unfold BK;rw[run_equalIn_struct b (f+2) _ _ _ d.hu d.hp];generalize(P.fieldsOf t).toList=p at c
 match p,c with
 |[C,E],c=>
  simp only[QY,List.map_nil,List.cons.injEq,Prod.mk.injEq,and_true]at c;obtain⟨⟨q,r,s⟩,u,v,w⟩:=c;unfold Op.eqFields Op.eqFields Op.eqFields;rw[q,r,s,u,v,w];have x:(n==a)=(((n.1,n.2.1):Int×Int)==(a.1,a.2.1)&&n.2.2==a.2.2):=by
   show(n.1==a.1&&(n.2.1==a.2.1&&n.2.2==a.2.2))=((n.1==a.1&&n.2.1==a.2.1)&&n.2.2==a.2.2);rw[Bool.and_assoc]
  rw[x];have y:∀e:Int×Int×Int,(part ti #[XH e.1,XH e.2.1,XH e.2.2] 2).run P b= .ok (XH e.2.2) b:=λe=>by simp[part,o]
  cases l:((n.1,n.2.1):Int×Int)==(a.1,a.2.1)with
  |false=>
   rw[l]at g;simp[j,k,g,h,i]
  |true=>
   rw[l]at g;simp[j,k,g,m,y,h,i]
   by_cases z:n.2.2=a.2.2<;>simp[z]
 |[],c=>simp at c
 |[_],c=>simp at c
 |_::_::_::_,c=>simp at c
def vw.check(c:vw P t t2 ti)(d:Nat)(b:Int×Int×Int)(n:World)(e:Bool):(Instr.checkKey e (d+3) t (BK b)).run P n= .ok () n:=by
 obtain⟨x,y,a,h,i⟩:=c.hf;have j:=c.QF b n;have k:(isAgg ti).run P n= .ok false n:=cI _ _ _ c.two.ag ⟨_,c.two.ui⟩ n;have l:∀g:Int,(Instr.checkKey e (d+2) ti (XH g)).run P n= .ok () n:=λg=>by simp[Instr.checkKey,run_underlying c.two.ui]
 have m:=c.two.check d (b.1,b.2.1) n e;have o:(part ti #[XH b.1,XH b.2.1,XH b.2.2] 2).run P n= .ok (XH b.2.2) n:=by simp[part,k]
 unfold BK;have p:=c.hu;rw[show d+3=(d+2)+1 from rfl];unfold Instr.checkKey;rw[Sem.run_bind,run_underlying p,Result.andThen_ok];generalize z:P.fieldsOf t=f at a;obtain⟨f⟩:=f
 match f,a with
 |[A,B],a=>
  simp only[QY,List.map_nil,List.cons.injEq,Prod.mk.injEq,and_true]at a;obtain⟨⟨q,r,s⟩,u,v,w⟩:=a;simp[q,r,s,u,v,w,j,o,m,l,h,i]
 |[],a=>simp at a
 |[_],a=>simp at a
 |_::_::_::_,a=>simp at a
def vw.key(n:vw P t t2 ti):im P t BK:=
 im.struct n.hu (λa b=>rfl) (λa b c=>n.equalIn 9997 a b c) (λd c e=>n.check 9997 d c e) (λf a=>by unfold BK;simp[Instr.sameBits]) λ{a b} n=>by
  unfold BK at n;simp only[Value.agg.injEq,Array.mk.injEq,List.cons.injEq,Value.int.injEq,and_true,true_and]at n;exact Prod.ext n.1 (Prod.ext n.2.1 n.2.2)
end
end Go.au
namespace Go.Proofs.YtjgjkeponbeekaaGreatDoor
open Go.au
abbrev DT:Int×Int->Value:=oF
def KY:IQ XP 46 3:=⟨kR,kR,⟨ "Origin", "Seq",kR,dC,dC⟩,kR,kR,kR⟩
def Vy:im XP 46 DT:=KY.key
abbrev rm:aj:=⟨0,0,0,[],0,0,0,0,0,0⟩
abbrev jD(n:aj)(P:ZH)(a b:Nat):Value:=.agg (aC n P a b).toArray
def Qr:lH XP 182 46 63 (jD rm none 0 0):=⟨kR,kR⟩
def jV{c:World}{D:XN}:∀{n:List Int} {cs:List Value},bD aJ c D n cs↔cs=ints n/\∀x∈n,aH x
 |[],cs=>by simp[bD,ints]
 |x::n,cs=>by
  constructor
  ·rintro⟨g,h,rfl,⟨rfl,d⟩,e⟩
   obtain⟨rfl,f⟩:=jV.1 e;exact⟨rfl,λa P=>by rcases Q2.1 P with rfl|P;exact d;exact f a P⟩
  ·rintro⟨rfl,b⟩
   exact⟨[XH x],ints n,rfl,⟨rfl,b x (QV ..)⟩,jV.2 ⟨rfl,λa P=>b a (QJ _ P)⟩⟩
variable{e:Int}{t:List Int}{E a c i p:Nat}{f:XN}{d:ZH}{g:TypeId}{v:Value}{b k:World}{y:XU}{o:aj}
def Qs(P:aO aJ g f b d a c t)(m:i<t.length)(o:aH e)(q:d=some ⟨p,E,none⟩)(h:∀n,aO aJ g f n d a c (t.set i e)->ak (λp=>aF d=some p) b n->n.heap.size=b.heap.size->y n):PS b ⟨p,E+i,none⟩ (XH e) y:=by
 obtain⟨cs,D,r,s,u⟩:=P.body;obtain⟨rfl,j⟩:=jV.1 s;refine r.set (m:=i) (by rw[iW];exact m) q λn v w l=>h n ⟨⟨_,D,v,jV.2 ⟨?_,?_⟩,u⟩,P.self,λp j=>by rw[l];exact P.aB p j⟩ w l
 ·unfold ints;rw[List.map_set]
 ·intro x k
  rcases List.mem_or_eq_of_mem_set k with k|rfl
  ·exact j x k
  ·exact o
def Sl(b:World)(D:XN)(c:Value)(n:aj):Prop:=∃P a d,c=jD n P a d/\Row aJ 8 b D P a n.aP/\n.Ok
def Sl.af{S D:XN}(P:Sl b D v o)(a:ak S b k)(c:∀n,D n->¬S n):Sl k D v o:=by
 obtain⟨d,e,f,g,h,i⟩:=P;exact⟨d,e,f,g,h.af a c,i⟩
def Sl.mono{D n:XN}(a:Sl b D v o)(c:∀P,D P->n P):Sl b n v o:=by
 obtain⟨d,e,f,g,h,i⟩:=a;exact⟨d,e,f,g,h.mono c,i⟩
def Bt:rm.Ok:=by constructor<;>simp[aH]
def mq{D:XN}(h:Row aJ 8 b D d a o.aP)(u:∀n,D n->n<b.heap.size):
  ZG 115 #[jD o d a c] b (Ok λv i=>∃d a c G,v=jD o d a c/\Row aJ 8 i G d a o.aP/\(∀n,G n->b.heap.size<=n/\n<i.heap.size)/\ai b i):=by
 have w:=h.dP;have x:=h.len;refine yl (PA.mk λA m B e=>PA.mk λC f E j=>⟨_,_,_,ae (f.get e id) rfl,PC.ok (bA (h.ah (m.then f)) λn P=>by have:=u n P;omega) ?_⟩);rintro _ F ⟨p,q,r,G,rfl,s,g,k⟩;have e:=g.get (f.get e id) id;have j:=g.get j id;refine⟨_,_,_,rfl,PS.mk e (by simp[aC]) λH l I y=>?_⟩;refine ar (cs:=aC o p q r) (aV _ _ _ _) y (az (aV _ _ _ _) (l.get j oM) rfl λJ t K z=>ar (aV _ _ _ _) z (Ok.mk ⟨p,q,r,G,rfl,?_,?_,?_⟩))
 ·refine(((s.af l λn P=>?_).af t λn P=>?_).row (bytes:=8) dC (by rw[<-x];exact w))
  ·have:=k n P;omega
  ·have:=k n P;omega
 ·intro n P
  have:=k n P;have:=s.aB n P;omega
 ·have L:=g.size
  exact((ak.new ((m.then f).then g) l λn P=>.inr oM).new t λn P=>.inr oM)
structure Qt where
 a:ZH
 n:Nat
 c:Nat
 r:Nat
 V:XN
 D:XN
 l:List ((Int×Int)×Value)
 L:List ((Int×Int)×aj)
structure qM (w:World) (p:Nat) (F:XN) (S:aw) (q:Qt):Prop where
 at':w.heap[p]? =some (.cells #[.slice q.a q.n q.c,.map (some q.r),XH S.top] 184 (0,0))
 vec:aO aJ 3 q.V w q.a q.n q.c S.vec
 map:bB w q.r DT q.l
 rel:eW (Sl w q.D) q.l q.L
 key:∀x∈q.L,x.1=aW x.2
 Vj:(q.L.map (·.2)).Perm S.l
 aB:∀b,F b->b<w.heap.size
 sub:∀b,b=p\/b=q.r\/q.V b\/q.D b->F b
 Vk:p≠q.r
 Up:¬q.V p/\¬q.V q.r
 Vl:¬q.D p/\¬q.D q.r
 WA:∀b,q.V b->¬q.D b
def cf(P:World)(a:Nat)(b:XN)(n:aw):Prop:=n.OK/\∃c,qM P a b n c
section
variable {w w' w1:World} {p:Nat} {F T:XN} {S:aw} {q:Qt}
def qM.af(n:qM w p F S q)(a:ak T w w')(c:∀P,F P->¬T P):qM w' p F S q:=
 ⟨a.get n.at' (c p (n.sub p (.inl rfl))),n.vec.af a λP b=>c P (n.sub P (.inr (.inr (.inl b)))),n.map.af a (c _ (n.sub _ (.inr (.inl rfl)))),
  n.rel.mono λe f d=>d.af a λP b=>c P (n.sub P (.inr (.inr (.inr b)))),n.key,n.Vj,λP b=>Qk (n.aB P b) a.size,n.sub,n.Vk,n.Up,n.Vl,n.WA⟩
def qM.ah(n:qM w p F S q)(P:ai w w'):qM w' p F S q:=n.af P λ_ _ n=>n
def cf.af(n:cf w p F S)(a:ak T w w')(b:∀P,F P->¬T P):cf w' p F S:=⟨n.1,n.2.imp λq c=>c.af a b⟩
def cf.ah(n:cf w p F S)(P:ai w w'):cf w' p F S:=n.af P λ_ _ n=>n
def cf.aB(P:cf w p F S):∀n,F n->n<w.heap.size:=P.2.elim λq a=>a.aB
def qM.tidy(n:qM w p F S q):Tidy q.L:=by
 have:=n.map.tidy;unfold Tidy at*;rw[<-n.rel.keys];exact this
def qM.len(n:qM w p F S q):q.n=S.n:=by rw[n.vec.len dC,S.bM]
def qM.Vm(n:qM w p F S q)(P:S.OK):Row aJ 8 w q.V q.a q.n S.vec:=n.vec.row dC (by rw[S.bM];have:=P.n;unfold aK;omega)
def qM.look(P:qM w p F S q)(c:S.OK)(n:Int×Int):(aE q.l n=none/\S.get n=none)\/∃a b,aE q.l n=some a/\S.get n=some b/\Sl w q.D a b:=by
 rw[<-Ix c P.key P.Vj P.tidy n];exact P.rel.aE n
def nx(n:cf w p F S):ZG 58 #[XL p] w (Ok (px aJ 3 w S.vec)):=by
 obtain⟨P,q,n⟩:=n;refine vR ⟨p,0,rfl,_,_,_,ae n.at' rfl,PC.ok (bA (n.Vm P) λa b=>n.vec.aB a b) ?_⟩;rintro _ i ⟨c,d,e,G,rfl,f,g,h⟩;exact⟨_,_,_,rfl,Ok.mk ⟨c,d,e,G,rfl,f,g,h⟩⟩
def FZ(n:cf w p F S):ZG 133 #[XL p] w (Ok λP w'=>P= XH S.top/\w=w'):=by
 obtain⟨a,q,n⟩:=n;exact vU ⟨p,0,rfl,_,ae n.at' rfl,Ok.mk ⟨rfl,rfl⟩⟩
def Qu(r:cf w p F S){P:aj}{D:XN}(s:Row aJ 8 w D d a P.aP)(he:P.Ok)(hn:P.aP.length=S.n){o:Nat}(ho:o<S.n):
  ZG 114 #[XL p,jD P d a c,XH (o:Int)] w (Ok λk w'=>k= .bool (S.lI P o)/\ai w w'):=by
 obtain⟨t,q,r⟩:=r;have b1:=s.len;have hN:=t.n;refine uc (PA.mk λw1 j s1 L=>?_);have Z:=s.ah j;obtain⟨u,v,g,ha,hx,-,hc⟩:=Z.mr (i:=o) oM;have M:P.aP.getD o 0=g:=by rw[QQ,hx];rfl
 refine⟨_,_,_,ae L rfl,u,v,ha,oM,oM,g,hc,an.dE (λx=>Ok.mk ⟨?_,j⟩) (λx=>?_)⟩
 ·unfold aw.lI;simp only[M,x];rfl
 have y:=r.ah j;have e:∀{z:Bool} {w':World},ai w w'->(match S.get (o,g)with
  |none=>false
  |some b=>decide (b.ay<P.ay)&&(List.range b.aP.length).all λi=>decide (b.aP.getD i 0<=P.aP.getD i 0))=z->Ok (λk w'=>k= .bool (S.lI P o)/\ai w w') (.returned (.bool z)) w':=λ{z w'} hg hy=>by
  refine Ok.mk ⟨?_,hg⟩;unfold aw.lI;simp only[M];rw[<-hy,show(g==0)=false by simpa using x]
  rfl
 refine⟨p,0,rfl,_,ae y.at' rfl,iJ (enc:=DT) (k:=((o:Int),g)) Qr Vy y.map ?_⟩;rcases y.look t (o,g)with⟨A,h⟩|⟨k,b,A,h,N,l,O,rfl,a0,b2⟩
 ·rw[A]
  refine bO (rk rm none 0 0) ⟨_,rfl,PA.mk λw2 B s2 C=>az (aV rm none 0 0) C rfl λE H s3 I=>an.tt rfl (e (j.then ((B.then (ak.refl _)).new H λu hb=>.inr oM)) ?_)⟩;rw[h]
 ·rw[A]
  refine bO (rk b N l O) ⟨_,rfl,PA.mk λw2 B s2 C=>az (aV b N l O) C rfl λE H s3 I=>an.ff rfl ?_⟩;have J:ai w1 E:=(B.then (ak.refl _)).new H λu hb=>.inr oM;have m:=j.then J;have Q:=J.get L id;have a1:=aw.get_some h;have b3:b.aP.length=S.n:=by have:=qR (t.VK b a1.1);omega
  refine⟨_,ae I rfl,_,ae Q rfl,an.dec (λhl=>e m ?_) (λhl=>?_)⟩
  ·rw[h]
   simp only[Bool.and_eq_false_iff,decide_eq_false_iff_not];left;omega
  have a2:=s.ah m;have R:=a0.ah J;have b6:=R.len;refine⟨_,_,_,ae I rfl,λT i w'=>∃n:Nat,i=n/\n<=l/\T=l-n/\(∀f,f<n->b.aP.getD f 0<=P.aP.getD f 0)/\E=w',⟨_,0,rfl,Qj _,rfl,λf K=>oM,rfl⟩,?_⟩;rintro T i _ _ ⟨n,rfl,hj,rfl,U,rfl⟩;refine an.dec (λb7=>?_) (λb8=>?_)
  ·obtain⟨b4,o4,V,a3,a4,-,a5⟩:=R.mr (i:=n) oM
   obtain⟨b5,o5,W,a6,a7,-,a8⟩:=a2.mr (i:=n) oM;have X:b.aP.getD n 0=V:=by rw[QQ,a4];rfl
   have Y:P.aP.getD n 0=W:=by rw[QQ,a7];rfl
   refine⟨b4,o4,a3,oM,oM,V,a5,_,_,_,ae Q rfl,b5,o5,a6,oM,oM,W,a8,an.dec (λa9=>e m ?_) (λb9=>?_)⟩
   ·rw[h]
    simp only[Bool.and_eq_false_iff];right;rw[List.all_eq_false];exact⟨n,by simp;omega,by rw[X,Y];simpa using a9⟩
   ·refine⟨_,oM,n+1,aq oM,oM,rfl,λf K=>?_,rfl⟩
    by_cases b0:f=n
    ·subst b0;rw[X,Y];omega
    ·exact U f oM
  ·refine e m ?_
   rw[h];simp only[QK,ZY,Zk];exact⟨oM,λf K=>U f (by simp at K;omega)⟩
def Re(d:cf w p F S)(j:Int×Int):
  ZG 301 #[XL p,DT j] w (Ok λz w'=>∃b c e G,z= .tuple #[jD ((S.get j).getD rm) b c e,.bool (S.get j).isSome]/\Row aJ 8 w' G b c ((S.get j).getD rm).aP/\(∀n,G n->w.heap.size<=n/\n<w'.heap.size)/\ai w w'):=by
 obtain⟨L,q,d⟩:=d;obtain⟨h,i⟩:=j;refine wu (PA.mk λw1 M s1 k=>PA.mk λA B s2 u=>λl C=>?_);have v:ai A l:=C.af;have s3:l.heap.size=A.heap.size:=by rw[C.heap]
 have k:=v.get (B.get k id) id;have u:=v.get u id;have E:=(M.then B).then v;have x:=d.ah E;have a2:=d.map.lt;have a3:=ax d.at';obtain⟨a,b,c,e,n,f,g,H,N,O⟩:∃(a:aj) (b:ZH) (c e:Nat) (n:Bool),(aE q.l (h,i)).getD (jD rm none 0 0)=jD a b c e/\(aE q.l (h,i)).isSome=n/\(S.get (h,i)).getD rm=a/\(S.get (h,i)).isSome=n/\Row aJ 8 l q.D b c a.aP:=by
  rcases x.look L (h,i)with⟨f,g⟩|⟨z,Q,f,g,R,T,U,rfl,V,a4⟩
  ·exact⟨rm,none,0,0,false,by rw[f];rfl,by rw[f];rfl,by rw[g];rfl,by rw[g];rfl,Row.nil _ _⟩
  ·exact⟨Q,R,T,U,true,by rw[f];rfl,by rw[f];rfl,by rw[g];rfl,by rw[g];rfl,V⟩
 have I:∀n,q.D n->n<w.heap.size:=λn P=>d.aB n (d.sub n (.inr (.inr (.inr P))));refine⟨λn=>n=l.heap.size,p,0,rfl,oM,_,ae x.at' rfl,oM,_,_,ae k rfl,ae k rfl,bO (rk a b c e) ⟨n,λw' W=>?_,PA.mk λw4 m s4 X=>⟨ai.af m,az (aV a b c e) X rfl λw5 o s5 Y=>⟨o,?_⟩⟩⟩⟩
 ·have:=dK Qr Vy (x.map.af W oM) (h,i) true
  rw[f,g]at this;exact this
 have Z:=(O.ah m).af o λn P hn=>by have:=I n P;omega
 refine ar (aV a b c e) Y (PC.ok (mq Z λn P=>by have:=I n P;omega) ?_);rintro _ w6 ⟨r,s,t,G,rfl,a0,J,y⟩;have a1:=y.get (o.get (m.get u id) oM) id;have z6:=y.size;refine bO (rk a r s t) ⟨rfl,az (aV a r s t) a1 rfl λw7 K s7 g7=>ar (aV a r s t) g7 (Ok.mk ⟨r,s,t,G,by rw[H,N],?_,?_,?_⟩)⟩
 ·rw[H];exact a0.af K λn P hn=>by have:=J n P;omega
 ·intro n P;have:=J n P;omega
 ·exact(((E.then m).new o λn P=>.inr oM).then y).new K λn P=>.inr oM

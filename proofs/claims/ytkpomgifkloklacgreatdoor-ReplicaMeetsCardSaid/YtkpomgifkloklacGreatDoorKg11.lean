import Derived.Test.YtkpomgifkloklacGreatDoorKg10
import Derived.Shelf.SlSortCmp.WholeK
import Derived.Shelf.SlMaps.Clone
import Derived.Ground.SlsfProg
import Derived.Ground.SlmcProg
import Derived.Shelf.SlGeneric
import Derived.Shelf.SlSortCmp.NoneTotal
import Derived.Laws.StructEq
import Derived.Carry
import Derived.SizedLaws
import Derived.WalkKit
import Derived.ProofKit
import Derived.OpenShut
import Derived.Deep.DeepHandedRow
import Derived.Deep.Slices
set_option maxHeartbeats 4000000
set_option linter.all false
set_option maxRecDepth 100000
open Go.IntKind renaming wrap→XG
namespace Go.Proofs.YtkpomgifkloklacGreatDoor
open Go.aw
structure jq where
 bE:Int
 lf:Int
 ko:Int
 least:Int
 deriving DecidableEq
structure bg where
 kind:Int
 dE:Int
 floor:Bool
 bl:List jq
 deriving DecidableEq
structure iH where
 aW:Int
 field:Int
 group:Int
 Cq:Int
 make:Int
 deriving DecidableEq
structure aM where
 types:List (List bg)
 projs:List iH
 deriving DecidableEq
structure iu where
 aW:Int
 agg:Int
 field:Int
 op:Int
 arg:Int
 expect:Int
 key:Int
 deriving DecidableEq
structure cO where
 n:Int
 set:List Int
 deriving DecidableEq
structure lA where
 version:Int
 cells:List cO
 deriving DecidableEq
structure cM where
 ev:aj
 void:Bool
 Cq:Int×Int
structure dz where
 group:Int
 value:Int
 count:Int
 deriving DecidableEq
abbrev lN(P:Int):Int:=XG .i64 P
def within(P a b:Int):Bool:=decide (a<=P)&&decide (P<=b)
def aM.at(P:aM)(a:Int):List bg:=if within a 0 (P.types.length-1)then P.types.getD a.toNat []else []
def aM.Ar(P:aM)(a b:Int):Option bg:=
 if within a 0 (P.types.length-1)&&within b 0 ((P.at a).length-1)then(P.at a)[b.toNat]? else none
def pk(P:Int):Int:=if P=1 then 1 else if P=2 then 2 else if P=3 then 3 else if P=4 then 3 else if P=5 then 4 else 0
def iQ(a:aM)(b c op arg:Int):Int:=match a.Ar b c with
 |none=>8
 |some P=>if !within op 1 5||pk op !=P.kind then 2 else if op==1&&arg==0||op==5&& !within arg 0 (P.bl.length-1)then 1 else 0
def pO(P:aM):Bool:=
 if !within P.types.length 1 8||decide (8<P.projs.length)then true else
 P.types.any λb=>!within b.length 1 8||b.any λa=>if a.kind==4 then !within a.bl.length 1 16 else decide (0<a.bl.length)
def Oq(a:List bg)(b P:Int):Bool:=within b 0 (a.length-1)&&((a[b.toNat]?).map (·.kind)==some P)
def NG(P a:Int):Bool:=a==1||a==2&&within P 2 4||a==3&&P==2
def eS(P:List bg)(f:bg):Int:=
 if !within f.kind 1 4 then 2 else if !within f.dE 1 3|| !NG f.kind f.dE||f.floor&&f.kind !=1 then 1 else
 if f.bl.any λm=>decide (m.bE<0)||decide (m.lf<0)||m.ko== -1&&m.least !=0 then 1 else
 if f.bl.any λm=>m.ko != -1&& !Oq P m.ko 1 then 8 else 0
def k_(a:aM)(P:iH):Int:=
 if(a.Ar P.aW P.field).isNone then 8 else
 if P.group==3&& !Oq (a.at P.aW) P.Cq 2||P.group !=3&&P.Cq !=0 then 8 else
 if !within P.group 1 3|| !within P.make 1 5 then 2 else 0
def cg{a:Type}(P:a->Int):List a->Int
 |[]=>0
 |x::b=>if P x !=0 then P x else cg P b
def cJ(P:aM):Int:=
 if pO P then 3 else
 let a:=cg (λb=>cg (eS b) b) P.types
 if a !=0 then a else cg (k_ P) P.projs
def aR(P:aj):Int×Int:=(P.origin,P.seq)
def dU(a P:aj):Bool:=decide (a.ay<P.ay)||a.ay==P.ay&&(decide (a.origin<P.origin)||a.origin==P.origin&&decide (a.seq<P.seq))
def qU(P a:aj):Int:=if dU P a then-1 else if dU a P then 1 else 0
def cN(P:aj)(a:Nat):Int:=
 if P.origin<0\/(a:Int)<=P.origin\/min P.seq P.ay<1\/min P.agg P.key<0\/P.aN.length≠a\/P.aN.any (λb=>decide (b<0))then 1 else
 if P.aN.getD P.origin.toNat 0≠lN (P.seq-1)then 9 else
 if P.op<1\/5<P.op then 2 else if min P.aW P.field<0\/8<=P.aW\/8<=P.field then 8 else 0
def yF(P a:aj):Bool:=decide (P.seq<=cP a.aN P.origin)
def tI(P a:aj):Bool:=aR P !=aR a&& !yF P a&& !yF a P
structure ar where
 n:Nat
 l:List aj
def cX(P:aj):List aj->List aj
 |[]=>[P]
 |x::a=>if dU P x then P::x::a else x::cX P a
def ar.mD(P:ar)(a:Nat):Nat:=P.l.countP λb=>b.origin==(a:Int)
def ar.vec(P:ar):List Int:=(List.range P.n).map λa=>(P.mD a:Int)
def ar.get(P:ar)(id:Int×Int):Option aj:=P.l.find? λa=>aR a==id
def ar.top(P:ar):Int:=P.l.foldl (λa b=>max a b.ay) 0
def ar.i_(e:ar)(P:aj)(b:Nat):Bool:=
 let c:=P.aN.getD b 0
 c==0||match e.get (b,c)with
  |none=>false
  |some a=>decide (a.ay<P.ay)&&(List.range a.aN.length).all λd=>decide (a.aN.getD d 0<=P.aN.getD d 0)
def ar.add(P:ar)(a:aj):Int×ar:=
 let no:=cN a P.n
 if no≠0 then(no,P)else
 if(P.get (aR a)).isSome then(16,P)else
 if a.seq≠(P.vec.getD a.origin.toNat 0)+1 then(9,P)else
 if(List.range P.n).any λb=>!P.i_ a b then(9,P)else(0,{P with l:=cX a P.l})
def ar.eI(P:ar)(l:List aj):ar:=l.foldl (λP a=>(P.add a).2) P
def ar.missing(b:ar)(c:List Int)(P:Int):List aj:=(b.l.filter λa=>decide (max 0 (cP c a.origin)<a.seq)).take (max 0 P).toNat
def ar.keyed(P:ar)(key:Int):Option aj:=P.l.find? λa=>key !=0&&a.key==key
def c_(P:List bg):List cO:=P.map λ_=>⟨0,[]⟩
def Jz(P a:Int):Bool:=decide (P<lN (P+a))==decide (0<a)
def uP(f:List bg)(d:List cO)(P c arg:Int):Int:=
 let e:=f.getD P.toNat ⟨0,0,false,[]⟩
 let a:=d.getD P.toNat ⟨0,[]⟩
 let g:Bool:=
  if c=1 then(arg==0||Jz a.n arg)&& !(e.floor&&decide (lN (a.n+arg)<0))
  else if c=3 then decide (arg∈a.set)||decide (a.set.length<64)
  else if c=5 then(let b:=e.bl.getD arg.toNat ⟨0,0,0,0⟩;a.n==b.bE&&(decide (b.ko<0)||decide (b.least<=(d.getD b.ko.toNat ⟨0,[]⟩).n)))
  else true
 if g then 0 else 10
def oF(P:Int):List Int->List Int
 |[]=>[P]
 |y::a=>if P<y then P::y::a else if P=y then y::a else y::oF P a
def OF(d:List bg)(b:List cO)(P c arg:Int):List cO:=
 let e:=d.getD P.toNat ⟨0,0,false,[]⟩
 let a:=b.getD P.toNat ⟨0,[]⟩
 if c=1 then b.set P.toNat {a with n:=lN (a.n+arg)}
 else if c=2 then b.set P.toNat {a with n:=arg}
 else if c=3 then b.set P.toNat {a with set:=oF arg a.set}
 else if c=4 then b.set P.toNat {a with set:=a.set.filter λf=>f !=arg}
 else if c=5 then b.set P.toNat {a with n:=(e.bl.getD arg.toNat ⟨0,0,0,0⟩).lf}
 else b
def eh(b:bg)(a P:Int×Int):Bool:=
 if b.kind=2 then a.1==2&&P.1==2&&a !=P
 else if b.kind=4 then a.1==5&&P.1==5&&a !=P
 else if b.kind=3 then a==(3,P.2)&&P==(4,a.2)||a==(4,P.2)&&P==(3,a.2)
 else false
def lv(f:bg)(P a:aj):Bool:=(f.dE==2||f.dE==3&&decide (a.arg<P.arg))&&eh f (P.op,P.arg) (a.op,a.arg)&&tI P a
structure aY where
 decl:aM
 entries:List cM
 ef:List ((Int×Int)×lA)
 done:List ((Int×Int×Int)×List aj)
def aY.new(P:aM):aY:=⟨P,[],[],[]⟩
def aY.try(a:aY)(P:aj):Bool×(Int×Int)×aY:=
 if iQ a.decl P.aW P.field P.op P.arg≠0 then(true,(0,0),a)else
 let d:=a.decl.at P.aW
 let c:=(P.aW,P.agg,P.field)
 match((ax a.done c).getD []).find? λf=>lv (d.getD P.field.toNat ⟨0,0,false,[]⟩) f P with
 |some f=>(true,aR f,a)
 |none=>
  let e:=ax a.ef (P.aW,P.agg)
  let b:=match e with
   |some e=>e.cells
   |none=>c_ d
  if uP d b P.field P.op P.arg≠0 then(true,(0,0),a)else
  (false,(0,0),{a with
   ef:=aJ a.ef (P.aW,P.agg) ⟨lN ((e.getD ⟨0,[]⟩).version+1),OF d b P.field P.op P.arg⟩
   done:=aJ a.done c ((ax a.done c).getD []++[P])})
def aY.add(c:aY)(a:aj):cM×aY:=
 let P:=c.try a
 let b:cM:=⟨a,P.1,P.2.1⟩
 (b,{P.2.2 with entries:=P.2.2.entries++[b]})
def aY.state(P:aY)(a b:Int):Option lA:=ax P.ef (a,b)
def b_(P:aM)(a:List aj):aY:=a.foldl (λb c=>(b.add c).2) (aY.new P)
def jz(c:List cM)(d a e:Int)(P:Nat):List cM×Bool:=
 let own:=(c.filter λb=>b.ev.aW==d&&b.ev.agg==a).drop (max e 0).toNat
 (own.take P,decide (P<own.length))
def mu(c:List dz)(P:Int)(a:Nat):List dz×Bool:=
 let b:=c.dropWhile λd=>decide (d.group<=P)
 (b.take a,decide (a<b.length))
def eJ(a:aM)(P:iu):Int:=if P.agg<0\/P.key<0\/P.expect< -1 then 1 else iQ a P.aW P.field P.op P.arg
def aS(a:iu)(P:Int)(b:List Int)(c:Int):Int×aj:=
 let no:aj:=⟨0,0,0,[],0,0,0,0,0,0⟩
 if P<0\/(b.length:Int)<=P\/c<0 then(1,no)else
 if cP b P=9223372036854775807\/c=9223372036854775807 then(13,no)else
 (0,⟨P,cP b P+1,c+1,gg b [],a.aW,a.agg,a.field,a.op,a.arg,a.key⟩)
def jV(e:aM)(c:ar)(i:aY)(a start:Int)(P:iu):aj×Bool×Int:=
 let no:aj:=⟨0,0,0,[],0,0,0,0,0,0⟩
 let f:=eJ e P
 if f≠0 then(no,false,f)else
 match c.keyed P.key with
 |some j=>(j,false,0)
 |none=>
  let g:=e.at P.aW
  let h:=i.state P.aW P.agg
  let b:=match h with
   |some k=>k.cells
   |none=>c_ g
  if¬(P.expect= -1\/P.expect=(h.getD ⟨0,[]⟩).version)then(no,false,11)else
  if uP g b P.field P.op P.arg≠0 then(no,false,10)else
  let d:=aS P a c.vec (max c.top start)
  (d.2,decide (d.1=0),d.1)
structure du where
 p:iH
 rows:List (Int×dz)
def kW(P:iH)(a:dz)(arg:Int):Int:=
 if P.make=1 then a.count else if P.make=2 then lN (a.value+arg)else
 if P.make=5\/a.count=1/\(P.make=3\/P.make=4)then arg else
 if P.make=3 then min a.value arg else if P.make=4 then max a.value arg else 0
def du.add(P:du)(e:cM)(c:Int):du:=
 let b:=if P.p.group=1 then some e.ev.agg else if P.p.group=2 then some e.ev.arg else if P.p.group=3 then some c else none
 match b with
 |none=>P
 |some b=>
  if e.void||e.ev.aW !=P.p.aW||e.ev.field !=P.p.field then P else
  let a:=(ax P.rows b).getD ⟨0,0,0⟩
  let a:dz:=⟨b,a.value,lN (a.count+1)⟩
  {P with rows:=aJ P.rows b ⟨b,kW P.p a e.ev.arg,a.count⟩}
def lG(P:dz):List dz->List dz
 |[]=>[P]
 |y::a=>if P.group<y.group then P::y::a else y::lG P a
def du.list(P:du):List dz:=(P.rows.map (·.2)).foldr lG []
structure jm where
 view:aY
 rows:List du
def jm.new(P:aM):jm:=⟨aY.new P,P.projs.map λa=>⟨a,[]⟩⟩
def qT(P:Option lA)(a:iH):Int:=match P with
 |none=>0
 |some P=>((P.cells[a.Cq.toNat]?).map (·.n)).getD 0
def jm.add(b:jm)(P:aj):jm:=
 let a:=b.view.add P
 let d:=a.2.state P.aW P.agg
 ⟨a.2,b.rows.map λc=>c.add a.1 (qT d c.p)⟩
def dN(P:aM)(a:List aj):jm:=a.foldl jm.add (jm.new P)
def eP(P:Nat)(a:List aj)(b:aj):Bool×List aj:=
 if P<=a.length\/a.any (λc=>aR c==aR b)then(false,a)else(true,cX b a)
def eg(P:ar):List aj->Option (aj×ar×List aj)
 |[]=>none
 |e::b=>if(P.add e).1=0 then some (e,(P.add e).2,b)else(eg P b).map λa=>(a.1,a.2.1,e::a.2.2)
def dP:Nat->ar->List aj->List aj->List aj×List aj
 |0,b,a,P=>(P,a)
 |k+1,b,a,P=>match eg b a with
  |none=>(P,a)
  |some (c,d,e)=>dP k d e (P++[c])
def bz(a:ar)(P:List aj):List aj×List aj:=
 let P:=P.filter λb=>(a.get (aR b)).isNone
 dP (P.length+1) a P []
structure cG where
 kind:Int
 bE:Int
 lf:Int
 vec:List Int
 events:List aj
def eO(P:cG)(a:Int):Int:=if 0<P.events.length then 8 else if(P.vec.length:Int)≠a then 1 else if P.vec.any (λb=>decide (b<0))then 1 else 0
def ej(a:cG)(b:Nat)(P:Int):Int:=if 0<a.vec.length then 8 else if a.events.length<1\/P<(a.events.length:Int)then 3 else cg (λc=>cN c b) a.events
def de(m:cG)(b:Nat)(a:Int):Int:=
 let P:=!(decide (0<=m.bE)&&decide (m.bE<b))|| !(decide (0<=m.lf)&&decide (m.lf<b))||m.bE==m.lf
 if m.kind=3 then(if P then 1 else ej m b a)
 else if m.kind=1\/m.kind=2\/m.kind=4 then(if P then 1 else eO m b)
 else 2
def dH(P:ar)(a b:Int):cG:=⟨1,a,b,P.vec,[]⟩
def xt(P:ar)(a b:Int):cG:=⟨4,a,b,P.vec,[]⟩
def fR(d:ar)(P:Int)(a:cG)(b:Int):List cG:=
 if a.kind≠1/\a.kind≠2 then []else
 let e:=d.missing a.vec (max 1 (min b 32))
 let g:List cG:=if 0<e.length then [⟨3,P,a.bE,[],e⟩]else []
 let f:=jh a.vec d.vec
 let h:List cG:=if a.kind=1/\(f=2\/f=3)then [⟨2,P,a.bE,d.vec,[]⟩]else []
 let c:=g++h
 if c.isEmpty then [xt d P a.bE]else c
variable{e q:Int}{u:List Int}{a c i:Nat}{d:ZH}{b:World}{l:aj}
def Dh:(if q<e then q else e)=min e q:=oM
def OT{D:XN}(j:Row aQ 8 b D d a u):
  ZG 162 #[.slice d a c,.func (.func 161) #[] #[]] b (Ok λh P=>h= .bool (u.any λe=>decide (e<0))/\b=P):=by
 have w:=j.len;have q:=j.dK;unfold aT at q;refine iL (PC.ok (φ:=λh P=>(∃g:Int,h= XH g/\(0<=g↔(u.any λe=>decide (e<0))=true))/\b=P) (jK ⟨λm g P=>∃f:Nat,g=f/\f<=a/\m=a-f/\((u.take f).any λe=>decide (e<0))=false/\b=P,
  ⟨_,0,rfl,Qj _,rfl,sM,rfl⟩,?_⟩) ?_)
 ·rintro m g _ _ ⟨f,rfl,x,rfl,k,rfl⟩
  refine an.dec (λr=>?_) (λr=>?_)
  ·obtain⟨s,l,n,rfl,o,_,t⟩:=j.mI (i:=f) oM
   refine⟨s,l,rfl,oM,oM,_,t,161,_,_,rfl,kR,PC.ok (φ:=λh P=>h= .bool (decide (n<0))/\b=P) (xg (Ok.mk ⟨rfl,rfl⟩)) ?_⟩;rintro _ _ ⟨rfl,rfl⟩;refine⟨_,rfl,an.dec (λp=>?_) (λp=>?_)⟩
   ·exact Ok.mk ⟨⟨_,rfl,λ_=>List.any_eq_true.2 ⟨n,QZ o,by simpa using p⟩,λ_=>oM⟩,rfl⟩
   ·refine⟨_,oM,f+1,aq oM,oM,rfl,?_,rfl⟩
    rw[Qw,o,List.any_append,k];simp;omega
  ·rw[Qz oM]at k
   exact Ok.mk ⟨⟨_,rfl,λi=>oM,λi=>by rw[k]at i;cases i⟩,rfl⟩
 ·rintro _ _ ⟨⟨g,rfl,v⟩,rfl⟩
  exact⟨_,rfl,Ok.mk ⟨by cases i:(u.any λe=>decide (e<0))<;>simp[i]at v⊢<;>omega,rfl⟩⟩
def vZ{D:XN}(m:Row aQ 8 b D d a l.aN)(I:i<4611686018427387904):
  ZG 99 #[.agg (aD l d a c).toArray,XH (i:Int)] b (Ok λj k=>j= XH (cN l i)/\ai b k):=by
 have J:=m.len;have x:=m.dK;unfold aT at x;refine AM (PA.mk λy n K g=>⟨_,ae g rfl,?_⟩);have f:(l.origin<0\/(i:Int)<=l.origin\/min l.seq l.ay<1\/min l.agg l.key<0\/l.aN.length≠i\/l.aN.any (λp=>decide (p<0))=true)->Ok (λj k=>j= XH (cN l i)/\ai b k) (.returned (XH 1)) y:=λP=>by
  refine Ok.mk ⟨?_,n⟩;unfold cN;rw[Zx P]
 refine an.dec (λP=>f (.inl P)) λL=>⟨_,ae g rfl,an.dec (λP=>f (.inr (.inl P))) λM=>⟨_,ae g rfl,_,ae g rfl,?_⟩⟩
 with_reducible (conv=>whnf)
 rw[Dh];refine an.dec (λP=>f (.inr (.inr (.inl P)))) λN=>⟨_,ae g rfl,_,ae g rfl,?_⟩
 with_reducible (conv=>whnf)
 rw[Dh];refine an.dec (λP=>f (.inr (.inr (.inr (.inl P))))) λO=>⟨_,_,_,ae g rfl,an.dX (λP=>f (.inr (.inr (.inr (.inr (.inl oM)))))) λQ=>⟨_,_,_,ae g rfl,PC.ok (OT (m.ah n)) ?_⟩⟩
 rintro _ _ ⟨rfl,rfl⟩;refine⟨_,rfl,an.mk (λP=>f (.inr (.inr (.inr (.inr (.inr P)))))) λz=>⟨_,_,_,ae g rfl,_,ae g rfl,?_⟩⟩;obtain⟨A,q,B,rfl,C,R,E⟩:=(m.ah n).mI (i:=l.origin.toNat) oM;have t:¬(l.origin<0\/(i:Int)<=l.origin\/min l.seq l.ay<1\/min l.agg l.key<0\/l.aN.length≠i\/l.aN.any (λp=>decide (p<0))=true):=by
  rw[z];simp only[Bool.false_eq_true,or_false,not_or];omega
 refine⟨A,q,rfl,oM,oM,_,E,_,ae g rfl,λu v=>?_⟩;have F:ai b u:=n.then v.af;have h:=(bO.af (S:=λ_=>False) v).get g id;have w:l.aN.getD l.origin.toNat 0=B:=by rw[QQ,C];rfl
 have e:∀r:Int,cN l i=r->Ok (λj k=>j= XH (cN l i)/\ai b k) (.returned (XH r)) u:=λr P=>Ok.mk ⟨by rw[P],F⟩;refine an.dX (λP=>e 9 (by unfold cN;rw[Zq t,w,Zx P])) λH=>⟨_,ae h rfl,?_⟩
 have s:cN l i=if l.op<1\/5<l.op then 2 else if min l.aW l.field<0\/8<=l.aW\/8<=l.field then 8 else 0:=by
  unfold cN;rw[Zq t,w,Zq (by simpa using H)]
 refine an.dec (λP=>e 2 (by rw[s,Zx (.inl P)])) λS=>⟨_,ae h rfl,an.dec (λP=>e 2 (by rw[s,Zx (.inr P)])) λT=>⟨_,ae h rfl,_,ae h rfl,?_⟩⟩
 with_reducible (conv=>whnf)
 rw[Dh];have o:cN l i=if min l.aW l.field<0\/8<=l.aW\/8<=l.field then 8 else 0:=by rw[s,Zq oM]
 refine an.dec (λP=>e 8 (by rw[o,Zx (.inl P)])) λU=>⟨_,ae h rfl,an.dec (λP=>e 8 (by rw[o,Zx (.inr (.inl P))])) λV=>⟨_,ae h rfl,an.dec (λP=>e 8 (by rw[o,Zx (.inr (.inr P))])) λW=>e 0 (by rw[o,Zq oM])⟩⟩
end Go.Proofs.YtkpomgifkloklacGreatDoor
namespace Go.aw
open Go
def Ti(a P:Value):Bool:=match a with
 | .int b _=>match P with
  | .int c _=>decide (c=b)
  |_=>false
 | .bool _=>match P with
  | .bool _=>true
  |_=>false
 | .string _=>match P with
  | .string _=>true
  |_=>false
 | .slice _ _ _=>match P with
  | .slice _ _ _=>true
  |_=>false
 | .pointer _=>match P with
  | .pointer _=>true
  |_=>false
 | .map _=>match P with
  | .map _=>true
  |_=>false
 |_=>true
def RR:List Value->List Value->Bool
 |[],[]=>true
 |z::P,a::b=>Ti z a&&RR P b
 |_,_=>false
def Ph(z P:Value):Bool:=match z with
 | .agg a=>match P with
  | .agg cs=>RR a.toList cs.toList
  |_=>false
 |z=>Ti z P
variable{n:Array Value}{a c:Nat}{I:Nat×Nat}{h:Program}{g o:TypeId}{b7 t:Value}{V:Value->Prop}{b:World}{x:XU}
def Od{φ:Value->Prop}(a:Ti t b7=true)(P:φ b7):Mb t φ:=by
 unfold Mb
 cases t<;>cases b7<;>simp[Ti]at a<;>first
  |exact⟨_,P⟩
  |exact⟨_,_,_,P⟩
  |(subst a;exact⟨_,P⟩)
def Jm:∀{a cs:List Value} {φ:List Value->Prop},RR a cs=true->φ cs->Nl a φ
 |[],[],φ,_,b=>b
 |[],_::_,φ,P,_=>by simp[RR]at P
 |_::_,[],φ,P,_=>by simp[RR]at P
 |z::a,c::e,φ,P,b=>by
  simp only[RR,QK]at P;exact Od (φ:=λc=>Nl a λd=>φ (c::d)) P.1 (Jm (φ:=λd=>φ (c::d)) P.2 b)
def bS(P:Ph t b7=true)(a:V b7):AB t V:=by
 unfold AB;split
 ·rename_i d
  cases b7<;>simp[Ph]at P
  rename_i cs;exact Jm (φ:=λb=>V (.agg b.toArray)) P (by simpa using a)
 ·rename_i c
  refine Od ?_ a
  cases t<;>first|exact P|exact Zz rfl (c _)
def wH{c:World}{d:Addr}{e:Prop}:∀{cs:List Value} {P:Nat},(∀a v,cs[a]? =some v->c.cell? (d.add (P+a))=some v)->e->gK c d P cs e
 |[],P,_,b=>b
 |v::i,P,f,b=>⟨f 0 v rfl,wH (λa g h=>by have:=f (a+1) g (by simpa using h);rwa [show P+1+a=P+(a+1) by omega]) b⟩
def iJ(P:Program)(a:TypeId)(cs:List Value):Bool:=sr P a&&(match fz P a with
 | .agg b=>Nat.beq (kN P a) b.size&&RR b.toList cs
 |_=>false)&&Nat.beq cs.length (kN P a)&&cs.all Value.oneCell'
def Jn{cs:List Value}(f:iJ h g cs=true)(j:∀d e,cs[d]? =some e->b.cell? ⟨a,c+d,none⟩=some e)(k:V (.agg cs.toArray)):
  nE h g (.pointer (some ⟨a,c,none⟩)) b V:=by
 simp only[iJ,QK]at f;obtain⟨⟨⟨l,P⟩,n⟩,o⟩:=f;unfold nE;simp only[l]
 revert P
 cases fz h g<;>simp only[Bool.false_eq_true,false_implies]
 rename_i p;intro P;simp only[QK]at P;simp only[P.1];exact Jm (φ:=λi=>gK b ⟨a,c,none⟩ 0 i (V (.agg i.toArray))) P.2 (wH (λd e m=>by rw[Xz,Addr.add_lit];exact j d e m) k)
def au{cs:List Value}(P:iJ h g cs=true)(c:b.heap[a]? =some (.cells cs.toArray o I))(d:V (.agg cs.toArray)):
  nE h g (XL a) b V:=Jn P (λf i e=>ae c (by rw[Xz];simpa using e)) d
def RF{cs:List Value}(e:iJ h g cs=true)(f:b.heap[a]? =some (.cells n o I))(i:∀P d,cs[P]? =some d->n[c+P]? =some d)(j:V (.agg cs.toArray)):
  nE h g (.pointer (some ⟨a,c,none⟩)) b V:=Jn e (λP d k=>ae f (i P d k)) j
def bq{a c k:Nat}{es:List Value}(e:iJ h g es=true)(f:es.length=k)(i:∀P,P<k->b.cell? ⟨a,c+P,none⟩=es[P]?)(j:V (.agg es.toArray)):
  nE h g (.pointer (some ⟨a,c,none⟩)) b V:=Jn e (λP l d=>by rw[i P (by rw[<-f];exact(Qv.1 d).1)];exact d) j
def Cm{c e:Nat}{h:TypeId}{i:XU}:∀(b:List Value) (a:Nat) {P:World} {cs:Array Value},P.heap[c]? =some (.cells cs h (0,0))->e+a+b.length<=cs.size->
  (∀d,ak (·=c) P d->d.heap.size=P.heap.size->d.heap[c]? =some (.cells (Al cs (e+a) b) h (0,0))->i d)->iA ⟨c,e,none⟩ a b P i
 |[],a,P,cs,f,j,g=>g P (ak.refl _) rfl f
 |v::b,a,P,cs,f,j,g=>by
  unfold iA;rw[Addr.add_lit];rw[Xq]at j;exact PS.mk f oM λr k l m=>Cm b (a+1) m bc λn o p q=>g n (k.then o) (p.trans l) q
def RS{cs:List Value}(d:iJ h g cs=true)(e:b.heap[a]? =some (.cells n o (0,0)))(p:c+cs.length<=n.size)(f:∀P,ak (·=a) b P->P.heap.size=b.heap.size->P.heap[a]? =some (.cells (Al n c cs) o (0,0))->x P):vQ h g (.pointer (some ⟨a,c,none⟩)) (.agg cs.toArray) b x:=by
 simp only[iJ,QK]at d;obtain⟨⟨⟨i,q⟩,j⟩,k⟩:=d;unfold vQ;have l:Nat.beq cs.toArray.size (kN h g)=true:=by simpa using j
 have m:cs.toArray.toList.all Value.oneCell'=true:=by simpa using k
 simp only[i,l,m];exact Cm cs 0 e oM f
def aB{cs:List Value}(c:iJ h g cs=true)(d:b.heap[a]? =some (.cells n o (0,0)))(e:cs.length=n.size)(f:∀P,ak (·=a) b P->P.heap.size=b.heap.size->P.heap[a]? =some (.cells cs.toArray o (0,0))->x P):vQ h g (XL a) (.agg cs.toArray) b x:=
 RS c d oM λP i j k=>f P i j (by rw[k,Ck e])
end Go.aw
namespace Go.Proofs
open Go.Shelf
def Tryz.LP:Go.Shelf.Ren:=⟨λ|6=>108|15=>169|14=>168|28=>228|29=>229|20=>220|21=>221|22=>222|23=>223|24=>224|25=>225|26=>226|27=>227|46=>266|47=>267|48=>268|49=>269|50=>270|57=>286|n=>n,λ|22=>50|24=>59|25=>214|3=>3|39=>283|0=>0|53=>328|55=>330|4=>4|46=>322|45=>321|50=>240|5=>5|9=>9|66=>361|70=>351|76=>377|77=>378|n=>n,λ|n=>n⟩
def Tryz.QF:Go.Proofs.SlLaysF0.n6 Tryz.prog Tryz.LP:={
 mixed:=by kernel_rfl
 f6:=⟨Tryz.f108.name,am,Tryz.func108.trans ac⟩
 f14:=⟨Tryz.f168.name,am,Tryz.func168.trans ac⟩
 f15:=Tryz.func169.trans ac
 f20:=⟨Tryz.f220.name,am,Tryz.func220.trans ac⟩
 f21:=⟨Tryz.f221.name,am,Tryz.func221.trans ac⟩
 f22:=⟨Tryz.f222.name,am,Tryz.func222.trans ac⟩
 f23:=⟨Tryz.f223.name,am,Tryz.func223.trans ac⟩
 f24:=⟨Tryz.f224.name,am,Tryz.func224.trans ac⟩
 f25:=⟨Tryz.f225.name,am,Tryz.func225.trans ac⟩
 f26:=⟨Tryz.f226.name,am,Tryz.func226.trans ac⟩
 f27:=⟨Tryz.f227.name,am,Tryz.func227.trans ac⟩
 f28:=Tryz.func228.trans ac
 f29:=Tryz.func229.trans ac
 f46:=⟨Tryz.f266.name,am,Tryz.func266.trans ac⟩
 f47:=Tryz.func267.trans ac
 f48:=Tryz.func268.trans ac
 f49:=⟨Tryz.f269.name,am,Tryz.func269.trans ac⟩
 f50:=⟨Tryz.f270.name,am,Tryz.func270.trans ac⟩
 f57:=⟨Tryz.f286.name,am,Tryz.func286.trans ac⟩
 t0:=Tryz.underlying0
 a0:=Tryz.isAgg0
 z0:=Tryz.sizeOf0
 v0:=Tryz.zeroValue0
 t3:=Tryz.underlying3
 a3:=Tryz.isAgg3
 z3:=Tryz.sizeOf3
 v3:=Tryz.zeroValue3
 t4:=Tryz.underlying4
 a4:=Tryz.isAgg4
 z4:=Tryz.sizeOf4
 v4:=Tryz.zeroValue4
 t5:=Tryz.underlying5
 a5:=Tryz.isAgg5
 z5:=Tryz.sizeOf5
 v5:=Tryz.zeroValue5
 t9:=Tryz.underlying9
 a9:=Tryz.isAgg9
 z9:=Tryz.sizeOf9
 v9:=Tryz.zeroValue9
 t22:=Tryz.underlying50
 a22:=Tryz.isAgg50
 z22:=Tryz.sizeOf50
 v22:=Tryz.zeroValue50
 t25:=Tryz.underlying214
 a25:=Tryz.isAgg214
 z25:=Tryz.sizeOf214
 v25:=Tryz.zeroValue214
 t39:=Tryz.underlying283
 a39:=Tryz.isAgg283
 z39:=Tryz.sizeOf283
 v39:=Tryz.zeroValue283
 t45:=Tryz.underlying321
 a45:=Tryz.isAgg321
 z45:=Tryz.sizeOf321
 v45:=Tryz.zeroValue321
 t46:=Tryz.underlying322
 a46:=Tryz.isAgg322
 z46:=Tryz.sizeOf322
 v46:=Tryz.zeroValue322
 t50:=Tryz.underlying240
 a50:=Tryz.isAgg240
 z50:=Tryz.sizeOf240
 v50:=Tryz.zeroValue240
 t53:=Tryz.underlying328
 a53:=Tryz.isAgg328
 z53:=Tryz.sizeOf328
 v53:=Tryz.zeroValue328
 t55:=Tryz.underlying330
 a55:=Tryz.isAgg330
 z55:=Tryz.sizeOf330
 v55:=Tryz.zeroValue330
 t66:=Tryz.underlying361
 a66:=Tryz.isAgg361
 z66:=Tryz.sizeOf361
 v66:=Tryz.zeroValue361
 t70:=Tryz.underlying351
 a70:=Tryz.isAgg351
 z70:=Tryz.sizeOf351
 v70:=Tryz.zeroValue351
 t76:=Tryz.underlying377
 a76:=Tryz.isAgg377
 z76:=Tryz.sizeOf377
 v76:=Tryz.zeroValue377
 t77:=Tryz.underlying378
 a77:=Tryz.isAgg378
 z77:=Tryz.sizeOf378
 v77:=Tryz.zeroValue378}
def Tryz.LQ:Go.Shelf.Ren:=⟨λ|6=>348|15=>169|14=>350|28=>228|29=>229|20=>351|21=>352|22=>353|23=>354|24=>355|25=>356|26=>357|27=>358|46=>359|47=>267|48=>268|49=>360|50=>361|57=>362|n=>n,λ|22=>44|24=>244|25=>419|3=>3|39=>283|0=>0|53=>328|55=>330|4=>4|46=>322|45=>321|50=>240|5=>5|9=>9|66=>361|70=>351|76=>377|77=>378|n=>n,λ|n=>n⟩
def Tryz.QG:Go.Proofs.SlLaysF0.n6 Tryz.prog Tryz.LQ:={
 mixed:=by kernel_rfl
 f6:=⟨Tryz.f348.name,am,Tryz.func348.trans ac⟩
 f14:=⟨Tryz.f350.name,am,Tryz.func350.trans ac⟩
 f15:=Tryz.func169.trans ac
 f20:=⟨Tryz.f351.name,am,Tryz.func351.trans ac⟩
 f21:=⟨Tryz.f352.name,am,Tryz.func352.trans ac⟩
 f22:=⟨Tryz.f353.name,am,Tryz.func353.trans ac⟩
 f23:=⟨Tryz.f354.name,am,Tryz.func354.trans ac⟩
 f24:=⟨Tryz.f355.name,am,Tryz.func355.trans ac⟩
 f25:=⟨Tryz.f356.name,am,Tryz.func356.trans ac⟩
 f26:=⟨Tryz.f357.name,am,Tryz.func357.trans ac⟩
 f27:=⟨Tryz.f358.name,am,Tryz.func358.trans ac⟩
 f28:=Tryz.func228.trans ac
 f29:=Tryz.func229.trans ac
 f46:=⟨Tryz.f359.name,am,Tryz.func359.trans ac⟩
 f47:=Tryz.func267.trans ac
 f48:=Tryz.func268.trans ac
 f49:=⟨Tryz.f360.name,am,Tryz.func360.trans ac⟩
 f50:=⟨Tryz.f361.name,am,Tryz.func361.trans ac⟩
 f57:=⟨Tryz.f362.name,am,Tryz.func362.trans ac⟩
 t0:=Tryz.underlying0
 a0:=Tryz.isAgg0
 z0:=Tryz.sizeOf0
 v0:=Tryz.zeroValue0
 t3:=Tryz.underlying3
 a3:=Tryz.isAgg3
 z3:=Tryz.sizeOf3
 v3:=Tryz.zeroValue3
 t4:=Tryz.underlying4
 a4:=Tryz.isAgg4
 z4:=Tryz.sizeOf4
 v4:=Tryz.zeroValue4
 t5:=Tryz.underlying5
 a5:=Tryz.isAgg5
 z5:=Tryz.sizeOf5
 v5:=Tryz.zeroValue5
 t9:=Tryz.underlying9
 a9:=Tryz.isAgg9
 z9:=Tryz.sizeOf9
 v9:=Tryz.zeroValue9
 t22:=Tryz.underlying44
 a22:=Tryz.isAgg44
 z22:=Tryz.sizeOf44
 v22:=Tryz.zeroValue44
 t25:=Tryz.underlying419
 a25:=Tryz.isAgg419
 z25:=Tryz.sizeOf419
 v25:=Tryz.zeroValue419
 t39:=Tryz.underlying283
 a39:=Tryz.isAgg283
 z39:=Tryz.sizeOf283
 v39:=Tryz.zeroValue283
 t45:=Tryz.underlying321
 a45:=Tryz.isAgg321
 z45:=Tryz.sizeOf321
 v45:=Tryz.zeroValue321
 t46:=Tryz.underlying322
 a46:=Tryz.isAgg322
 z46:=Tryz.sizeOf322
 v46:=Tryz.zeroValue322
 t50:=Tryz.underlying240
 a50:=Tryz.isAgg240
 z50:=Tryz.sizeOf240
 v50:=Tryz.zeroValue240
 t53:=Tryz.underlying328
 a53:=Tryz.isAgg328
 z53:=Tryz.sizeOf328
 v53:=Tryz.zeroValue328
 t55:=Tryz.underlying330
 a55:=Tryz.isAgg330
 z55:=Tryz.sizeOf330
 v55:=Tryz.zeroValue330
 t66:=Tryz.underlying361
 a66:=Tryz.isAgg361
 z66:=Tryz.sizeOf361
 v66:=Tryz.zeroValue361
 t70:=Tryz.underlying351
 a70:=Tryz.isAgg351
 z70:=Tryz.sizeOf351
 v70:=Tryz.zeroValue351
 t76:=Tryz.underlying377
 a76:=Tryz.isAgg377
 z76:=Tryz.sizeOf377
 v76:=Tryz.zeroValue377
 t77:=Tryz.underlying378
 a77:=Tryz.isAgg378
 z77:=Tryz.sizeOf378
 v77:=Tryz.zeroValue378}
def Tryz.Jl:Go.Shelf.Ren:=⟨λ|5=>250|7=>279|n=>n,λ|23=>253|25=>3|3=>244|4=>4|20=>20|n=>n,λ|n=>n⟩
def Tryz.RG:Go.Proofs.SlLaysW.n5 Tryz.prog Tryz.Jl:={
 mixed:=by kernel_rfl
 f5:=⟨Tryz.f250.name,am,Tryz.func250.trans ac⟩
 f7:=Tryz.func279.trans ac
 t4:=Tryz.underlying4
 a4:=Tryz.isAgg4
 z4:=Tryz.sizeOf4
 v4:=Tryz.zeroValue4
 t20:=Tryz.underlying20
 a20:=Tryz.isAgg20
 z20:=Tryz.sizeOf20
 v20:=Tryz.zeroValue20
 t23:=Tryz.underlying253
 a23:=Tryz.isAgg253
 z23:=Tryz.sizeOf253
 v23:=Tryz.zeroValue253}
end Go.Proofs
namespace Go.Proofs.YtkpomgifkloklacGreatDoor
open Go.aw Go.Sort
def aX(P:aj)(a:ZH)(b c:Nat):iJ XP 59 (aD P a b c)=true:=kR
def qy(P:aj)(a:ZH)(b c:Nat):Ph (fz XP 59) (.agg (aD P a b c).toArray)=true:=kR
def G(P a:World):Prop:=∃b c,a=grow (P.drewN b) c
variable{z:XT}{R e q:Int}{d1:Int×Int}{h1:List ((Int×Int)×aj)}{E d9:List aj}{a c i p:Nat}{f:XN}{c4:Obj}{d r:ZH}{g:TypeId}{a8 b k:World}{x:XU}{M l:aj}{A:ar}
def G.then(e:G b k)(f:G k a8):G b a8:=by
 obtain⟨P,a,rfl⟩:=e;obtain⟨c,d,rfl⟩:=f;exact⟨P+c,a++d,by show grow (grow ((b.drewN P).drewN c) a) d=_;rw[grow_grow,World.drewN_drewN]⟩
def G.af{S:XN}(P:G b k):ak S b k:=by
 obtain⟨e,a,rfl⟩:=P;refine⟨rfl,rfl,rfl,by simp[grow],λc d _=>?_⟩;show(b.heap++a)[c]? =_;rw[Array.getElem?_append_left d]
def G.drew(P:bO b k):G b k:=by obtain⟨a,rfl⟩:=P;exact⟨a,#[],sM⟩
def PA.SS(a:∀P,G b P->P.heap.size=b.heap.size+1->P.heap[b.heap.size]? =some c4->x P):PA b c4 x:=
 a (b.alloc c4) ⟨0,#[c4],by rw[alloc_eq_grow];rfl⟩ sM (heap_alloc_new b c4)
def isNaN:ZG 230 #[XH e] b (Ok λP a=>P= .bool false/\b=a):=xj (Ok.mk ⟨sM,rfl⟩)
def GY(P a:Int):Int:=if P<a then-1 else if a<P then 1 else 0
def f_:ZG 171 #[XH e,XH q] b (Ok λc d=>c= XH (GY e q)/\b=d):=by
 refine tv (PC.ok isNaN ?_);rintro _ _ ⟨rfl,rfl⟩;refine⟨_,rfl,PC.ok isNaN ?_⟩;rintro _ _ ⟨rfl,rfl⟩;refine⟨_,rfl,an.ff rfl (an.ff rfl (an.dec (λP=>Ok.mk ⟨by unfold GY;rw[Zx P],rfl⟩) (λP=>an.dec (λa=>Ok.mk ⟨by unfold GY;rw[Zq P,Zx a],rfl⟩) (λa=>Ok.mk ⟨by unfold GY;rw[Zq P,Zq a],rfl⟩))))⟩
def Km:List Int->Int
 |[]=>0
 |x::P=>if x≠0 then x else Km P
def Mp(r:b.heap[a]? =some (.cells #[XH e,XH q,XH R] g (0,0))):
  ZG 170 #[.slice (XM a) 3 3] b (Ok λi f=>i= XH (Km [e,q,R])/\b=f):=by
 refine CZ ⟨λl d f=>∃P:Nat,d=P/\P<=3/\l=3-P/\Km [e,q,R]=Km ([e,q,R].drop P)/\b=f,⟨_,0,rfl,oM,rfl,rfl,rfl⟩,?_⟩;rintro l d _ _ ⟨P,rfl,w,rfl,j,rfl⟩;refine an.dec (λs=>?_) (λs=>?_)
 ·have t:∀h:Int,[e,q,R][P]? =some h->∃m n,(XM a:ZH)=some ⟨m,n,none⟩/\(0:Int)<=P/\(P:Int)<((3:Nat):Int)/\∃k:Int,b.cell? ⟨m,n+Int.toNat P,none⟩=some (XH k)/\an (k !=0) (Ok (λi f=>i= XH (Km [e,q,R])/\b=f) (.returned (XH k)) b) (∃o,o<3-P/\∃d:Nat,XG .i64 ((P:Int)+1)=d/\d<=3/\o=3-d/\Km [e,q,R]=Km ([e,q,R].drop d)/\b=b):=by
   intro h c;have p:[e,q,R].drop P=h::[e,q,R].drop (P+1):=by
    rw[X4 bc];congr 1;simpa using(Qv.1 c).2
   refine⟨a,0,rfl,oM,oM,h,ae r ?_,an.dX (λu=>Ok.mk ⟨?_,rfl⟩) (λv=>⟨_,oM,P+1,aq oM,oM,rfl,?_,rfl⟩)⟩
   ·rw[Xz]
    match P,c with
    |0,c=>simp at c;simp[c]
    |1,c=>simp at c;simp[c]
    |2,c=>simp at c;simp[c]
    |P+3,c=>simp at c
   ·rw[j,p,Km,Zx u]
   ·rw[j,p,Km,Zq (by simpa using v)]
  have c:P<[e,q,R].length:=by simp;omega
  exact t [e,q,R][P] (by simp[c])
 ·obtain rfl:P=3:=oM
  exact Ok.mk ⟨by rw[j];rfl,rfl⟩
def EH(P a:aj):Km [GY P.ay a.ay,GY P.origin a.origin,GY P.seq a.seq]=qU P a:=by
 unfold qU dU GY Km Km Km Km
 by_cases e:P.ay<a.ay
 ·simp[e]
 by_cases h:a.ay<P.ay
 ·simp[e,h];omega
 have b:P.ay=a.ay:=oM
 by_cases f:P.origin<a.origin
 ·simp[b,f]
 by_cases i:a.origin<P.origin
 ·simp[b,f,i];omega
 have c:P.origin=a.origin:=oM
 by_cases d:P.seq<a.seq
 ·simp[b,c,d]
 by_cases g:a.seq<P.seq
 ·simp[b,c,d,g]
 ·simp[b,c,d,g]
def Ai:ZG 109 #[.agg (aD l d a c).toArray,.agg (aD M r i p).toArray] b (Ok λj k=>j= XH (qU l M)/\G b k):=by
 refine vd (PA.SS λt m u n=>PA.SS λv g w o=>λx q=>⟨λ_=>False,?_⟩);have P:=G.drew q;have e:=(P.af (S:=λ_=>False)).get ((g.af (S:=λ_=>False)).get n id) id;have f:=(P.af (S:=λ_=>False)).get o id;refine⟨_,ae e rfl,_,ae f rfl,id,_,ae e rfl,id,_,ae f rfl,id,_,ae e rfl,id,_,ae f rfl,PC.ok f_ ?_⟩;rintro _ _ ⟨rfl,rfl⟩;refine⟨_,rfl,ak.refl _,PC.ok f_ ?_⟩;rintro _ _ ⟨rfl,rfl⟩;refine⟨_,rfl,ak.refl _,PC.ok f_ ?_⟩;rintro _ _ ⟨rfl,rfl⟩;refine⟨_,rfl,ak.refl _,PA.SS λy h z s=>⟨h.af,PC.ok (Mp s) ?_⟩⟩;rintro _ _ ⟨rfl,rfl⟩;exact⟨_,rfl,ak.refl _,Ok.mk ⟨by rw[EH],((m.then g).then P).then h⟩⟩
structure Ob where
 e:aj
 a:ZH
 n:Nat
 c:Nat
instance:Inhabited Ob:=⟨⟨⟨0,0,0,[],0,0,0,0,0,0⟩,none,0,0⟩⟩
def encS(P:Ob):List Value:=aD P.e P.a P.n P.c
def Oc(a:Ob):∀b∈encS a,b.oneCell'=true:=by
 intro c P;simp only[encS,aD,Q2,List.not_mem_nil,or_false]at P;rcases P with rfl|rfl|rfl|rfl|rfl|rfl|rfl|rfl|rfl|rfl<;>rfl
def xI(P a:Ob):ltOf (λP a:Ob=>qU P.e a.e) P a=dU P.e a.e:=by
 unfold ltOf qU
 cases b:dU P.e a.e
 ·cases c:dU a.e P.e<;>simp[b,c]
 ·simp[b]
def gF:dU l M=true↔l.ay<M.ay\/l.ay=M.ay/\(l.origin<M.origin\/l.origin=M.origin/\l.seq<M.seq):=by simp[dU]
def sO:dU l M=false↔¬(l.ay<M.ay\/l.ay=M.ay/\(l.origin<M.origin\/l.origin=M.origin/\l.seq<M.seq)):=by rw[<-gF];simp
def SU:SWO (ltOf λP a:Ob=>qU P.e a.e) where
 irrefl P:=by rw[xI,sO];omega
 trans P a z h1 h2:=by rw[xI,gF]at*;omega
 ntrans P a z h1 h2:=by rw[xI,sO]at*;omega
def reps_evs{d:World}{D:XN}:∀{b:List aj} {cs:List Value},bK iX d D b cs->∃a:List Ob,a.map (·.e)=b/\cs=a.flatMap encS/\∀P∈a,Row aQ 8 d D P.a P.n P.e.aN/\P.e.Ok
 |[],_,f=>⟨[],rfl,f,sM⟩
 |e::b,_,⟨r,s,g,⟨h,i,j,k,l,m⟩,n⟩=>by
  obtain⟨a,o,p,q⟩:=reps_evs n;refine⟨⟨e,h,i,j⟩::a,by simp[o],by rw[g,k,p];rfl,?_⟩;intro P c;rcases Q2.1 c with rfl|c
  ·exact⟨l,m⟩
  ·exact q P c
def reps_of_evs{b:World}{D:XN}:∀{P:List Ob},(∀x∈P,Row aQ 8 b D x.a x.n x.e.aN/\x.e.Ok)->bK iX b D (P.map (·.e)) (P.flatMap encS)
 |[],_=>rfl
 |x::P,a=>⟨encS x,P.flatMap encS,rfl,⟨x.a,x.n,x.c,rfl,(a x (QV ..)).1,(a x (QV ..)).2⟩,reps_of_evs λc d=>a c (QJ _ d)⟩
def qb{P:List Ob}(b:a<P.length*10):(P.flatMap encS)[a]? =(encS P[a/10]!)[a % 10]? :=by
 induction P generalizing a with
 |nil=>simp at b
 |cons e P f=>
  have g:(encS e).length=10:=rfl;rw[List.flatMap_cons]
  by_cases c:a<10
  ·rw[XW oM,Nat.div_eq_of_lt c,Nat.mod_eq_of_lt c];rfl
  ·rw[X8 oM,g,f (by simp at b;omega)]
   obtain⟨d,rfl⟩:∃d,a=d+10:=⟨a-10,oM⟩
   rw[Nat.add_sub_cancel,Nat.add_div_right _ dC,Nat.add_mod_right];simp
def gj(P:List Ob):(P.flatMap encS).length=P.length*10:=by
 induction P with
 |nil=>rfl
 |cons a P b=>rw[List.flatMap_cons,QX,b];have c:(encS a).length=10:=rfl;rw[c];simp;omega
def Aj(P:List Ob):(flatK encS 10 P.toArray).toList=P.flatMap encS:=by
 apply X3;intro a
 by_cases b:a<P.length*10
 ·rw[qb b]
  have e:a<(flatK encS 10 P.toArray).size:=by simpa using b
  have c:=get_flatK encS 10 P.toArray a (by simpa using b);rw[getElem!_pos _ a e]at c;have f:(encS P[a/10]!).length=10:=rfl;have d:a % 10<(encS P[a/10]!).length:=by rw[f];omega
  rw[Qq (by simpa using b),Qq d]
  congr 1
  rw[Array.getElem_toList,c];rw[getElem!_pos _ _ (by simpa using d)]
  congr 1
  simp
 ·rw[Q7 (by simpa using b),Q7 (by rw[gj];omega)]
def Ah(P:List aj):Prop:=P.Pairwise λa b=>dU b a=false
def GV(m:aU iX 59 f b d a c E)(t:E.length<=20000000):
  ZG 108 #[.slice d a c,.func (.func 109) #[] #[]] b (Ok λM u=>M= .tuple #[]/\∃A,A.Perm E/\Ah A/\aU iX 59 f u d a c A/\ak (λn=>aI d=some n) b u):=by
 obtain⟨cs,D,B,Z,N⟩:=m.body;obtain⟨e,C,rfl,a4⟩:=reps_evs Z;have F:=m.len dC;have v:e.length=a:=by rw[F,<-C];simp
 rcases B.cases with⟨rfl,rfl,rfl,h0⟩|⟨h,j,rfl,w,O,H,Q⟩
 ·have hd:e=[]:=QW v
  refine(AnyF.slices_SortFunc_none Tryz.QF none 0 _ b).mono ?_;rintro p u ⟨rfl,rfl⟩;exact Ok.mk ⟨rfl,E,List.Perm.refl _,by rw[<-C,hd];exact List.Pairwise.nil,m,ak.refl _⟩
 ·have R:iX.k=10:=rfl
  rw[R]at Q H;have a5:flatK encS 10 e.toArray=(e.flatMap encS).toArray:=by rw[<-Aj]
  have hH:HoldsK encS 10 b h 0 e.toArray:=by
   intro k q;rw[size_flatK]at q;simp only[List.size_toArray]at q;have S:k<(e.flatMap encS).length:=by rw[gj];exact q
   refine⟨?_,by simp[World.frozen?,w]⟩;have l:(flatK encS 10 e.toArray)[k]! =(e.flatMap encS)[k]:=by
    rw[a5,getElem!_pos _ k (by simpa using S)];simp
   rw[l,Xz];refine ae w ?_;have i:(j.toList.take (a*10))[k]? =some (e.flatMap encS)[k]:=by rw[Q];exact Qq S
   rw[Xw,Zx oM]at i;simpa using i
  have t:=B.row;have I:c<=maxLen:=by
   obtain⟨_,a0,_,T,_,_,_,I,_⟩:=B.row.2.resolve_left (by rintro⟨m,_⟩;cases m);simp only[XX]at T;rw[T.2.2];exact I
  have a6:e.toArray.size<4611686018427387904:=by
   simp only[List.size_toArray,v];omega
  have U:=AnyQ.slices_SortFunc Tryz.QF 10 (λb=>cW _ _ _ kR ⟨_,Tryz.underlying59⟩ b) (λb=>Tryz.sizeOf59 b) encS (λ_=>rfl) Oc (λx V=>qU x.e V.e) SU 109 #[] h 0 c e.toArray b
   (enters_of Tryz.func109 kR rfl) (λb0 r dk b1 x V=>(Ai).mono ?_) hH (az w) a6
  ·rw[show e.toArray.size=a by simpa using v]at U
   refine U.mono ?_;rintro p u ⟨rfl,g,y,r,hp,hs,rfl⟩;obtain⟨p1,p2,W⟩:=hp;have P:g.size=a:=p1.trans (by simpa using v);have X:g.toList.Perm e:=by
    have l:g.extract 0 a=g:=by rw[<-P];exact Array.extract_size
    have i:e.toArray.extract 0 a=e.toArray:=by rw[show a=e.toArray.size by simpa using v.symm];exact Array.extract_size
    rw[l,i]at W;exact W
   have a1:flatK encS 10 g=(g.toList.flatMap encS).toArray:=by rw[<-Aj]
   have J:(sortWorldK encS 10 b h 0 y g r).heap[h]? =some (.cells (putCells id 0 (flatK encS 10 g) j) 59 (0,0)):=by
    have a7:=az w;show((Sort.ahead b y).heap.modify h _++r)[h]? =_;rw[Array.getElem?_append_left (by simpa[Sort.ahead]using a7),Array.getElem?_modify,Zx rfl];show Option.map _ b.heap[h]? =_;rw[w];rfl
   have z:ak (λn=>aI (XM h)=some n) b (sortWorldK encS 10 b h 0 y g r):=by
    refine⟨rfl,rfl,rfl,?_,λa2 z F=>?_⟩
    ·show b.heap.size<=((Sort.ahead b y).heap.modify h _++r).size
     simp[Sort.ahead]
    ·show((Sort.ahead b y).heap.modify h _++r)[a2]? =_
     rw[Array.getElem?_append_left (by simpa[Sort.ahead]using z),Array.getElem?_modify,Zq (λp=>F (by rw[p];rfl))]
     rfl
   have a3:(putCells id 0 (flatK encS 10 g) j).size=c*10:=by unfold putCells;rw[Array.size_mapIdx];exact H
   refine Ok.mk ⟨rfl,g.toList.map (·.e),by rw[<-C];exact X.map _,?_,⟨⟨g.toList.flatMap encS,D,⟨⟨?_,.inr ⟨h,c,_,rfl,Qj _,J,O,I,a3,?_⟩⟩⟩,reps_of_evs λx hx=>?_,N⟩,m.self,λn t=>Qk (m.aF n t) z.size⟩,z⟩
   ·unfold Ah
    rw[List.pairwise_map,List.pairwise_iff_getElem];intro Y k hi q a8;have l:=hs Y k (Qj _) a8 (by simpa[P]using q);rw[xI,getElem!_pos _ k (by simpa using q),getElem!_pos _ Y (by simpa using hi)]at l;simpa using l
   ·rw[gj,XK,P];rfl
   ·apply X3
    intro s;rw[R,Xw];split
    ·rename_i o
     rw[qb (by rw[XK,P];exact o),<-qb (by rw[XK,P];exact o)];unfold putCells;have a9:s<j.size:=by rw[H];exact Qk o (Q0 _ O)
     rw[Array.getElem?_toList,Array.getElem?_mapIdx,X6 a9];simp only[Option.map_some];have K:s<(flatK encS 10 g).size:=by rw[size_flatK,P];exact o
     rw[Zx ⟨Qj _,by rw[Xz];exact K⟩,Nat.sub_zero,getElem!_pos _ s K];have:(flatK encS 10 g)[s]=(g.toList.flatMap encS)[s]'(by rw[gj,XK,P];exact o):=by
      have i:=Zj (·[s]?) a1;simp only[List.getElem?_toArray]at i;rw[X6 K,Qq (by rw[gj,XK,P];exact o)]at i;exact XJ i
     rw[this];exact(Qq _).symm
    ·rename_i o
     rw[Q7 (by rw[gj,XK,P];omega)]
   ·have L:x∈e:=X.mem_iff.1 hx
    obtain⟨l,i⟩:=a4 x L;exact⟨l.af z λn t p=>(N n t).2 p,i⟩
  ·rintro p u ⟨M,rfl,rfl,hG⟩
   exact⟨rfl,hG⟩
open Go.aw
abbrev Oz(P:List aj):Prop:=P.Pairwise λa b=>dU a b=true
structure ar.OK (S:ar):Prop where
 n:S.n<=64
 Hi:Oz S.l
 ids:(S.l.map aR).Nodup
 Eo:∀e∈S.l,cN e S.n=0
 ok:∀e∈S.l,e.Ok
def CC(a:aR l≠aR M):dU l M=true\/dU M l=true:=by
 rw[gF,gF];have:¬(l.origin=M.origin/\l.seq=M.seq):=λP=>a (by unfold aR;rw[P.1,P.2]);omega
def rF{P a b:aj}(c:dU P a=true)(d:dU a b=true):dU P b=true:=by rw[gF]at*;omega
def im(P:dU l M=true):dU M l=false:=by rw[gF]at P;rw[sO];omega
def cV(a:aj):∀P,(cX a P).Perm (a::P)
 |[]=>List.Perm.refl _
 |x::P=>by
  unfold cX;split
  ·exact List.Perm.refl _
  ·exact(List.Perm.cons x (cV a P)).trans (List.Perm.swap a x P)
def uO{d:aj}:∀{a},Oz a->(∀x∈a,aR x≠aR d)->Oz (cX d a)
 |[],_,_=>by unfold cX;exact List.pairwise_singleton ..
 |x::a,e,f=>by
  obtain⟨g,h⟩:=List.pairwise_cons.1 e;unfold cX;split
  ·rename_i c
   exact List.pairwise_cons.2 ⟨λb P=>by
    rcases Q2.1 P with rfl|P
    ·exact c
    ·exact rF c (g b P),e⟩
  ·rename_i c
   refine List.pairwise_cons.2 ⟨λb P=>?_,uO h λb P=>f b (QJ _ P)⟩;rcases Q2.1 ((cV d a).mem_iff.1 P)with rfl|P
   ·exact(CC (f x (QV ..))).resolve_right (by simpa using c)
   ·exact g b P
def Jk(g:Ah E)(i:Oz d9)(c:E.Perm d9)(j:(E.map aR).Nodup):E=d9:=by
 refine c.eq_of_pairwise (le:=λa P=>dU P a=false) (λa P k l d e=>?_) g (i.imp λh=>im h)
 by_cases f:aR a=aR P
 ·have b:P∈E:=c.mem_iff.2 l
  obtain⟨o,m,rfl⟩:=List.getElem_of_mem k;obtain⟨p,n,rfl⟩:=List.getElem_of_mem b;have:=(List.getElem_inj (xs:=E.map aR) (h₀:=by simpa using m) (h₁:=by simpa using n) j).1 (by simpa using f);subst this;rfl
 ·rcases CC f with h|h
  ·rw[h]at e;cases e
  ·rw[h]at d;cases d
def PV(a:(E.map aR).Nodup)(P:l∈E):E.find? (λb=>aR b==aR l)=some l:=by
 induction E with
 |nil=>cases P
 |cons b E c=>
  simp only[QY,List.nodup_cons]at a;rcases Q2.1 P with rfl|P
  ·simp
  ·have d:aR b≠aR l:=λe=>a.1 (e▸Xk.2 ⟨l,P,rfl⟩)
   rw[List.find?_cons_of_neg (by simpa using d)];exact c a.2 P
def ar.get_some(P:A.get d1=some l):l∈A.l/\aR l=d1:=
 ⟨List.mem_of_find?_eq_some P,by simpa using List.find?_some P⟩
def ar.get_none(a:A.get d1=none):∀P∈A.l,aR P≠d1:=λP b=>by
 have:=List.find?_eq_none.1 a P b;simpa using this
def ar.OK.get(P:A.OK)(a:l∈A.l):A.get (aR l)=some l:=PV P.ids a
def GU(h:A.OK)(d:∀P∈h1,P.1=aR P.2)(e:(h1.map (·.2)).Perm A.l)(l:Tidy h1)(a:Int×Int):ax h1 a=A.get a:=by
 cases b:ax h1 a with
 |none=>
  rw[qk]at b
  symm
  refine List.find?_eq_none.2 λc i=>?_;obtain⟨P,f,rfl⟩:=Xk.1 (e.mem_iff.2 i);intro j;exact b (Xk.2 ⟨P,f,by rw[d P f];simpa using j⟩)
 |some c=>
  have g:=bV b;have k:a=aR c:=d _ g;have:c∈A.l:=e.mem_iff.1 (Xk.2 ⟨_,g,rfl⟩);rw[k,h.get this]
def vM(a:List aj)(P:Int):a.foldl (λP b=>max P b.ay) P=max P (a.foldl (λP b=>max P b.ay) 0)\/P<0:=by
 induction a generalizing P with
 |nil=>simp;omega
 |cons c a d=>
  rw[List.foldl_cons,List.foldl_cons]
  by_cases f:P<0
  ·exact .inr f
  ·rcases d (max P c.ay)with h|h
   ·rcases d (max 0 c.ay)with e|e
    ·left;rw[h,e];omega
    ·omega
   ·omega
def ar.PR(P:ar)(a:aj):ar.top ⟨P.n,cX a P.l⟩=max P.top a.ay:=by
 show(cX a P.l).foldl _ _=_;rw[(cV a P.l).foldl_eq' (λb _ c _ d=>oM),List.foldl_cons];rcases vM P.l (max 0 a.ay)with h|h
 ·rw[h]
  show max (max 0 a.ay) P.top=_;have:0<=P.top:=by
   rcases vM P.l 0 with h|h
   ·unfold ar.top;omega
   ·omega
  omega
 ·omega
def ar.ze(P:ar):0<=P.top:=by
 rcases vM P.l 0 with h|h
 ·unfold ar.top;omega
 ·omega
def ir(P:cN l a=0):0<=l.origin/\l.origin<a/\1<=l.seq/\1<=l.ay/\0<=l.agg/\0<=l.key/\l.aN.length=a/\(∀b∈l.aN,0<=b)/\l.aN.getD l.origin.toNat 0=lN (l.seq-1)/\1<=l.op/\l.op<=5/\0<=l.aW/\l.aW<8/\0<=l.field/\l.field<8:=by
 unfold cN at P;split at P
 ·simp at P
 ·rename_i c
  split at P
  ·simp at P
  ·rename_i d
   split at P
   ·simp at P
   ·rename_i h
    split at P
    ·simp at P
    ·rename_i i
     simp only[not_or,List.any_eq_true,Zk,not_exists,not_and]at c;obtain⟨j,k,m,b,n,e⟩:=c;refine⟨oM,oM,oM,oM,oM,oM,oM,λf g=>by have:=e f g;omega,by simpa using d,oM,oM,oM,oM,oM,oM⟩
def ar.CK(P:ar)(a:aj)(b:Nat):ar.mD ⟨P.n,cX a P.l⟩ b=P.mD b+if a.origin=(b:Int)then 1 else 0:=by
 unfold ar.mD;show(cX a P.l).countP _=_;rw[(cV a P.l).countP_eq,List.countP_cons]
 congr 1
 simp
def ar.Ik(P:ar)(a:Nat):P.mD a<=P.l.length:=List.countP_le_length
def ar.bd(P:ar):P.vec.length=P.n:=by simp[ar.vec]
def ar.jw(P:ar)(b:a<P.n):P.vec[a]? =some (P.mD a:Int):=by simp[ar.vec,b]
def ar.gE(S:ar)(P:a<S.n):S.vec.getD a 0=(S.mD a:Int):=by rw[QQ,S.jw P];rfl
def ar.PT(P:ar)(c:aj)(f:c.origin=(a:Int)):ar.vec ⟨P.n,cX c P.l⟩=P.vec.set a (P.mD a+1:Int):=by
 apply X3;intro d
 by_cases b:d<P.n
 ·rw[ar.jw ⟨P.n,cX c P.l⟩ b,ar.CK,Xj,P.jw b,P.bd]
  by_cases e:a=d
  ·subst e;simp[f,b]
  ·rw[Zq e,Zq oM];simp
 ·rw[Q7 (by rw[ar.bd];exact Nat.le_of_not_lt b),Q7 (by rw[List.length_set,P.bd];omega)]
def ar.add_def(P:ar)(a:aj):P.add a=if cN a P.n≠0 then(cN a P.n,P)else if(P.get (aR a)).isSome then(16,P)else
 if a.seq≠(P.vec.getD a.origin.toNat 0)+1 then(9,P)else if(List.range P.n).any λb=>!P.i_ a b then(9,P)else(0,⟨P.n,cX a P.l⟩):=rfl
def ar.xP(P:A.OK)(g:l.Ok):(A.add l).2.OK/\(A.add l).2.n=A.n:=by
 rw[ar.add_def]
 by_cases c:cN l A.n=0
 rotate_left
 ·rw[Zx c];exact⟨P,rfl⟩
 rw[Zq (by simpa using c)]
 by_cases d:(A.get (aR l)).isSome=true
 ·rw[Zx d];exact⟨P,rfl⟩
 rw[Zq d];split
 ·exact⟨P,rfl⟩
 split
 ·exact⟨P,rfl⟩
 have f:A.get (aR l)=none:=by simpa using d
 have e:=cV l A.l;refine⟨⟨P.n,uO P.Hi (ar.get_none f),?_,?_,?_⟩,rfl⟩
 ·refine(e.map aR).nodup_iff.2 ?_
  rw[QY,List.nodup_cons];exact⟨λh=>by obtain⟨b,a,i⟩:=Xk.1 h;exact ar.get_none f b a i,P.ids⟩
 ·intro b a
  rcases Q2.1 (e.mem_iff.1 a)with rfl|a
  ·exact c
  ·exact P.Eo b a
 ·intro b a
  rcases Q2.1 (e.mem_iff.1 a)with rfl|a
  ·exact g
  ·exact P.ok b a
def ar.rC(P:a<=64):ar.OK ⟨a,[]⟩:=⟨P,List.Pairwise.nil,sM,sM,sM⟩
structure ar.Cl (S:ar):Prop where
 ok:S.OK
 i_:∀e∈S.l,∀o,o<S.n->S.i_ e o=true
 le:∀e∈S.l,e.seq<=(S.mD e.origin.toNat:Int)
 has:∀(o:Nat) (s:Int),o<S.n->1<=s->s<=(S.mD o:Int)->∃e∈S.l,aR e=((o:Int),s)
def lR:A.i_ l a=true↔l.aN.getD a 0=0\/∃P,A.get ((a:Int),l.aN.getD a 0)=some P/\P.ay<l.ay/\∀b,b<P.aN.length->P.aN.getD b 0<=l.aN.getD b 0:=by
 unfold ar.i_;generalize l.aN.getD a 0=c;dsimp only
 cases d:A.get ((a:Int),c)with
 |none=>simp
 |some P=>simp
def ar.Cl.new(P:a<=64):ar.Cl ⟨a,[]⟩:=⟨ar.rC P,sM,sM,λc d _ e b=>by simp[ar.mD]at b;omega⟩
def ar.OI(P:ar.OK ⟨A.n,cX l A.l⟩)(a:A.get d1=some M):ar.get ⟨A.n,cX l A.l⟩ d1=some M:=by
 obtain⟨b,rfl⟩:=ar.get_some a;exact P.get ((cV l A.l).mem_iff.2 (QJ _ b))
def ar.il(P:ar)(a:aj):((P.add a).1≠0/\(P.add a).2=P)\/(P.add a=(0,⟨P.n,cX a P.l⟩)/\cN a P.n=0/\P.get (aR a)=none/\a.seq=P.vec.getD a.origin.toNat 0+1/\∀b,b<P.n->P.i_ a b=true):=by
 rw[ar.add_def];split
 ·rename_i c;exact .inl ⟨c,rfl⟩
 rename_i d;split
 ·exact .inl ⟨sM,rfl⟩
 rename_i e;split
 ·exact .inl ⟨sM,rfl⟩
 rename_i f;split
 ·exact .inl ⟨sM,rfl⟩
 rename_i g;refine .inr ⟨rfl,by simpa using d,by simpa using e,by simpa using f,?_⟩;simpa[List.any_eq_false]using g
def ar.CI{S:ar}(a:cN l S.n=0)(b:S.get (aR l)=none)(c:l.seq=S.vec.getD l.origin.toNat 0+1)(d:∀P,P<S.n->S.i_ l P=true):S.add l=(0,⟨S.n,cX l S.l⟩):=by
 rw[ar.add_def,Zq (by simpa using a),Zq (by simp[b]),Zq (by simpa using c),Zq];simpa[List.any_eq_false]using d
def ar.Cl.add{c:ar}(h:c.Cl){b:aj}(q:b.Ok):(c.add b).2.Cl:=by
 have l:=(ar.xP h.ok q).1;rcases c.il b with⟨-,g⟩|⟨i,r,y,s,t⟩
 ·rw[g];exact h
 rw[i]at l⊢;simp only at l⊢;obtain⟨z,A,B,-⟩:=ir r;obtain⟨j,m⟩:∃j:Nat,b.origin=j:=⟨b.origin.toNat,oM⟩
 have u:j<c.n:=oM
 rw[m,Qx,c.gE u]at s;have d:∀P,P∈cX b c.l↔P=b\/P∈c.l:=λP=>by rw[(cV b c.l).mem_iff,Q2]
 have e:∀P f,c.i_ P f=true->ar.i_ ⟨c.n,cX b c.l⟩ P f=true:=λP f a=>by
  rw[lR]at a⊢;rcases a with a|⟨v,i,g⟩
  ·exact .inl a
  ·exact .inr ⟨v,ar.OI l i,g⟩
 refine⟨l,λP a f k=>?_,λP a=>?_,λf n k i g=>?_⟩
 ·rcases(d P).1 a with rfl|a
  ·exact e _ _ (t f k)
  ·exact e _ _ (h.i_ P a f k)
 ·rw[ar.CK]
  rcases(d P).1 a with rfl|a
  ·rw[m,Qx,Zx rfl];omega
  ·have:=h.le P a
   split<;>omega
 ·rw[ar.CK]at g
  by_cases p:b.origin=(f:Int)
  ·rw[Zx p]at g
   have w:j=f:=oM
   subst w
   by_cases x:n=b.seq
   ·exact⟨b,(d b).2 (.inl rfl),by simp[aR,m,x]⟩
   ·obtain⟨P,a,o⟩:=h.has j n k i oM
    exact⟨P,(d P).2 (.inr a),o⟩
  ·rw[Zq p]at g
   obtain⟨P,a,o⟩:=h.has f n k i oM;exact⟨P,(d P).2 (.inr a),o⟩
def ar.Qb(P:ar)(a:aj):(P.add a).2.n=P.n:=by
 rcases P.il a with⟨-,b⟩|⟨c,-⟩
 ·rw[b]
 ·rw[c]
def ar.xx(P:ar)(a:aj):(P.add a).2.l.length<=P.l.length+1:=by
 rcases P.il a with⟨-,b⟩|⟨c,-⟩
 ·rw[b];omega
 ·rw[c];show(cX a P.l).length<=_;rw[(cV a P.l).length_eq];simp
def ar.qd(P:ar)(a:List aj)(b:aj):P.eI (a++[b])=((P.eI a).add b).2:=by unfold ar.eI;rw[List.foldl_append];rfl
def ar.Mz(P:ar)(a b:List aj):P.eI (a++b)=(P.eI a).eI b:=by unfold ar.eI;rw[List.foldl_append]
def ar.Cl.eI:∀{l:List aj} {S:ar},S.Cl->(∀e∈l,e.Ok)->(S.eI l).Cl
 |[],S,P,_=>P
 |e::l,S,P,a=>ar.Cl.eI (l:=l) (S:=(S.add e).2) (P.add (a e (QV ..))) λb c=>a b (QJ _ c)
def ar.MA:∀(a:List aj) (P:ar),(P.eI a).n=P.n
 |[],P=>rfl
 |e::a,P=>(ar.MA a _).trans (P.Qb e)
def ar.lM:∀(a:List aj) (P:ar),(P.eI a).l.length<=P.l.length+a.length
 |[],P=>by simp[ar.eI]
 |e::a,P=>by
  have b:=ar.lM a (P.add e).2;have c:=P.xx e;show((P.add e).2.eI a).l.length<=_;simp only[Xq];omega
def mK{a:aj}:∀{P:List aj},(∀x∈P,dU a x=false)->cX a P=P++[a]
 |[],_=>rfl
 |x::P,b=>by
  unfold cX;rw[Zq (by rw[b x (QV ..)];simp),mK λc d=>b c (QJ _ d)];rfl
def ar.Cl.take{P:ar}(g:P.Cl):∀{k:Nat},k<=P.l.length->(⟨P.n,[]⟩:ar).eI (P.l.take k)=⟨P.n,P.l.take k⟩/\ar.Cl ⟨P.n,P.l.take k⟩
 |0,_=>⟨rfl,by simpa using ar.Cl.new g.ok.n⟩
 |k+1,U=>by
  obtain⟨I,l⟩:=ar.Cl.take g (k:=k) oM;have f:P.l[k]? =some P.l[k]:=Qq oM;have m:P.l[k]∈P.l:=XY oM;generalize P.l[k]=a at f m;have v:P.l=P.l.take k++a::P.l.drop (k+1):=by
   conv=>lhs;rw[<-ZX k P.l]
   congr 1
   rw[X4 oM]
   congr 1
   have:=Qq (l:=P.l) (i:=k) oM;rw[f]at this;exact(XJ this).symm
  have p:=g.ok.Hi;have h:=g.ok.ids;rw[v]at p h;have e:∀x∈P.l,dU x a=true->x∈P.l.take k:=λx c n=>by
   rw[v]at c;rcases Q6.1 c with c|c
   ·exact c
   rcases Q2.1 c with rfl|c
   ·rw[gF]at n;omega
   ·have J:=(List.pairwise_append.1 p).2.1
    have q:=(List.pairwise_cons.1 J).1 x c;rw[im q]at n;cases n
  have b:∀x∈P.l.take k,dU x a=true:=λx c=>(List.pairwise_append.1 p).2.2 x c a (QV ..);have w:ar.get ⟨P.n,P.l.take k⟩ (aR a)=none:=by
   cases K:ar.get ⟨P.n,P.l.take k⟩ (aR a)with
   |none=>rfl
   |some x=>
    obtain⟨i,j⟩:=ar.get_some K;rw[Q3,QY,List.nodup_append]at h;exact Zz j (h.2.2 (aR x) (Xk.2 ⟨x,i,rfl⟩) (aR a) (QV ..))
  have y:=g.ok.Eo a m;obtain⟨V,W,L,X,-,-,Y,-,z,-⟩:=ir y;obtain⟨d,r⟩:∃d:Nat,a.origin=d:=⟨a.origin.toNat,oM⟩
  have s:d<P.n:=oM
  have A:∀o,o<P.n->ar.i_ ⟨P.n,P.l.take k⟩ a o=true:=λo M=>by
   have:=g.i_ a m o M;rw[lR]at this⊢;rcases this with B|⟨x,t,C,N⟩
   ·exact .inl B
   ·obtain⟨i,j⟩:=ar.get_some t
    refine .inr ⟨x,?_,C,N⟩;rw[<-j];exact l.ok.get (e x i (by rw[gF];exact .inl C))
  have E:=g.ok.ok a m;have Q:a.seq=(ar.vec ⟨P.n,P.l.take k⟩).getD a.origin.toNat 0+1:=by
   rw[r,Qx,ar.gE (S:=⟨P.n,P.l.take k⟩) s];have Z:(ar.mD ⟨P.n,P.l.take k⟩ d:Int)+1<=a.seq:=by
    rcases Int.lt_or_le (ar.mD ⟨P.n,P.l.take k⟩ d:Int) a.seq with n|O
    ·omega
    ·obtain⟨x,R,S⟩:=l.has d a.seq s L O
     have:=ar.get_none w x R;exact Zz (S.trans (by simp[aR,r])) this
   have O:a.seq<=(ar.mD ⟨P.n,P.l.take k⟩ d:Int)+1:=by
    have T:lN (a.seq-1)=a.seq-1:=by
     have:=E.seq;exact wrap_i64 (by unfold aP at*;omega)
    rw[T,r,Qx]at z;have:=A d s;rw[lR,z]at this;rcases this with B|⟨x,t,-⟩
    ·omega
    ·obtain⟨i,j⟩:=ar.get_some t
     have q:=l.le x i;have F:x.origin=d/\x.seq=a.seq-1:=by
      have:=j;simp only[aR,Prod.mk.injEq]at this;exact this
     rw[F.1,F.2,Qx]at q;omega
   show a.seq=(ar.mD ⟨P.n,P.l.take k⟩ d:Int)+1;omega
  have H:=ar.CI (S:=⟨P.n,P.l.take k⟩) y w Q A;have a0:cX a (P.l.take k)=P.l.take (k+1):=by
   rw[mK λx f=>im (b x f),Qw,f];rfl
  rw[show P.l.take (k+1)=P.l.take k++[a] by rw[Qw,f];rfl,ar.qd,I,H];have u:=l.add E;rw[H]at u;rw[show cX a (P.l.take k)=P.l.take k++[a]from mK λx f=>im (b x f)]at u⊢;exact⟨rfl,u⟩
def ar.Cl.Sb(P:A.Cl):(⟨A.n,[]⟩:ar).eI A.l=A:=by
 have:=(P.take (Q4 _)).1;rw[List.take_length]at this;exact this
def sg:kC:=⟨[(3,[(6,.slice none 0 0),(16,XH 0)])],[],[5,12],[],[(5,⟨[0,1,2,4,0,16,40,64,128,128,511,2047],[4095,4094,4093,4091,4095,4079,4055,4031,3967,3967,3839,3583],[0,0,0,1,0,2,2,0,0,0,0,0]⟩),(12,⟨[0,0,2,4,8,0,32,0,208,257,1023],[2047,2047,2045,2043,2039,2047,2015,2047,1839,2046,1791],[0,0,0,0,1,0,2,0,2,0,0]⟩)]⟩
def sh(N:PA b (.cells #[.slice r a c] 193) λv=>(rS v (ab_ b 0) λO w c3=>(∃o:Nat->ZH->Nat->Nat->Int->XU,(∃e,o e none 0 0 0 v)/\∀(e:Nat) (f:ZH) (g:Nat) (h:Nat) (P:Int) (c4:Nat->Value) (i:World),o e f g h P i->an (decide (P<(w:Int))) ((ix_ O P w λQ R=>(rI i (ad Q (R+Int.toNat P)) λj=>(∀k,bO i k->∃p:XN,(dr d λx S=>(¬p x/\(rP k (ad x S) λT=>PC_ 146 #[.ii j] k (λU q=>∃y,U= .string y/\(ak p k q/\PC_ 140 #[.pointer T,.string y] q (λV l=>∃W A X B,V= .tuple #[.slice W A X,.ii B]/\(ak p q l/\an (B !=0) (rt z ((.tuple #[.slice f g h,.ii 0])) l) ((dr d λY Z=>(rP l (ad Y Z) λa1=>PC_ 147 #[.pointer a1,.ii j] l (λa2 a3=>∃D C E m,a2= .tuple #[.slice D C E,.ii m]/\PR_ (ap_ 50 (.slice f g h) (.slice D C E)) a3 (kS_ λG F H s=>(dr d λa4 a5=>(rS s (ad a4 (a5+2)) λa6 a7 a8=>PA s (.cells #[.ii j] 3) λa9=>PR_ (ap_ 55 (.slice a6 a7 a8) (.slice (some (ab_ s 0)) 1 1)) a9 (kS_ λb0 b1 b2 b3=>(dr d λb4 b5=>PS b3 (ad b4 (b5+2)) (.slice b0 b1 b2) λb6=>(dr d λb7 b8=>PS b6 (ad b7 (b8+3)) (.ii m) λI=>an (decide (m<(A:Int))) ((∀n,bO I n->∃t:XN,(dr d λJ b9=>(¬t J/\(rP n (ad J b9) λc0=>PC_ 146 #[.ii j] n (λc1 u=>∃K,c1= .string K/\(ak t n u/\PC_ 148 #[.pointer c0,.string K,.ii m] u (kI_ λc2 L=>(ak t u L/\rt z ((.tuple #[.slice G F H,.ii c2])) L)) (pZ z))) (pZ z)))))) ((∃M,M<e/\o M G F H (XG .i64 (P+1)) I))))) (pV z)))) (pV z)) (pE z)))))) (pZ z))) (pZ z)))))))) (rt z ((.tuple #[.slice f g h,.ii 0])) i)))):ZG 96 #[.pointer d,.agg #[.slice r a c]] b z:=DC sg Tryz.func96 rfl N
end Go.Proofs.YtkpomgifkloklacGreatDoor
namespace Go.aw
open Go
def sG(P:List Int):List UInt8:=bR ((P.length:Int)::P)
def br(P:List Int):List UInt8:=fQ 2 (sG P)
def nq(P:List UInt8):List Int×lx:=bj (cf 64 ⟨P,0,0⟩).1.toNat (cf 64 ⟨P,0,0⟩).2
def jY(P:List UInt8):Option (List Int):=
 if(bw P).no≠0\/(bw P).n≠P.length\/(bw P).kind≠2 then none else if jR (nq (bw P).body).2≠0 then none else some (nq (bw P).body).1
def BY(P:List UInt8):(∀a∈(nq P).1,aP a)/\(nq P).1.length<=64/\(nq P).2.Fit:=by
 obtain⟨b,f,g,h⟩:=lx.Fit.count (r:=⟨P,0,0⟩) ⟨Qj _,.inl rfl⟩ (m:=64) oM;obtain⟨c,d,e,i⟩:=b.ints (cf 64 ⟨P,0,0⟩).1.toNat;exact⟨d,by show(bj _ _).1.length<=64;rw[e];omega,c⟩
variable{u:List Int}{w:List UInt8}
def Ls(P:jY w=some u):(∀a∈u,aP a)/\u.length<=64:=by
 unfold jY at P;split at P
 ·cases P
 split at P
 ·cases P
 ·cases P
  exact⟨(BY _).1,(BY _).2.1⟩
def BX(b:∀P∈u,aP P)(c:u.length<=64):(sG u).length<=585:=by
 have:=dW (l:=(u.length:Int)::u) (by
  intro P a;rcases Q2.1 a with rfl|a
  ·unfold aP;omega
  ·exact b P a)
 unfold sG;rw[Xq]at this;omega
def pL(P:List Int):(br P).length=(sG P).length+9:=gT _ _
end Go.aw
namespace Go.Proofs.YtkpomgifkloklacGreatDoor
open Go.aw
def aE:ByteArray:=⟨#[109,97,110,105,102,101,115,116,46,116,109,112]⟩
def ck:ByteArray:=⟨#[109,97,110,105,102,101,115,116]⟩
def dw(D:al):Int×al:=if(ax D.files aE).isSome then D.delete aE else(0,D)
def kJ(P:List Int):Nat->al->Int×al
 |0,D=>dw D
 |1,D=>D.create aE
 |2,D=>D.append aE (br P)
 |3,D=>D.sync aE
 |_,D=>D.rename aE ck
def ks(P:List Int):Nat->Nat->al->Int×al
 |_,0,D=>(0,D)
 |a,b+1,D=>if(kJ P a D).1≠0 then((kJ P a D).1,(dw (kJ P a D).2).2)else ks P (a+1) b (kJ P a D).2
def bJ(D:al)(P:List Int):Int×al:=if 64<P.length then(3,D)else ks P 0 5 D
def fB(D:al):Option (List Int):=if(D.read ck).2≠0 then none else jY (D.read ck).1
def Gf(P:List ByteArray):(qY P).Perm P:=List.mergeSort_perm _ _
variable{v:ByteArray}{f7:List ByteArray}{u:List Int}{E d9:List aj}{a c i p:Nat}{a6 f:XN}{d r:ZH}{b:World}{M l:aj}
def Lq{D:al}:v∈D.list↔(ax D.files v).isSome=true:=by
 unfold al.list;rw[(Gf _).mem_iff];constructor
 ·intro P
  cases a:ax D.files v with
  |none=>exact Zz P (qk.1 a)
  |some b=>rfl
 ·intro P
  obtain⟨b,c⟩:=Option.isSome_iff_exists.1 P;exact Xk.2 ⟨_,bV c,rfl⟩
def uq(D:al):D.list.length=D.files.length:=by unfold al.list qY;simp
def Lr(P:List Int)(d:a<5)(D:al):ks P a (5-a) D=if(kJ P a D).1≠0 then((kJ P a D).1,(dw (kJ P a D).2).2)else ks P (a+1) (5-(a+1)) (kJ P a D).2:=by
 obtain⟨b,c⟩:∃b,5-a=b+1:=⟨4-a,oM⟩
 rw[c,show 5-(a+1)=b by omega]
 rfl
def DO{D:XN}(e:Row MH 16 b D d a f7):
  ZG 263 #[.slice d a c,.string v] b (Ok λo f=>(∃l:Int,o= XH l/\(0<=l↔v∈f7))/\b=f):=by
 have u:=e.len;have p:=e.dK;unfold aT at p;refine jb ⟨λm i f=>∃P:Nat,i=P/\P<=a/\m=a-P/\v∉f7.take P/\b=f,⟨_,0,rfl,Qj _,rfl,sM,rfl⟩,?_⟩;rintro m i _ _ ⟨P,rfl,w,rfl,g,rfl⟩;refine an.dec (λq=>?_) (λq=>?_)
 ·obtain⟨r,j,x,rfl,n,_,s⟩:=e.mI (i:=P) oM
  refine⟨r,j,rfl,oM,oM,_,s,an.Us (λk=>?_) (λk=>?_)⟩
  ·exact Ok.mk ⟨⟨_,rfl,λ_=>k▸QZ n,λ_=>oM⟩,rfl⟩
  ·refine⟨_,oM,P+1,aq oM,oM,rfl,?_,rfl⟩
   rw[Qw,n];intro t;rcases Q6.1 t with h|h
   ·exact g h
   ·simp at h;exact k h
 ·rw[Qz oM]at g
  exact Ok.mk ⟨⟨_,rfl,λh=>oM,λh=>Zz h g⟩,rfl⟩
def xr{D:XN}(P:Row MH 16 b D d a f7):
  ZG 212 #[.slice d a c,.string v] b (Ok λe f=>e= .bool (decide (v∈f7))/\b=f):=by
 refine gY (PC.ok (DO P) ?_);rintro _ _ ⟨⟨h,rfl,g⟩,rfl⟩;exact⟨_,rfl,Ok.mk ⟨by rw[decide_eq_decide.2 g],rfl⟩⟩
def pK{D:al}(P:aV b a f D):ZG 153 #[XL a] b (Ok (tL b a f (dw D))):=by
 refine vg (PC.ok (BD P) ?_);rintro _ m ⟨n,o,p,G,rfl,h,c,q⟩;have r:D.list.length<=64:=by rw[uq];exact P.ok.many
 refine⟨_,_,_,rfl,PC.ok (xr (h.row dC ba)) ?_⟩;rintro _ _ ⟨rfl,rfl⟩;have g:(aE∈D.list)↔(ax D.files aE).isSome=true:=Lq;refine⟨_,rfl,an.dec (λd=>PC.ok (vW (P.ah c)) λi j k=>kL i j c ?_) (λd=>?_)⟩
 ·have e:dw D=D.delete aE:=by unfold dw;rw[Zx (g.1 d)]
  rw[e];exact k
 ·have e:dw D=(0,D):=by unfold dw;rw[Zq λl=>d (g.2 l)]
  rw[e];exact Ok.mk (tL.same (P.ah c) c.af)
def zI(C:qS b)(t:Row aQ 8 b f d a u)(v:∀j∈u,aP j)(hD:∀e,f e->e<b.heap.size)(E:u.length<=64):
  ZG 157 #[.agg #[.slice d a c]] b (Ok (qw fP 5 b (br u))):=by
 have F:=t.len;refine vh (PA.mk λH I s1 w=>⟨_,_,_,ae w rfl,PC.ok (yR (m:=(a:Int)) bb (Row.nil H λ_=>False) ba λ_ J=>J.elim) ?_⟩);rintro _ L ⟨a2,n2,c2,M,rfl,x,y,N⟩;have O:ai b L:=I.then y;have Q:mX (a:Int)=bR ((a:Int)::u.take 0):=by simp[bR]
 rw[List.nil_append,Q]at x;refine⟨_,_,_,rfl,_,_,_,ae (y.get w id) rfl,λz m n o i A=>∃P:Nat,i=P/\P<=a/\z=a-P/\∃B,aU fP 5 B A m n o (bR ((a:Int)::u.take P))/\ai b A/\∀e,B e->b.heap.size<=e,
  ⟨_,0,rfl,Qj _,rfl,M,x,O,λe k=>by have:=N e k;omega⟩,?_⟩
 rintro z m n o i _ R ⟨P,rfl,hj,rfl,S,g,h,a0⟩;have a1:(bR ((a:Int)::u.take P)).length<=9*(P+1):=by
  have h1:=dW (l:=(a:Int)::u.take P) (by
   intro j K;rcases Q2.1 K with rfl|K
   ·unfold aP;omega
   ·exact v j (List.mem_of_mem_take K))
  have h2:((a:Int)::u.take P).length=P+1:=by simp;omega
  omega
 have a3:=g.len dC;refine an.dec (λa5=>?_) (λa6=>?_)
 ·obtain⟨e,p,j,rfl,K,T,U⟩:=(t.ah h).mI (i:=P) oM
  refine⟨e,p,rfl,oM,oM,_,U,PC.ok (yR T (g.row (bytes:=1) dC ba) ba g.aF) ?_⟩;rintro _ V ⟨W,X,Y,q,rfl,l,r,s⟩;refine⟨_,_,_,rfl,_,?_,P+1,aq oM,oM,rfl,q,?_,h.then r,λe k=>by have:=s e k;have:=h.size;omega⟩
  ·omega
  ·have Z:bR ((a:Int)::u.take (P+1))=bR ((a:Int)::u.take P)++mX j:=by
    rw[Qw,K,<-List.cons_append,gJ]
    congr 1
    simp[bR]
   rw[Z];exact l
 ·obtain rfl:P=a:=oM
  rw[Qz oM,F]at g
  change aU fP 5 S R m n o (sG u)at g
  have a7:=BX v E;refine PC.ok (BH (C.ah h) (g.row (bytes:=1) dC ba) g.aF) ?_;rintro _ V ⟨_,rfl,W,X,Y,q,rfl,l,r,s⟩;rw[show jr 2 (sG u)=(br u,0) by unfold jr br;rw[Zq dC,Zq oM]]at l⊢;exact⟨_,_,_,_,rfl,Ok.mk ⟨_,_,_,q,rfl,l,h.then r,λe k=>by have:=s e k;have:=h.size;omega⟩⟩
def zJ{D:al}(ht:qS b)(hD:aV b a f D)(hl:Row aQ 8 b a6 d c u)(a8:∀b8∈u,aP b8)(a3:∀P,a6 P->P<b.heap.size/\¬f P)(a9:∀P,f P->P≠2/\P≠3):
  ZG 98 #[XL a,.agg #[.slice d c i]] b (Ok (tL b a f (bJ D u))):=by
 have hn:=hl.len;refine uR (PA.mk λw1 k1 s1 g1=>PA.mk λk U s2 g2=>PA.mk λw3 H s3 g3=>⟨_,_,_,ae (H.get g2 id) rfl,an.dec (λh=>?_) (λh=>?_)⟩)
 ·refine PS.mk g3 sM λp B s4 g4=>⟨_,ae g4 rfl,?_⟩
  have l:bJ D u=(3,D):=by unfold bJ;rw[Zx oM]
  rw[l];have y:ai b p:=((k1.then U).then H).new B λP e=>.inr oM;exact Ok.mk (tL.same (hD.ah y) y.af)
 refine PA.mk λp B s4 g4=>?_;have y:ai b p:=((k1.then U).then H).then B;have l:bJ D u=ks u 0 5 D:=by unfold bJ;rw[Zq oM]
 rw[l];have I:=hD.aF;refine⟨λa2 M m=>∃(t:Nat) (J:al) (v:XN),M=t/\t<=5/\a2=5-t/\ks u 0 5 D=ks u t (5-t) J/\aV m a v J/\ak (λP=>f P\/P=k.heap.size) p m/\(∀P,v P->f P\/p.heap.size<=P)/\m.heap[k.heap.size]? =some (.cells #[XH 0] 34 (0,0)),
  ⟨_,0,D,f,rfl,oM,rfl,rfl,hD.ah y,ak.refl _,λP e=>.inl e,B.get g3 id⟩,?_⟩
 rintro a2 M _ x ⟨t,J,v,rfl,hi,rfl,N,C,E,V,ge⟩;have W:∀P,b.heap.size<=P->P<p.heap.size->¬v P:=λP h1 h2 hf=>by
  rcases V P hf with h|h
  ·have:=I P h;omega
  ·omega
 have O:x.heap[b.heap.size]? =some (.cells #[XL a] 76 (0,0)):=E.get (B.get (H.get (U.get g1 id) id) id) (λq=>q.elim (λh=>by have:=I _ h;omega) (λh=>oM));have gm:x.heap[w1.heap.size]? =some (.cells #[.slice d c i] 193 (0,0)):=E.get (B.get (H.get g2 id) id) (λq=>q.elim (λh=>by have:=I _ h;omega) (λh=>oM));have Q:=E.get g4 (λq=>q.elim (λh=>by have:=I _ h;omega) (λh=>oM));have c6:=E.size;have w:∀(l:Int) (R:al) (G:XN) (j:World),aV j a G R->ak (λP=>f P\/P=k.heap.size) p j->(∀P,G P->f P\/p.heap.size<=P)->j.heap[k.heap.size]? =some (.cells #[XH l] 34 (0,0))->
   ks u 0 5 D=(l,if l≠0 then(dw R).2 else R)->
   Lv XP (λb0=>∃A:Int,b0.cell? ⟨k.heap.size,0,none⟩=some (XH A)/\Ok (tL b a f (ks u 0 5 D)) (.returned (XH A)) b0) (λch m=>Ok (tL b a f (ks u 0 5 D)) (.panicked ch) m)
    ([{target:=.fn (.func 152) #[XL k.heap.size,XL b.heap.size],args:= #[]}]:List Deferred) .returning j:=by
  intro l R G j hE r hG X hr;have b9:j.heap[b.heap.size]? =some (.cells #[XL a] 76 (0,0)):=r.get (B.get (H.get (U.get g1 id) id) id) (λq=>q.elim (λh=>by have:=I _ h;omega) (λh=>oM));have n:∀o (K:XN) (E':al),aV o a K E'->dy G j K o->ks u 0 5 D=(l,E')->∃A:Int,o.cell? ⟨k.heap.size,0,none⟩=some (XH A)/\Ok (tL b a f (ks u 0 5 D)) (.returned (XH A)) o:=by
   intro o K E' a4 s a0;have c0:¬G k.heap.size:=λh=>(hG _ h).elim (λh=>by have:=I _ h;omega) (λh=>oM);have c7:=r.size;refine⟨l,ae (s.af.get X c0) rfl,Ok.mk ?_⟩;rw[a0];refine⟨K,rfl,a4,?_,λP e=>?_⟩
   ·have c1:ak f b j:=y.af.new r λP e=>e.imp id λh=>by omega
    exact c1.new s.af λP e=>(hG P e).imp id λh=>by omega
   ·rcases s.new P e with h|h
    ·exact(hG P h).imp id λh=>by omega
    ·exact .inr oM
  refine Lv.one sM kR (CallsD.mono (qA (R:=λe' o=>e'= .returned (.tuple #[])/\∃A:Int,o.cell? ⟨k.heap.size,0,none⟩=some (XH A)/\Ok (tL b a f (ks u 0 5 D)) (.returned (XH A)) o) ⟨_,ae X rfl,an.dX (λY=>?_) (λZ=>?_)⟩) ?_)
  ·refine⟨_,ae b9 rfl,PC.ok (pK hE) ?_⟩
   rintro _ o ⟨K,rfl,a4,s⟩;exact⟨_,rfl,rfl,n o K _ a4 s (by rw[hr,Zx Y])⟩
  ·exact⟨rfl,n j G R hE (dy.refl _ _) (by rw[hr,Zq (by simpa using Z)])⟩
  ·rintro e' u' o ⟨rfl,rfl,hX⟩
   exact Lv.ret rfl hX
 refine an.dec (λc8=>?_) (λc9=>?_)
 ·have b1:t<5:=oM
  have step:∀κ ε,(∀z m,tL x a v (kJ u t J) z m->κ z m)->∃b2:Value,x.cell? ⟨w3.heap.size,0+Int.toNat (t:Int),none⟩=some b2/\∃a5 a7 b3,b2= .func (.func a5) a7 b3/\enters XP a5=true/\PC XP a5 (a7++ #[]++b3) x κ ε:=by
   intro κ ε g;rw[Qx,Xz];have n:∀{b4:Int×al} {z m},tL x a v b4 z m->∃M:Int,z= XH M/\Ok (tL x a v b4) (.returned (XH M)) m:=λh=>kL _ _ (ak.refl _) h
   match t,b1,g with
   |0,_,g=>exact⟨_,ae Q rfl,_,_,_,rfl,kR,PC.ok (rU ⟨_,ae O rfl,PC.ok (pK C) λz m h=>n h⟩) g⟩
   |1,_,g=>exact⟨_,ae Q rfl,_,_,_,rfl,kR,PC.ok (rV ⟨_,ae O rfl,PC.ok (vX C) λz m h=>n h⟩) g⟩
   |2,_,g=>
    refine⟨_,ae Q rfl,_,_,_,rfl,kR,PC.ok (φ:=tL x a v (kJ u 2 J)) (rW λj d6=>?_) g⟩;have r:ai x j:=d6.af;have F:ak (λP=>f P\/P=k.heap.size) p j:=E.then r.af;have c2:Row aQ 8 j a6 d c u:=(hl.ah y).af F λP e q=>q.elim (a3 P e).2 λh=>by have:=(a3 P e).1;omega
    have c3:qS j:=by
     have:=(ht.ah y)
     have d0:b.heap.size<=p.heap.size:=y.size;have h1:=ht.lt;have hz:=F.size;refine⟨λS hj=>?_,λS hj=>?_,oM⟩
     ·exact(this.lower S hj)▸F.cell (a:=⟨2,S,none⟩) (by show 2<_;omega) (λq=>q.elim (λh=>(a9 _ h).1 rfl) (λh=>by have h:2=k.heap.size:=h;omega))
     ·exact(this.upper S hj)▸F.cell (a:=⟨3,S,none⟩) (by show 3<_;omega) (λq=>q.elim (λh=>(a9 _ h).2 rfl) (λh=>by have h:3=k.heap.size:=h;omega))
    refine⟨v,W _ (Q4 _) oM,_,ae (r.get O id) rfl,_,_,_,ae (r.get gm id) rfl,PC.ok (zI c3 c2 a8 (λP e=>by have:=(a3 P e).1;have:=y.size;have:=F.size;omega) oM) ?_⟩;rintro _ o ⟨d1,n7,d2,F7,rfl,a1,L,c4⟩;have d3:=pL u;have d4:=BX a8 oM;refine⟨_,_,_,rfl,L.af,PC.ok (vY ((C.ah r).ah L) (a1.row dC ba) (λl=>a1.Pw l) λP e=>⟨a1.aF P e,λhf=>by have:=C.aF P hf;have:=c4 P e;have:=r.size;omega⟩) ?_⟩;rintro _ w8 ⟨F8,rfl,c5,s⟩;exact⟨_,rfl,s.af,Ok.mk ⟨F8,rfl,c5,(dy.mk (ai.af (r.then L)) λ_ h=>.inl h:dy v x v o).trans s⟩⟩
   |3,_,g=>exact⟨_,ae Q rfl,_,_,_,rfl,kR,PC.ok (rX ⟨_,ae O rfl,PC.ok (BB C) λz m h=>n h⟩) g⟩
   |4,_,g=>exact⟨_,ae Q rfl,_,_,_,rfl,kR,PC.ok (rY ⟨_,ae O rfl,PC.ok (Fz C) λz m h=>n h⟩) g⟩
  refine⟨_,_,rfl,oM,oM,step _ _ ?_⟩;rintro _ j ⟨F6,rfl,h6,s⟩;have b5:∀P,F6 P->P≠k.heap.size:=λP e l=>by
   subst l;rcases s.new _ e with h|h
   ·exact W _ oM oM h
   ·omega
  have b6:∀P,F6 P->f P\/p.heap.size<=P:=λP e=>by
   rcases s.new P e with h|h
   ·exact V P h
   ·exact .inr oM
  have F:ak (λP=>f P\/P=k.heap.size) p j:=E.new s.af λP e=>(V P e).imp .inl id;refine⟨_,rfl,PS.mk (s.af.get ge (W _ oM oM)) sM λo L s7 T=>?_⟩;have h7:=h6.af L λP e=>b5 P e;have b7:ak (λP=>f P\/P=k.heap.size) p o:=F.then (L.mono λP _ e=>.inr e);rw[Lr u b1]at N;refine⟨_,ae T rfl,an.dX (λY=>?_) (λZ=>?_)⟩
  ·refine⟨_,ae T rfl,PS.mk T sM λw8 k8 s8 g8=>?_⟩
   exact w _ _ F6 w8 (h7.af k8 λP e=>b5 P e) (b7.then (k8.mono λP _ e=>.inr e)) b6 g8 (by rw[N,Zx Y,Zx Y])
  ·rw[Zq (by simpa using Z)]at N
   rw[Z]at T;exact⟨rfl,_,oM,t+1,_,F6,aq oM,oM,rfl,N,h7,b7,b6,T⟩
 ·obtain rfl:t=5:=oM
  refine⟨_,ae ge rfl,PS.mk ge sM λj r s6 X=>?_⟩;refine w 0 J v j (C.af r λP e l=>W P oM oM e) (E.then (r.mono λP _ e=>.inr e)) V X ?_;rw[N];rfl
def Bg{D:al}(ht:qS b)(hD:aV b a f D):
  ZG 95 #[XL a] b (Ok λQ i=>∃n o p G,Q= .tuple #[.agg #[.slice n o p],.bool (fB D).isSome]/\aU aQ 3 G i n o p ((fB D).getD [])/\ai b i/\∀P,G P->b.heap.size<=P):=by
 refine wV (PA.mk λA C s1 g1=>PC.ok (vy (hD.ah C)) ?_);rintro _ w2 ⟨_,rfl,a7,n2,c2,F2,rfl,u,R,e7⟩
 change aU fP 5 F2 w2 a7 n2 c2 (D.read ck).1 at u
 have b3:(D.read ck).1.length<=262144:=by
  unfold al.read;split
  ·simp
  ·split
   ·simp
   ·rename_i e8 hf;exact hD.ok.len (bV hf)
 have a3:∀{i},ai A i->i.heap[b.heap.size]? =some (.cells #[.slice none 0 0] 193 (0,0)):=λhk=>hk.get g1 id;have e:fB D=none->∀v,ai A v->PS v ⟨b.heap.size,0,none⟩ (.slice none 0 0) λw=>∃(b4:ZH) (b5:Nat) (b6:Nat),w.cell? ⟨b.heap.size,0,none⟩=some (.slice b4 b5 b6)/\
   Ok (λQ i=>∃n o p G,Q= .tuple #[.agg #[.slice n o p],.bool (fB D).isSome]/\aU aQ 3 G i n o p ((fB D).getD [])/\ai b i/\∀P,G P->b.heap.size<=P) (.returned (.tuple #[.agg #[.slice b4 b5 b6],.bool false])) w:=by
  intro S v E;refine PS.mk (a3 E) sM λw4 T s4 U=>⟨_,_,_,ae U rfl,?_⟩
  rw[S];exact Ok.mk ⟨none,0,0,λ_=>False,rfl,aU.nil w4,(C.then E).new T λP c=>.inr oM,λ_ h=>h.elim⟩
 refine⟨_,_,_,_,rfl,an.dX (λl=>e (by unfold fB;exact Zx l) w2 R) (λS=>?_)⟩;have B:fB D=jY (D.read ck).1:=by unfold fB;exact Zq λh=>h S
 generalize(D.read ck).1=F at u b3 B;have d5:=u.len dC;refine PC.ok (BI (ht.ah (C.then R)) (u.row (bytes:=1) dC ba) u.lb u.aF) ?_;rintro _ v ⟨c3,n3,d1,F3,rfl,b7,E,e9⟩;refine⟨_,_,_,_,_,_,rfl,PA.mk λw4 T s4 U=>PS.mk U sM λw5 k5 s5 g5=>PS.mk g5 sM λx k6 s6 g6=>?_⟩;have V:x.heap[v.heap.size]? =some (.cells #[XH (bw F).kind,.slice c3 n3 d1] 262 (0,0)):=g6;have W:ai v x:=(T.new k5 λP c=>.inr oM).new k6 λP c=>.inr oM;have s:ai A x:=(R.then E).then W;have f0:=W.size;refine an.dX (λl=>e (by rw[B];unfold jY;exact Zx (.inl l)) x s) (λb8=>?_);refine an.dX (λl=>e (by rw[B];unfold jY;exact Zx (.inr (.inl λg=>l (by rw[g,d5])))) x s) (λg0=>?_);refine⟨_,ae V rfl,an.dX (λl=>e (by rw[B];unfold jY;exact Zx (.inr (.inr l))) x s) (λd6=>?_)⟩;have X:fB D=if jR (nq (bw F).body).2≠0 then none else some (nq (bw F).body).1:=by
  rw[B];unfold jY;refine Zq ?_;rintro(h|h|h)
  ·exact h b8
  ·exact h oM
  ·exact h d6
 have Y:=b7.ah W;obtain⟨g2,h9,d7⟩:=tT b8;generalize(bw F).body=d at Y X d7 V b7;refine⟨_,_,_,ae V rfl,PC.ok (BE (Y.row (bytes:=1) dC ba) Y.aF) ?_⟩;rintro _ w ⟨H,a4,rfl,I,k7,hP⟩;refine⟨_,rfl,PA.mk λw8 k8 s8 g8=>PC.ok (FA (m:=64) (I.ah k8)) ?_⟩;rintro _ t ⟨rfl,Z,k9⟩;have b9:=I.aF;have hq:=I.self;have g3:=b9 H hq;have g7:=hP H hq;obtain⟨c1,a8,c0,c4⟩:=lx.Fit.count (r:=⟨d,0,0⟩) ⟨Qj _,.inl rfl⟩ (m:=64) oM;have g9:t.heap[w.heap.size]? =some (.cells #[.slice none 0 0] 193 (0,0)):=k9.get g8 (λg=>oM);have J:nq d=bj (cf 64 ⟨d,0,0⟩).1.toNat (cf 64 ⟨d,0,0⟩).2:=rfl;have K:ai A t:=((s.then k7).then k8).new k9 λP c=>.inr (by have:=s.size;omega);generalize h2:cf 64 ⟨d,0,0⟩=ct at Z c1 a8 c0 c4 J;obtain⟨cn,L⟩:=ct;simp only at Z c1 a8 c0 c4 J;refine⟨_,rfl,λm a5 i=>∃j:Nat,a5=j/\(j:Int)<=cn/\m=cn.toNat-j/\eM i H a4 (bj j L).2/\ai A i/\∃n o p G,i.heap[w.heap.size]? =some (.cells #[.slice n o p] 193 (0,0))/\aU aQ 3 G i n o p (bj j L).1/\(∀P,G P->t.heap.size<=P)/\t.heap.size<=i.heap.size,
  ⟨_,0,rfl,a8,rfl,Z,K,none,0,0,λ_=>False,g9,aU.nil t,λ_ h=>h.elim,Q4 _⟩,?_⟩
 have h3:=k9.size;rintro m a5 _ c5 ⟨j,rfl,hj,rfl,a0,M,c6,c7,c8,c9,a9,y,q,f2⟩;have d8:∀P,a4 P->P<t.heap.size:=λP c=>by have:=b9 P c;omega
 refine an.dec (λh4=>?_) (λh5=>?_)
 ·intro N b0
  have k:ai c5 N:=b0.af;refine⟨(λP=>P=H\/c9 P),λhs=>hs.elim (λg=>oM) (λg=>by have:=q _ g;omega),_,_,_,ae (k.get a9 id) rfl,PC.ok (Dg (a0.ah k)) ?_⟩;rintro _ d0 ⟨rfl,d2,r⟩;obtain⟨f1,f4,f3,f5⟩:=c1.ints j;obtain⟨f7,f6,f8⟩:=f1.int;refine⟨_,rfl,r.mono λP _ c=>.inl c,?_⟩;have a1:=(y.ah k).af r λP c g=>by have:=q P c;omega
  refine PA.mk λh6 z h7 d9=>⟨z.af,?_⟩
  have d4:=a1.ah z;have d3:(bj j L).1.length=j:=f3;refine jQ d4 sX (D:=(·=d0.heap.size)) (Row.lit d9 [(fg (bj j L).2).1] rfl (λf9 hx=>by simp at hx;subst hx;exact f6) (by unfold aT;simp)) (λP g=>⟨oM,λe2=>by have:=a1.aF P (a1.self P e2);omega⟩) (by rw[d3];unfold aT;simp;omega) (by rw[d3];unfold maxLen;simp;omega) λb1 e0 e1 h8 a2 O _ e3=>?_
  replace a2:=a2.alone
  have e4:e1.heap[w.heap.size]? =some (.cells #[.slice c6 c7 c8] 193 (0,0)):=O.get (z.get (r.get (k.get a9 id) (λg=>oM)) id) (λg=>by have:=q _ (y.self _ g);omega);have z1:=k.size;have z2:=r.size;have z3:=z.size;have z4:=O.size;have a6:∀P,aI b1=some P->t.heap.size<=P:=λP c=>by
   rcases e3 P c with h|h
   ·exact q P h
   ·omega
  refine⟨_,_,_,rfl,PS.mk e4 sM λi0 b2 i1 e5=>⟨_,oM,j+1,aq oM,oM,rfl,?_,?_,b1,_,e0,(λP=>aI b1=some P),e5,?_,a6,oM⟩⟩
  ·refine(((d2.ah z).af O λP c g=>by have:=d8 P c;have:=q P (y.self P g);omega)).af b2 λP c g=>by have:=I.aF P c;omega
  ·refine((((M.then k).new r λP c=>.inr (by have:=s.size;omega)).then z).new O λP c=>.inr (by have:=q P (y.self P c);have:=K.size;omega)).new b2 λP c=>.inr (by have:=(s.then k7).size;omega)
  ·exact a2.af b2 λP c g=>by have:=a6 P c;omega
 ·obtain rfl:cn=(j:Int):=oM
  rw[Qx]at J;rw[<-J]at a0 y;refine PC.ok (JF a0) ?_;rintro _ N ⟨rfl,b0⟩;have k:ai c5 N:=b0.af;refine⟨_,rfl,an.dX (λl=>e (by rw[X];exact Zx l) N (M.then k)) (λh0=>?_)⟩;have hS:fB D=some (nq d).1:=by rw[X];exact Zq λh=>h h0
  rw[hS];refine⟨_,_,_,ae (k.get a9 id) rfl,PS.mk (a3 (M.then k)) sM λd0 r i2 e6=>⟨_,_,_,ae e6 rfl,Ok.mk ⟨c6,c7,c8,c9,rfl,?_,?_,?_⟩⟩⟩
  ·exact(y.ah k).af r λP c g=>by have:=q P c;have:=K.size;omega
  ·exact(C.then (M.then k)).new r λP c=>.inr oM
  ·intro P c;have:=q P c;have:=K.size;omega
def Cp{x y:Operand}{a b c d:Int}{w:World}:(do eqGuard .eql 39 x y (.agg #[XH a,XH b]) (.agg #[XH c,XH d]);binOp .eql 39 (.agg #[XH a,XH b]) (.agg #[XH c,XH d]):Sem Value).run XP w= .ok (.bool (a==c&&b==d)) w:=by
 have g:Tryz.prog.underlying 39=some (.struct (Tryz.prog.fieldsOf 39)):=kR
 have f:Tryz.prog.underlying 3=some (.int .i64):=kR
 have P:(Tryz.prog.fieldsOf 39).toList.map (λe=>(e.name,e.type,e.offset))=[("Origin",3,0),("Seq",3,1)]:=kR
 rw[Sem.run_bind,run_eqGuard_agg w .eql _ x y _ _ kR,Result.andThen_ok,run_eql_struct,run_equalIn_struct w 9999 _ _ _ g kR];generalize(Tryz.prog.fieldsOf 39).toList=h at P
 match h,P with
 |[e,t],P=>
  simp only[QY,List.map_nil,List.cons.injEq,Prod.mk.injEq,and_true]at P;obtain⟨⟨i,j,k⟩,l,m,n⟩:=P;have o:(isAgg 3).run XP w= .ok false w:=cW _ _ _ kR ⟨_,f⟩ w;have p:=run_equalIn_int (P:=XP) w 9998 3 .i64 .i64 a c f;have q:=run_equalIn_int (P:=XP) w 9998 3 .i64 .i64 b d f;unfold Op.eqFields Op.eqFields Op.eqFields;rw[i,j,k,l,m,n]
  cases r:a==c<;>simp[part,o,p,q,r]
  by_cases s:b=d<;>simp[s]
 |[],P=>simp at P
 |[_],P=>simp at P
 |_::_::_::_,P=>simp at P
def iF{c k s t:Nat}{xs ys:List Int}{D u:XN}(e:Row aQ 8 b D d c xs)(l:Row aQ 8 b u r k ys):
  ZG 14 #[.slice d c s,.slice r k t] b (Ok λv f=>v= .bool (decide (xs=ys))/\bO b f):=by
 have w:=e.len;have x:=l.len;have y:=e.dK;unfold aT at y;refine yk (an.dX (λm=>?_) (λm=>?_))
 ·have g:xs≠ys:=by rintro rfl;simp[w,x]at m
  exact Ok.mk ⟨by simp[g],bO.refl b⟩
 ·refine⟨λn i f=>∃P:Nat,i=P/\P<=c/\n=c-P/\xs.take P=ys.take P/\bO b f,⟨_,0,rfl,Qj _,rfl,rfl,bO.refl b⟩,?_⟩
  rintro n i _ K ⟨P,rfl,L,rfl,o,a⟩;refine an.dec (λz=>?_) (λz=>?_)
  ·obtain⟨A,B,M,rfl,p,_,C⟩:=(e.ah a.af).mI (i:=P) oM
   obtain⟨E,F,N,rfl,h,_,H⟩:=(l.ah a.af).mI (i:=P) oM;refine⟨A,B,rfl,oM,oM,_,C,E,F,rfl,oM,oM,_,H,λO q=>?_⟩;refine an.dX (λj=>?_) (λj=>?_)
   ·have g:xs≠ys:=by rintro rfl;rw[p]at h;cases h;exact j rfl
    exact Ok.mk ⟨by simp[g],a.then q⟩
   ·subst j
    exact⟨_,oM,P+1,aq oM,oM,rfl,BK o p h,a.then q⟩
  ·have:xs=ys:=by
    have I:xs.take P=xs:=Qz oM;have J:ys.take P=ys:=Qz oM;rw[<-I,<-J,o]
   exact Ok.mk ⟨by simp[this],a⟩
def kZ{D y:XN}(z:Row aQ 8 b D d a l.aN)(A:Row aQ 8 b y r c M.aN):
  ZG 37 #[.agg (aD l d a i).toArray,.agg (aD M r c p).toArray] b (Ok λn h=>n= .bool (decide (l=M))/\ai b h):=by
 have no:∀{h},ai b h->l≠M->Ok (λn h=>n= .bool (decide (l=M))/\ai b h) (.returned (.bool false)) h:=λB C=>Ok.mk ⟨by rw[Xv C],B⟩;refine wQ (PA.mk λI E J F=>PA.mk λs t K k=>?_);have e:=t.get F id;have m:ai b s:=E.then t;refine⟨_,_,ae e rfl,ae e rfl,_,_,ae k rfl,ae k rfl,aH.mk Cp ⟨_,rfl,an.mk (λo=>?_) (λo=>?_)⟩⟩
 rotate_left
 ·exact no m λP=>by subst P;simp at o
 refine⟨_,ae e rfl,_,ae k rfl,an.eG (λu=>?_) (λu=>no m λP=>u (by rw[P]))⟩;refine⟨_,_,_,ae e rfl,_,_,_,ae k rfl,PC.ok (iF (z.ah m) (A.ah m)) ?_⟩;rintro _ v ⟨rfl,H⟩;have q:ai s v:=H.af;have e:=q.get e id;have j:=q.get k id;have g:ai b v:=m.then q;refine⟨_,rfl,an.dec (λw=>?_) (λw=>no g λP=>w (by rw[P]))⟩;refine⟨_,ae e rfl,_,ae j rfl,an.eG (λL=>?_) (λf=>no g λP=>f (by rw[P]))⟩;refine⟨_,ae e rfl,_,ae j rfl,an.eG (λN=>?_) (λf=>no g λP=>f (by rw[P]))⟩;refine⟨_,ae e rfl,_,ae j rfl,an.eG (λO=>?_) (λf=>no g λP=>f (by rw[P]))⟩;refine⟨_,ae e rfl,_,ae j rfl,an.eG (λQ=>?_) (λf=>no g λP=>f (by rw[P]))⟩;refine⟨_,ae e rfl,_,ae j rfl,an.eG (λR=>?_) (λf=>no g λP=>f (by rw[P]))⟩;refine⟨_,ae e rfl,_,ae j rfl,Ok.mk ⟨?_,g⟩⟩
 congr 1
 have S:l.origin=M.origin/\l.seq=M.seq:=by simpa using o
 by_cases x:l.key=M.key
 ·have:l=M:=by cases l;cases M;simp_all
  subst this;simp
 ·rw[Xv λP=>x (by rw[P])]
  simp[x]
def zj{e n w x:Nat}{D y:XN}(g:Row iX 96 b D d e E)(o:Row iX 96 b y r n d9):
  ZG 13 #[.slice d e w,.slice r n x] b (Ok λz h=>z= .bool (decide (E=d9))/\ai b h):=by
 have A:=g.len;have B:=o.len;have C:=g.dK;unfold aT at C;refine uS (an.dX (λp=>?_) (λp=>?_))
 ·have j:E≠d9:=by rintro rfl;simp[A,B]at p
  exact Ok.mk ⟨by simp[j],ak.refl b⟩
 ·refine⟨λq i h=>∃c:Nat,i=c/\c<=e/\q=e-c/\E.take c=d9.take c/\ai b h,⟨_,0,rfl,Qj _,rfl,rfl,ak.refl b⟩,?_⟩
  rintro q i _ S ⟨c,rfl,T,rfl,s,t⟩;refine an.dec (λF=>?_) (λF=>?_)
  ·intro H I
   have f:ai b H:=t.then I.af;obtain⟨J,K,U,V,rfl,_,_,u,L,W,X,Y,rfl,M,Z⟩:=(g.ah f).uH (i:=c) oM;obtain⟨N,O,a0,fs,rfl,_,_,k,Q,a2,n2,c2,rfl,R,a3⟩:=(o.ah f).uH (i:=c) oM;have P:=λi (l:i<10)=>L i l;have a:=λi (l:i<10)=>Q i l;refine⟨J,K,rfl,oM,oM,_,_,_,_,_,_,_,_,_,_,_,_,P 0 dC,P 1 dC,P 2 dC,P 3 dC,P 4 dC,P 5 dC,P 6 dC,P 7 dC,P 8 dC,P 9 dC,?_⟩;refine⟨N,O,rfl,oM,oM,_,_,_,_,_,_,_,_,_,_,_,_,a 0 dC,a 1 dC,a 2 dC,a 3 dC,a 4 dC,a 5 dC,a 6 dC,a 7 dC,a 8 dC,a 9 dC,?_⟩;refine PC.ok (kZ M R) ?_;rintro _ w3 ⟨rfl,v⟩;refine⟨_,rfl,an.not (an.dec (λm=>?_) (λm=>?_))⟩
   ·subst m
    exact⟨_,oM,c+1,aq oM,oM,rfl,BK s u k,f.then v⟩
   ·have j:E≠d9:=by rintro rfl;rw[u]at k;cases k;exact m rfl
    exact Ok.mk ⟨by simp[j],f.then v⟩
  ·have:E=d9:=by
    have P:E.take c=E:=Qz oM;have a:d9.take c=d9:=Qz oM;rw[<-P,<-a,s]
   exact Ok.mk ⟨by simp[this],t⟩
def Ip{D:XN}(h:Row iX 96 b D d a E):
  ZG 42 #[.slice d a c] b (Ok λn j=>n= .bool (decide ((∃e∈E,100<e.aN.length)\/200<E.length))/\b=j):=by
 have w:=h.len;have o:=h.dK;unfold aT at o;refine CR ⟨λl i j=>∃f:Nat,i=f/\f<=a/\l=a-f/\(∀e∈E.take f,¬100<e.aN.length)/\b=j,⟨_,0,rfl,Qj _,rfl,sM,rfl⟩,?_⟩;rintro l i _ x ⟨f,rfl,y,rfl,k,rfl⟩;refine an.dec (λp=>?_) (λp=>?_)
 ·obtain⟨q,r,s,z,rfl,_,_,m,t,A,B,C,rfl,u,F⟩:=h.uH (i:=f) oM
  have H:=u.len;refine⟨q,r,rfl,oM,oM,_,_,_,t 3 dC,an.dec (λv=>?_) (λv=>?_)⟩
  ·exact Ok.mk ⟨by rw[Zy (.inl ⟨s,QZ m,oM⟩)],rfl⟩
  ·refine⟨_,oM,f+1,aq oM,oM,rfl,λe P=>?_,rfl⟩
   rw[Qw,m]at P;rcases Q6.1 P with P|P
   ·exact k e P
   ·simp at P;subst P;omega
 ·rw[Qz oM]at k
  refine Ok.mk ⟨?_,rfl⟩
  congr 1
  refine decide_eq_decide.2 ⟨λg=>.inr oM,λg=>g.elim (λ⟨e,P,g⟩=>Zz g (k e P)) λg=>oM⟩
end Go.Proofs.YtkpomgifkloklacGreatDoor
namespace Go.aw
open Go.ChangeShapes Go.WideShapes Go.ChangeAt Go.RowKit
def oV{P:Type}(a:Program)(b:TypeId)(c:DataW P):Prop:=∀d∈c.weights a b,d<=reachBytes
abbrev In(P:World):XN:=λa=>a<P.heap.size
variable{e:Int}{a c:Nat}{j:Type}{g o:TypeId}{t:Value}
section
variable {H:Type} {enc:TypeId×Value->H} {P:Program} {w:World} {base:Nat} {held:Bool}
def yX{a:List TypeId}{b:List (DataW H)}(d:(DataW.weightsEach P a b).all (·<=reachBytes)=true){j:Nat}{c:DataW H}(e:a[j]? =some g)(f:b[j]? =some c):oV P g c:=
 λh i=>by simpa using ZY.1 d _ (DataW.weights_mem_each e f h i)
def oW{c:TypeId}:∀{a:List (DataW H)} {d:DataW H},d∈a->∀b∈d.weights P c,b∈DataW.weightsAll P c a
 |x::a,d,h,b,e=>by
  simp only[DataW.weightsAll,Q6];rcases Q2.1 h with rfl|h
  ·exact Or.inl e
  ·exact Or.inr (oW h b e)
def Reads{d:Type}(P:Program)(e:jB d)(b:TypeId):Prop:=
 ∀(H:Type) (enc:TypeId×Value->H) (w:World) (held:Bool) (a:Nat) (cs:List Value) (c:DataW H×List MemPlace),DataW.trod enc P w 0 (λ_=>true) held a b cs=some c->oV P b c.1->∃f,e.rep w (In w) f cs
def jT{b:Option _}(P:w.cell? ⟨a,c,b⟩=some t):a<w.heap.size:=by
 unfold World.cell? at P
 by_cases d:a<w.heap.size
 ·exact d
 ·rw[show w.heap[a]? =none by simp;omega]at P;cases P
def open_row{k:jB j}{bytes v:Nat}{cs:List Value}{B:DataW H×List MemPlace}(I:P.underlying g=some (.slice o))(Q:P.cellsOf o=k.k)(J:0<k.k)(R:P.bytesOf o=bytes)(S:Reads P k o)(p:DataW.trod enc P w 0 (λ_=>true) held v g cs=some B)(T:oV P g B.1):
  ∃b q f U,cs=[.slice b q f]/\q<=f/\(b=none->q=0/\f=0)/\Row k bytes w (In w) b q U:=by
 rcases DataW.trod_slice I p with⟨rfl,rfl⟩|⟨b,c,f,a,h,q,_,rfl,rfl,hb,V,hm,a4,W,a5,a6⟩
 ·exact⟨none,0,0,[],rfl,Q4 _,λ_=>⟨rfl,rfl⟩,Row.nil _ _⟩
 ·have x:∀l∈(a.length+h.length)*P.bytesOf o::(DataW.weightsAll P o (a.map (·.1))++DataW.weightsAll P o (h.map (·.1))),l<=reachBytes:=by
   have:=T;simpa only[oV,DataW.weights,I,Q8]using this
  have read:∀e,e<c->∃d l,a[e]? =some l/\d.length=k.k/\(∀i,i<k.k->w.cell? (b.add (e*k.k+i))=d[i]?)/\DataW.trod enc P w 0 (λ_=>true) held q o d=some l:=by
   intro e n;have K:=W e n;rw[Q,Qq (by omega:e<a.length)]at K;obtain⟨d,A,y⟩:=Option.bind_eq_some_iff.1 K;obtain⟨_,C,s⟩:=World.cells?_some A;exact⟨d,_,Qq oM,C,λi E=>by rw[<-Addr.add_add];exact s i E,y⟩
  have X:0<c->b.spot=none:=by
   intro Y;obtain⟨d,l,_,C,s,_⟩:=read 0 Y;have:=s 0 J;rw[Nat.zero_mul,Nat.add_zero,Qq oM]at this;have o:b.add 0=b:=by simp[Addr.add]
   rw[o]at this;unfold World.cell? at this;split at this
   ·cases t:b.spot with
    |none=>rfl
    |some L=>rw[t]at this;simp at this
   ·cases this
  have one:∀e,e<c->∃r,∃u z M,some b=some ⟨u,z,none⟩/\u<w.heap.size/\In w u/\(∀i,i<k.k->w.cell? ⟨u,z+e*k.k+i,none⟩=M[i]?)/\k.rep w (In w) r M:=by
   intro e n;have t:=X oM;have N:∀F,b.add F=⟨b.block,b.off+F,none⟩:=by
    intro F;obtain⟨u,Z,L⟩:=b;simp only at t;subst t;unfold Addr.add;split
    ·next p=>subst p;rfl
    ·rfl
   obtain⟨d,l,y,C,s,h5⟩:=read e n;have a0:oV P o l.1:=λr m=>x r (QJ _ (ZV _ (oW (d:=l.1) (Xk.2 ⟨l,QZ y,rfl⟩) r m)));obtain⟨r,m⟩:=S H enc w held q d l h5 a0;have O:b.block<w.heap.size:=by
    have:=s 0 J;rw[N,Qq oM]at this;exact jT this
   refine⟨r,b.block,b.off,d,?_,O,O,λi E=>?_,m⟩
   ·obtain⟨u,Z,L⟩:=b
    simp only at t;rw[t]
   ·have:=s i E
    rw[N]at this;rw[<-this,Nat.add_assoc]
  have a1:c*bytes<=aT:=by
   have A:=x _ (QV ..);have y:c*P.bytesOf o<=(a.length+h.length)*P.bytesOf o:=Q0 _ oM;rw[R]at A y;unfold reachBytes at A;unfold aT;omega
  by_cases m:c=0
  ·subst m
   exact⟨some b,0,f,[],rfl,Qj _,λp=>(by cases p),rfl,sM,λe B n=>(by simp at n)⟩
  ·have a2:Nonempty j:=⟨(one 0 oM).choose⟩
   haveI:Inhabited j:=⟨Classical.choice a2⟩
   obtain⟨a3,hf⟩:=Go.Deep.choose_lt one;refine⟨some b,c,f,(List.range c).map a3,rfl,V,λp=>(by cases p),sM,a1,λe r m=>?_⟩
   by_cases n:e<c
   ·rw[Q9,List.getElem?_range n]at m
    cases m
    exact hf e n
   ·rw[Q7 bc]at m;cases m
def cm(P:(Lit.int .i64 e).wf=true):aP e:=by
 have:IntKind.i64.min<=e/\e<=IntKind.i64.max:=by simpa[Lit.wf]using P
 exact this
end
section
variable {H:Type} {enc:TypeId×Value->H} {P:Program} {w:World} {held:Bool} {r:Reach} {b0:Nat} {v:Value} {d:DataW H} {ps:List MemPlace}
def Rm(b:P.underlying g=some (.int .i64))(c:Value.okWide P w r b0 g v)(e:DataW.Trod enc P w 0 (λ_=>true) held g v d ps):∃a,v= XH a/\aP a:=by
 obtain⟨a,rfl,-,-,f⟩:=open_int b c e;exact⟨a,rfl,cm f⟩
def MY{b:jB j}{bytes:Nat}(h:P.underlying g=some (.slice o))(l:P.cellsOf o=b.k)(m:0<b.k)(n:P.bytesOf o=bytes)(p:Reads P b o)(q:Value.okWide P w r b0 g v)(s:DataW.Trod enc P w 0 (λ_=>true) held g v d ps)(t:oV P g d):
  ∃e c a f,v= .slice e c a/\c<=a/\(e=none->c=0/\a=0)/\Row b bytes w (In w) e c f:=by
 obtain⟨e,c,b,rfl⟩:=okWide_slice h q;obtain⟨i,u⟩:=s;obtain⟨y,z,A,f,k,x⟩:=open_row h l m n p u t;simp only[Value.cells]at k
 cases k
 exact⟨_,_,_,f,rfl,x⟩
end
variable{n:Array Value}{a7:Func}{f8:List MemPlace}{b k:World}
def ai.below(P:ai b k):Below b.heap.size b k:=⟨P.os,P.tape,P.output,P.size,λa c=>P.block a c id⟩
section
variable {H:Type} {enc:TypeId×Value->H} {P:Program}
def tU(j:laidOutB P=true){f k:World}(l:ai f k){m:Nat->Bool}:∀{c:List TypeId} {n:List Value} {o:List (DataW H)} {d:List MemPlace},c.all (λg=>P.readableRec g&&decide (g<P.types.size))=true->(∀a∈d,a.block<f.heap.size)->(∀a∈d,m a.block=true)->
  DataW.TrodAll enc P f 0 (λ_=>true) true c n o d->DataW.TrodAll enc P k 0 m true c n o d
 |[],_,_,_,_,_,_,b=>by
  obtain⟨rfl,rfl,rfl⟩:=trodAll_nil b;exact trodAll_mk0
 |g::c,_,_,_,e,p,q,b=>by
  obtain⟨t,u,v,w,x,y,rfl,rfl,rfl,r,s⟩:=trodAll_cons b;simp only[List.all_cons,QK,Zk]at e;refine trodAll_cons_mk (WideElems.Trod_stays j e.1.1 e.1.2 r (λh i=>l.below.same (p h (ZV _ i))) λh i=>q h (ZV _ i)) (tU j l (by simpa using e.2) (λa b=>p a (ZW _ b)) (λa b=>q a (ZW _ b)) s)
def KX{d:ChangeSpec}{f o:List (DataW H)}{tb:TypeId}{a i E j:Bool}(F:laidOutB P=true)(u:a7.resultTypes= #[tb])(v:P.underlying tb=some .bool)(w:d.vars=[])(I:(d.fn H (f++o)).results=[.lit (.bool true)])(J:(d.fn H (f++o)).args=f)(K:(d.fn H (f++o)).vars=[])(L:a7.params.toList.all (λx=>P.readableRec x&&decide (x<P.types.size))=true)(p:DataW.Whole enc P a7.params.toList d.vars a b n.toList f o f8)(q:ai b k):d.post enc P a7 a i E j b n (.bool true) k:=by
 have M:=p;have r:=λc e=>p.lt c e;obtain⟨c,V,N,y,O,Q,R⟩:=p;rw[w]at y;obtain⟨rfl,rfl⟩:=trodVars_none y;obtain rfl:f8=c:=by simpa using O
 have z:∀g:Nat->Bool,(∀c∈f8,g c.block=true)->DataW.TrodAll enc P k 0 g true a7.params.toList n.toList (d.fn H (f++[])).args f8:=λg S=>by
  rw[J];exact tU F q L (λs t=>by simpa using r s t) (λs t=>S s t) N
 have A:∀(h:Nat) (g:Nat->Bool) (B:Bool),DataW.TrodAll enc P k h g B a7.resultTypes.toList ((Value.bool true).resultList a7.resultTypes.size) (d.fn H (f++[])).results []:=λh g B=>by
  rw[u,I];exact trodAll_cons_mk (shut_bool v _) trodAll_mk0
 have C:∀g:Nat->Bool,DataW.TrodVars enc P k g d.vars (d.fn H (f++[])).vars []:=λg=>by rw[K,w];exact rfl
 have T:∀c∈f8,(λh=>decide (h<b.heap.size)) c.block=true:=λc e=>by simpa using r c e
 refine⟨f,[],f8,[],f8,[],M,A _ _ _,z _ T,C _,World.keptBut_mono (λc e=>⟨e,Or.inr (by simpa using e)⟩) (q.below.frame (·∈f8)),λ_=>?_⟩;refine⟨ok_one u rfl (okWide_bool_mk v _),_,_,([]++f8)++[],⟨[]++f8,[],trodAll_append (z _ (λ_ _=>rfl)) (A _ _ _),C _,rfl,?_,?_⟩,?_⟩
 ·intro h l e
  have m:MemPlace.cell h l∈f8:=by simpa using e
  rw[q.below.frozen (p:=⟨h,l,none⟩) (r _ m)];exact Q h l (by simpa using m)
 ·intro U
  simpa using R U
 ·intro c e _
  simpa using e
end
end Go.aw
namespace Go.Proofs.YtkpomgifkloklacGreatDoor
open Go.aw
def bM(b a:World)(e:Nat)(D:al)(c:XN):Prop:=∃d,aV a e d D/\ai b a/\(∀P,d P->b.heap.size<=P/\¬c P)/\∀P,c P->P<a.heap.size
abbrev no:XN:=λ_=>False
abbrev fJ(P:XN):XN:=λa=>¬P a
variable{n:Array Value}{v:ByteArray}{y:FuncId}{e:Int}{d0:Int×al}{a c:Nat}{f:XN}{d:ZH}
section
variable {w0 w w1 w':World} {p:Nat} {D D':al} {X Y:XN}
def bM.gr(P:bM w0 w p D X):ai w0 w:=by obtain⟨b,c,a,d,e⟩:=P;exact a
def bM.ok(P:bM w0 w p D X):D.Ok:=by obtain⟨b,a,c,d,e⟩:=P;exact a.ok
def bM.ah(a:bM w0 w p D X)(P:ai w w'):bM w0 w' p D X:=by
 obtain⟨b,c,d,e,f⟩:=a;exact⟨b,c.ah P,d.ah P,e,λg h=>Qk (f g h) P.size⟩
def bM.mono(d:bM w0 w p D X)(b:∀P,Y P->X P):bM w0 w p D Y:=by
 obtain⟨e,f,g,c,h⟩:=d;exact⟨e,f,g,λP a=>⟨(c P a).1,λi=>(c P a).2 (b P i)⟩,λP a=>h P (b P a)⟩
def bM.add(a:bM w0 w p D X)(c:ai w w')(d:∀P,Y P->w.heap.size<=P/\P<w'.heap.size):bM w0 w' p D (λP=>X P\/Y P):=by
 obtain⟨g,e,h,f,i⟩:=a;exact⟨g,e.ah c,h.ah c,λP b=>⟨(f P b).1,λj=>j.elim (f P b).2 λk=>by have:=e.aF P b;have:=(d P k).1;omega⟩,λP b=>b.elim (λa=>Qk (i P a) c.size) λa=>(d P a).2⟩
def bM.of(b:ai w0 w)(c:ai w w')(g:aV w' p f D)(d:∀P,f P->w.heap.size<=P)(e:∀P,X P->P<w.heap.size):bM w0 w' p D X:=
 ⟨f,g,b.ah c,λP a=>⟨Xx b.size (d P a),λh=>by have:=d P a;have:=e P h;omega⟩,λP a=>Qk (e P a) c.size⟩
def tV(w0 w:World)(p:Nat)(X:XN)(P:Int×al)(a:Value)(w':World):Prop:=a= XH P.1/\bM w0 w' p P.2 X/\ak (fJ X) w w'
def bM.Sz(f:bM w0 w p D X)(e:ai w w1)(j:∀b,aV w1 p b D->(∀P,b P->w0.heap.size<=P/\P<w.heap.size/\¬X P)->ZG y n w1 (Ok (tL w1 p b d0))):ZG y n w1 (Ok (tV w0 w1 p X d0)):=by
 obtain⟨b,g,h,c,i⟩:=f;refine Calls.ok (j b (g.ah e) λP a=>⟨(c P a).1,g.aF P a,(c P a).2⟩) ?_;rintro q w' ⟨k,l,m,d⟩;have:=e.size;have:=h.size;have:=d.af.size;exact⟨l,⟨k,m,(h.ah e).new d.af λP a=>.inr (c P a).1,λP a=>(d.new P a).elim (c P) λf=>⟨oM,λo=>by have:=i P o;omega⟩,λP a=>by have:=i P a;omega⟩,d.af.mono λP _ a=>(c P a).2⟩
def bM.call(b:bM w0 w p D X)(c:∀a,aV w p a D->(∀P,a P->w0.heap.size<=P/\P<w.heap.size/\¬X P)->ZG y n w (Ok (tL w p a d0))):ZG y n w (Ok (tV w0 w p X d0)):=b.Sz (ak.refl w) c
def bM.append{g:List UInt8}(b:bM w0 w p D X)(e:Row fP 1 w f d a g)(k:d=none->a=0/\c=0)(h:∀P,f P->P<w0.heap.size\/X P):
  ZG 117 #[XL p,.string v,.slice d a c] w (Ok (tV w0 w p X (D.append v g))):=by
 have q:=b.gr.size;have l:∀P,X P->P<w.heap.size:=by obtain⟨m,r,s,t,n⟩:=b;exact n
 exact b.call λm o i=>vY o e k λP e=>⟨(h P e).elim (λb=>oM) (l P),λj=>(h P e).elim (λb=>by have:=(i P j).1;omega) (i P j).2.2⟩
def bM.create(P:bM w0 w p D X):ZG 149 #[XL p,.string v] w (Ok (tV w0 w p X (D.create v))):=P.call λb a _=>vX a
def bM.sync(P:bM w0 w p D X):ZG 119 #[XL p,.string v] w (Ok (tV w0 w p X (D.sync v))):=P.call λb a _=>BB a
def bM.Fw{k:ByteArray}(P:bM w0 w p D X):ZG 148 #[XL p,.string k,XH e] w (Ok (tV w0 w p X (D.Fw k e))):=P.call λb a _=>MJ a
def bM.delete(P:bM w0 w p D X):ZG 151 #[XL p,.string v] w (Ok (tV w0 w p X (D.delete v))):=P.call λb a _=>vW a
def bM.read{k:ByteArray}(l:bM w0 w p D X):ZG 140 #[XL p,.string k] w (Ok λe w'=>∃b c d a,e= .tuple #[.slice b c d,XH (D.read k).2]/\aU fP 5 a w' b c d (D.read k).1/\(∀P,a P->w.heap.size<=P)/\bM w0 w' p D (λP=>X P\/a P)/\ai w w'):=by
 obtain⟨a,f,m⟩:=l;refine Calls.ok (vy f) ?_;rintro e w' ⟨n,rfl,b,c,d,G,rfl,g,h,i⟩;exact⟨b,c,d,G,rfl,g,i,bM.add ⟨a,f,m⟩ h λP j=>⟨i P j,g.aF P j⟩,h⟩
end
def ei(P:Nat):al:=⟨P,[],false,0,false⟩
variable{z:XT}{u:List Int}{b k:World}
def rC(h:ai b k)(m:64<=e)(n:e<=262144):ZG 25 #[XH e] k (Ok λc a=>∃P,c= .tuple #[XL P,XH 0]/\bM b a P (ei e.toNat) (λd=>d<k.heap.size)/\ai k a):=by
 refine Calls.ok KQ ?_;intro c a f;rw[Zq oM]at f;obtain⟨P,o,rfl,i,g,j⟩:=f;exact⟨P,rfl,bM.of h g i j λd l=>l,g⟩
def FG{D:al}(P:D.Ok)(a:ByteArray):(D.read a).1.length<=262144:=by
 unfold al.read;split
 ·simp
 ·split
  ·simp
  ·rename_i c b;exact P.len (bV b)
def nA:ByteArray:=⟨#[97]⟩
open Go.aw Go.ChangeShapes Go.WideShapes Go.ChangeAt Go.RowKit
section
variable {w0 w w1 w':World} {p:Nat} {D D':al} {X Y:XN}
def bM.bJ(b:bM w0 w p D X)(h:qS w0)(k:Row aQ 8 w f d a u)(l:∀m∈u,aP m)(i:∀P,f P->P<w0.heap.size\/X P):
  ZG 98 #[XL p,.agg #[.slice d a c]] w (Ok (tV w0 w p X (bJ D u))):=by
 have s:=b.gr.size;have n:∀P,X P->P<w.heap.size:=by obtain⟨o,t,v,x,q⟩:=b;exact q
 have y:=h.lt;exact b.call λo r g=>zJ (h.ah b.gr) r k l (λP e=>⟨(i P e).elim (λb=>oM) (n P),λj=>(i P e).elim (λb=>by have:=(g P j).1;omega) (g P j).2.2⟩) λP e=>by have:=(g P e).1;omega
def bM.jY(d:bM w0 w p D X)(k:qS w0):ZG 95 #[XL p] w (Ok λe w'=>∃a b c G,e= .tuple #[.agg #[.slice a b c],.bool (fB D).isSome]/\aU aQ 3 G w' a b c ((fB D).getD [])/\
  (∀P,G P->w.heap.size<=P)/\bM w0 w' p D (λP=>X P\/G P)/\ai w w'):=by
 have l:=d.gr;obtain⟨m,f,n⟩:=d;refine Calls.ok (Bg (k.ah l) f) ?_;rintro e w' ⟨a,b,c,G,rfl,g,h,i⟩;exact⟨a,b,c,G,rfl,g,i,bM.add ⟨m,f,n⟩ h λP j=>⟨i P j,g.aF P j⟩,h⟩
end
def JU{D:XN}{a bytes:Nat}(c:Row aQ bytes b D d a u):∀P∈u,aP P:=λP e=>by
 obtain⟨f,g⟩:=List.mem_iff_getElem?.1 e;obtain⟨j,h,k,-,-,-,-,i⟩:=c.el f P g;exact i.2
def Lp{D:al}:((fB D).getD []).length<=64:=by
 unfold fB;split
 ·simp
 ·cases P:jY (D.read ck).1 with
  |none=>simp
  |some a=>exact(Ls P).2
def tn:(aE==ck)=false:=by decide+kernel
def JD:cF aE=true:=by decide+kernel
def yL:cF ck=true:=by decide+kernel
def xk:kC:=⟨[(6,[(8,.slice none 0 0),(9,XH 0)])],[],[],[],[]⟩
def xl(a0:PC_ 146 #[.ii e] b (λa3 a4=>∃o,a3= .string o/\PC_ 140 #[.pointer d,.string o] a4 (λa5 p=>∃q l m r,a5= .tuple #[.slice q l m,.ii r]/\an (r !=0) (rt z ((.tuple #[.slice none 0 0,.ii 0])) p) ((∃n:Nat->ZH->Nat->Nat->Int->XU,(∃k,n k none 0 0 0 p)/\∀(k:Nat) (f:ZH) (g:Nat) (h:Nat) (c:Int) (c9:Nat->Value) (s:World),n k f g h c s->((0:Int)<=c/\(c:Int)<=(l:Int)/\PC_ 141 #[.slice (cz q (Int.toNat c) m 1) (l-Int.toNat c) (m-Int.toNat c)] s (λa6 i=>∃t u v w x y,a6= .tuple #[.agg #[.ii t,.slice u v w],.ii x,.ii y]/\PA i (.cells #[.ii 0,.slice none 0 0] 262) λa7=>PS a7 (ab_ i 0) (.ii t) λa8=>PS a8 (ab_ i (0+1)) (.slice u v w) λj=>an (y !=0) (rt z ((.tuple #[.slice f g h,.ii c])) j) ((rI j (ab_ i 0) λa9=>an (a9 !=1) (rt z ((.tuple #[.slice f g h,.ii c])) j) ((rS j (ab_ i (0+1)) λb0 b1 b2=>PC_ 206 #[.slice b0 b1 b2] j (λb3 P=>∃A B D C E G F H I J K L M,b3= .tuple #[.agg #[.ii A,.ii B,.ii D,.slice C E G,.ii F,.ii H,.ii I,.ii J,.ii K,.ii L],.ii M]/\PA P (.cells #[.ii 0,.ii 0,.ii 0,.slice none 0 0,.ii 0,.ii 0,.ii 0,.ii 0,.ii 0,.ii 0] 59) λb4=>PS b4 (ab_ P 0) (.ii A) λb5=>PS b5 (ab_ P (0+1)) (.ii B) λb6=>PS b6 (ab_ P (0+2)) (.ii D) λb7=>PS b7 (ab_ P (0+3)) (.slice C E G) λb8=>PS b8 (ab_ P (0+4)) (.ii F) λb9=>PS b9 (ab_ P (0+5)) (.ii H) λc0=>PS c0 (ab_ P (0+6)) (.ii I) λc1=>PS c1 (ab_ P (0+7)) (.ii J) λc2=>PS c2 (ab_ P (0+8)) (.ii K) λc3=>PS c3 (ab_ P (0+9)) (.ii L) λa=>an (M !=0) (rt z ((.tuple #[.slice f g h,.ii c])) a) ((∃N O Q R S T U V W X Y Z,a.cell? (ab_ P 0)=some (.ii N)/\a.cell? (ab_ P (0+1))=some (.ii O)/\a.cell? (ab_ P (0+2))=some (.ii Q)/\a.cell? (ab_ P (0+3))=some (.slice R S T)/\a.cell? (ab_ P (0+4))=some (.ii U)/\a.cell? (ab_ P (0+5))=some (.ii V)/\a.cell? (ab_ P (0+6))=some (.ii W)/\a.cell? (ab_ P (0+7))=some (.ii X)/\a.cell? (ab_ P (0+8))=some (.ii Y)/\a.cell? (ab_ P (0+9))=some (.ii Z)/\PA a (.cells #[.ii N,.ii O,.ii Q,.slice R S T,.ii U,.ii V,.ii W,.ii X,.ii Y,.ii Z] 59) λc4=>PR_ (ap_ 50 (.slice f g h) (.slice (some (ab_ a 0)) 1 1)) c4 (kS_ λc5 c6 c7 c8=>(∃a2,a2<k/\n a2 c5 c6 c7 (XG .i64 (c+x)) c8)) (pV z)))) (pE z)))))) (pE z))))) (pE z)) (pE z)):ZG 147 #[.pointer d,.ii e] b z:=DC xk Tryz.func147 rfl a0
end Go.Proofs.YtkpomgifkloklacGreatDoor
namespace Go.aw
open Go
variable{E:List aj}{a c:Nat}{l:aj}
def wm(P:l.Ok)(a:l.aN.length<=64):fN l=(sx l,0):=by
 have d:=JT P a;have b:h_ l=(bR (iz l),0):=by unfold h_;rw[Zq oM]
 have c:jr 1 (bR (iz l))=(sx l,0):=by unfold jr sx;rw[Zq dC,Zq oM]
 unfold fN;rw[b];simp only;rw[c];simp
def FR(a:¬l.aN.length<=64):fN l=([],3):=by
 have P:h_ l=([],3):=by unfold h_;rw[Zx oM]
 unfold fN;rw[P];simp
def ends(P:List aj):List Int:=(List.range P.length).map λa=>((aC (P.take (a+1))).length:Int)
def IA(P:a<=c):(aC (E.take a)).length<=(aC (E.take c)).length:=by
 have:E.take c=E.take a++(E.take c).drop a:=by
  conv=>lhs;rw[<-ZX a (E.take c)]
  rw[List.take_take,X2 P]
 rw[this,fv,QX];omega
def NA(a:∀P∈E,P.Ok/\P.aN.length<=64):(aC E).length<=675*E.length:=by
 induction E with
 |nil=>simp[aC]
 |cons P E b=>
  rw[Ji,QX,Xq];have e:=GS (a P (QV ..)).1 (a P (QV ..)).2;have f:=b λc d=>a c (QJ _ d);omega
end Go.aw
namespace Go.Proofs.YtkpomgifkloklacGreatDoor
open Go.aw
variable{e:Int}
def FV(c:0<=e)(d:e<1000000000000):cF (⟨(aO e).toArray⟩:ByteArray)=true:=by
 have f:=Ad e;have g:=sL e.toNat;have b:=kY c d;have h:(⟨(aO e).toArray⟩:ByteArray).size=(aO e).length:=by simp[ByteArray.size]
 unfold cF;rw[h,QK,QK,Zk,Zk];refine⟨⟨by rw[b,QX];show 1<=4+_;omega,f⟩,?_⟩;show(aO e).all dV=true;rw[b,List.all_append,QK];refine⟨dC,ZY.2 λP a=>?_⟩;have:=ZY.1 g.2.1 P a;have i:∀P:UInt8,fM P=true->dV P=true:=by
  intro P;have j:(List.range 256).all (λe=>!(fM (UInt8.ofNat e))||dV (UInt8.ofNat e))=true:=by decide+kernel
  have:=ZY.1 j P.toNat (List.mem_range.2 P.toNat_lt);rw[UInt8.ofNat_toNat]at this;intro k;rw[k]at this;simpa using this
 exact i P this
end Go.Proofs.YtkpomgifkloklacGreatDoor
namespace Go.aw
open Go
end Go.aw
namespace Go.Proofs.YtkpomgifkloklacGreatDoor
section
open Go.aw
variable{a c:Nat}{f:XN}{d:ZH}{j:Type}{b:World}{l:aj}
def Ln{D:XN}(r:Laid b)(s:Row aQ 8 b D d a l.aN)(j:l.Ok)(t:∀e,D e->e<b.heap.size):
  ZG 116 #[.agg (aD l d a c).toArray] b (Ok λu k=>∃m n o p,u= .tuple #[.slice m n o,XH (fN l).2]/\aU fP 5 p k m n o (fN l).1/\ai b k/\∀e,p e->b.heap.size<=e):=by
 refine wZ (PA.mk λC f E P=>?_);refine⟨_,_,_,_,_,_,_,_,_,_,_,_,ae P rfl,ae P rfl,ae P rfl,ae P rfl,ae P rfl,ae P rfl,ae P rfl,ae P rfl,ae P rfl,ae P rfl,
  PC.ok (KU (s.ah f) j λe i=>Qk (t e i) f.size) ?_⟩
 rintro _ v ⟨_,rfl,F,H,I,J,rfl,q,g,K⟩;refine⟨_,_,_,_,rfl,an.dX (λw=>?_) (λx=>?_)⟩
 ·rw[show fN l=([],(h_ l).2) by unfold fN;rw[Zx w]]
  exact Ok.mk ⟨none,0,0,λ_=>False,rfl,aU.nil v,f.then g,λ_ h=>h.elim⟩
 rw[show fN l=jr 1 (h_ l).1 by unfold fN;rw[Zq (by simpa using x)]];have L:(h_ l).1.length<=666:=by
  by_cases h:64<l.aN.length
  ·simp[h_,h]
  ·have:=JT j oM
   simpa[h_,h]using this
 refine PC.ok (BH (r.ah (f.then g)).pF (q.row (bytes:=1) dC ba) q.aF) ?_;rintro _ M ⟨_,rfl,N,O,Q,y,rfl,z,A,B⟩;refine⟨_,_,_,_,rfl,Ok.mk ⟨_,_,_,y,rfl,z,(f.then g).then A,λe i=>?_⟩⟩;have:=B e i;have:=(f.then g).size;omega
def NV{P:List j}(c:P.length=a)(b:Nat):(P.take a).drop b=P.drop b:=by rw[Qz oM]
def Ny{D:al}{no:Int}(O:Laid b)(Q:aV b a f D)(hn:aP no):
  ZG 147 #[XL a,XH no] b (Ok λB e=>∃o p q G,B= .tuple #[.slice o p q,XH ((bW (D.read (dY (aO no))).1).2:Int)]/\
   aU tO 59 G e o p q (bW (D.read (dY (aO no))).1).1/\ai b e/\(∀c,G c->b.heap.size<=c)/\(bW (D.read (dY (aO no))).1).1.length<=262144):=by
 refine xl (PC.ok (mi O hn) ?_);rintro _ w1 ⟨rfl,u⟩;refine⟨_,rfl,PC.ok (vy (Q.ah u)) ?_⟩;rintro _ r ⟨_,rfl,a4,R,c2,F2,rfl,m,C,c3⟩;have S:=FG Q.ok (dY (aO no));have E:(D.read (dY (aO no))).2≠0->(D.read (dY (aO no))).1=[]:=by
  unfold al.read;split
  ·intro _;rfl
  ·split
   ·intro _;rfl
   ·intro h;exact Zz rfl h
 generalize D.read (dY (aO no))=rd at m S E;obtain⟨d,er⟩:=rd;simp only at m S E⊢;refine⟨_,_,_,_,rfl,an.dX (λl=>?_) (λhe=>?_)⟩
 ·rw[E l,GQ]
  exact Ok.mk ⟨none,0,0,λ_=>False,rfl,aU.nil r,u.then C,λ_ h=>h.elim,sM⟩
 have b2:=m.len dC;have b3:=m.lb;have a9:Row fP 1 r F2 a4 R d:=m.row dC ba;refine⟨λT v w y F e=>∃(P:Nat) (i:List aj) (G:XN),F=P/\P<=d.length/\T=d.length-P/\bW d=(i++(bW (d.drop P)).1,P+(bW (d.drop P)).2)/\i.length<=P/\
  aU tO 59 G e v w y i/\ai r e/\∀c,G c->r.heap.size<=c,⟨_,0,[],λ_=>False,rfl,Qj _,rfl,sM,sM,aU.nil r,ak.refl _,λ_ h=>h.elim⟩,?_⟩
 rintro T v w y _ _ U ⟨P,i,G,rfl,c5,rfl,V,c6,s,n,H⟩;refine⟨oM,oM,?_⟩;have W:ai b U:=(u.then C).then n;have X:=(a9.ah n).part (lo:=P) (hi:=R) (cap:=c2) oM (Q4 _) b3;rw[NV b2.symm]at X;rw[Qx];refine PC.ok (BI (O.ah W).pF X oM λc g=>by have:=m.aF c g;have:=n.size;omega) ?_;rintro _ I ⟨b0,n4,c4,F4,rfl,b4,z,c8⟩;have j:¬((bw (d.drop P)).no=0/\(bw (d.drop P)).kind=1/\(iO (bw (d.drop P)).body).2=0)->∀e,ai I e->
   Ok (λB e=>∃o p q G,B= .tuple #[.slice o p q,XH ((bW d).2:Int)]/\aU tO 59 G e o p q (bW d).1/\ai b e/\(∀c,G c->b.heap.size<=c)/\(bW d).1.length<=262144) (.returned (.tuple #[.slice v w y,XH (P:Int)])) e:=by
  intro h e Y;rw[V,Ac h];refine Ok.mk ⟨v,w,y,G,sM,by simpa using(s.ah z).ah Y,(W.then z).then Y,λc g=>?_,by simp;omega⟩;have:=H c g;have:=(u.then C).size;omega
 refine⟨_,_,_,_,_,_,rfl,PA.mk λw5 k5 s5 g5=>?_⟩;refine storeAll [XH (bw (d.drop P)).kind,.slice b0 n4 c4] g5 rfl λJ k6 s6 Z=>?_;have t:ai I J:=k5.new k6 λc g=>.inr oM;refine an.dX (λl=>j (λh=>l h.1) J t) (λa0=>?_);refine⟨_,ae Z rfl,an.dX (λl=>j (λh=>l h.2.1) J t) (λb1=>?_)⟩;obtain⟨b5,h9,c9⟩:=tT a0;rw[XZ]at b5;have a1:=b4.ah t;refine⟨_,_,_,ae Z rfl,PC.ok (KV (a1.row (bytes:=1) dC ba) a1.aF) ?_⟩;rintro _ w7 ⟨a7,n7,c7,F7,rfl,K,k7,a3⟩;obtain⟨L,a5⟩:=NW (bw (d.drop P)).body;generalize M:iO (bw (d.drop P)).body=b6 at K L a5;obtain⟨x,xe⟩:=b6;simp only at K L a5;refine⟨_,_,_,_,_,_,_,_,_,_,_,_,_,rfl,PA.mk λw8 k8 s8 g8=>?_⟩;refine storeAll (aD x a7 n7 c7) g8 rfl λA k9 s9 k=>?_;have a6:ai w7 A:=k8.new k9 λc g=>.inr oM;have a8:ai I A:=(t.then k7).then a6;refine an.dX (λl=>j (λh=>l (by have:=h.2.2;rw[M]at this;exact this)) A a8) (λb7=>?_);refine⟨_,_,_,_,_,_,_,_,_,_,_,_,ae k rfl,ae k rfl,ae k rfl,ae k rfl,ae k rfl,ae k rfl,ae k rfl,ae k rfl,ae k rfl,ae k rfl,?_⟩;have N:ai U A:=z.then a8;have b8:=s.ah N;have a2:=K.ah a6;have d0:=(z.then t).size;refine Kx b8 Hj (x:=x) (D:=F7) ⟨a7,n7,c7,F7,rfl,a2,λ_ h=>h,L,by unfold aT;omega⟩ (λc g=>⟨a2.aF c g,λhc=>?_⟩) ba (by unfold maxLen;omega) λa' c' d1 F' b9 c0 c1 _=>?_
 ·have h1:=s.aF c (s.self c hc)
  have h2:=a3 c g;omega
 refine⟨_,_,_,rfl,_,?_,P+(bw (d.drop P)).n,i++[x],F',?_,oM,rfl,?_,by simp;omega,b9,?_,?_⟩
 ·omega
 ·rw[wrap_i64 bb];omega
 ·rw[V,GR ⟨a0,b1,by rw[M];exact b7⟩,M,List.drop_drop]
  simp only[XQ,List.cons_append,List.nil_append,Nat.add_assoc]
 ·exact(n.then N).new c0 λc g=>.inr (H c (s.self c g))
 ·intro c g
  have hz:=(n.then N).size;have d2:=n.size;rcases c1 c g with h|h|h
  ·exact H c h
  ·have:=a3 c h;omega
  ·omega
end
section
open Go.aw
variable{n:Array Value}{y:FuncId}{e:Int}{d0:Int×al}{u:List Int}{a c:Nat}{f:XN}{d:ZH}{b k:World}
def cy{D:XN}(h:Row aQ 8 b D d a u)(g:∀P,D P->P<b.heap.size):
  ZG 78 #[.slice d a c] b (Ok (qw aQ 3 b u)):=by
 have x:=h.len;have e:=h.dK;refine mP (jt sX.under ⟨_,rfl,an.mk (λf=>?_) (λf=>PA.mk λk i y l=>?_)⟩)
 ·have:u=[]:=by
   cases d with
   |none=>
    cases u with
    |nil=>rfl
    |cons m z=>obtain⟨P,n,A,o,_⟩:=h.el 0 m rfl;cases o
   |some p=>cases f
  subst this;exact Ok.mk ⟨none,0,0,λ_=>False,rfl,aU.nil b,ak.refl _,λ_ h=>h.elim⟩
 ·cases d with
  |none=>cases f
  |some p=>
   have q:aU aQ 3 (·=b.heap.size) k (XM b.heap.size) 0 0 []:=
    ⟨⟨[],λ_=>False,Own.xR (cur:= #[]) l rfl (Qj _),rfl,λ_ h=>h.elim⟩,λP e=>by simpa[aI]using e.symm,λP e=>oM⟩
   refine jQ q sX (D:=D) (h.ah i) (λP e=>⟨by have:=g P e;omega,by have:=g P e;simp only[aI];intro r;cases r;omega⟩) bc (by unfold aT at e;unfold maxLen;simp;omega) λj s B C t v _ w=>?_;refine⟨_,_,_,rfl,Ok.mk ⟨j,_,s,λP=>aI j=some P,rfl,by have h:=t.alone;rw[List.nil_append]at h;exact h,i.new v λP e=>.inr ?_,λP e=>?_⟩⟩
   ·simp only[aI,Q1]at e;omega
   ·rcases w P e with h|h<;>omega
def gS(P:Int)(a:ByteArray):Int:=if(pC a).2 then max P ((pC a).1+1)else P
def uo(P:List ByteArray):Int:=P.foldl gS 1
def tZ(D:al):Int:=uo D.list
def BQ(P:ByteArray):0<=(pC P).1/\(pC P).1<1000000000000:=by
 unfold pC;split
 ·rename_i b a
  have:=(zz a).2;simp;omega
 ·simp
def DH(a:1<=e/\e<=1000000000000)(P:ByteArray):1<=gS e P/\gS e P<=1000000000000:=by
 have:=BQ P;unfold gS;split<;>omega
def FN:∀(a:List ByteArray) (P:Int),(1<=P/\P<=1000000000000)->1<=a.foldl gS P/\a.foldl gS P<=1000000000000
 |[],P,b=>b
 |s::a,P,b=>FN a _ (DH b s)
def BR(P:List ByteArray):1<=uo P/\uo P<=1000000000000:=FN P 1 oM
def FO{D:al}(s:Laid b)(i:aV b a f D):
  ZG 94 #[XL a] b (Ok λt e=>t= XH (tZ D)/\ai b e):=by
 refine AL (PC.ok (BD i) ?_);rintro _ j ⟨u,d,z,G,rfl,k,l,A⟩;have B:D.list.length<=64:=by rw[uq];exact i.ok.many
 have C:=k.len dC;have v:Row MH 16 j G u d D.list:=k.row dC ba;refine⟨_,_,_,rfl,λm n o e=>∃P:Nat,o=P/\P<=d/\m=d-P/\n=uo (D.list.take P)/\ai j e,⟨_,0,rfl,Qj _,rfl,rfl,ak.refl _⟩,?_⟩;rintro m n o _ E ⟨P,rfl,F,rfl,rfl,c⟩;refine an.dec (λH=>?_) (λI=>?_)
 ·obtain⟨w,g,p,rfl,x,_,y⟩:=(v.ah c).mI (i:=P) oM
  refine⟨w,g,rfl,oM,oM,_,y,PC.ok (Iy (s.ah (l.then c))) ?_⟩;rintro _ J ⟨rfl,q⟩;have K:=BQ p;have L:=BR (D.list.take P);have r:uo (D.list.take (P+1))=gS (uo (D.list.take P)) p:=by
   unfold uo;rw[Qw,x,List.foldl_append];rfl
  refine⟨_,_,rfl,an.mk (λh=>⟨_,?_,P+1,aq oM,oM,rfl,?_,c.then q⟩) (λh=>⟨_,?_,P+1,aq oM,oM,rfl,?_,c.then q⟩)⟩
  ·omega
  ·rw[r,wrap_i64 bb]
   unfold gS;rw[Zx h];split<;>omega
  ·omega
  ·rw[r];unfold gS;rw[Zq (by simp[h])]
 ·obtain rfl:P=d:=oM
  rw[Qz oM];exact Ok.mk ⟨rfl,l.then c⟩
structure dh where
 size:Int
 bf:List Int
 bytes:Int
 next:Int
structure pD (w:World) (p q:Nat) (G:XN) (V:dh):Prop where
 body:∃a n c E,w.heap[q]? =some (.cells #[XL p,XH V.size,.slice a n c,XH V.bytes,XH V.next] 191 (0,0))/\aU aQ 3 E w a n c V.bf/\∀b,E b->G b/\b≠q
 self:G q
 aF:∀b,G b->b<w.heap.size
 many:V.bf.length<=64
 BS:aP V.next
section
variable {w0 w w1 w':World} {p q:Nat} {D D':al} {V V':dh} {X Y G S:XN}
def pD.af(a:pD w p q G V)(b:ak S w w')(d:∀P,G P->¬S P):pD w' p q G V:=by
 obtain⟨f,g,h,i,j,k,e⟩:=a.body;exact⟨⟨f,g,h,i,b.get j (d q a.self),k.af b λP c=>d P (e P c).1,e⟩,a.self,λP c=>Qk (a.aF P c) b.size,a.many,a.BS⟩
def pD.ah(P:pD w p q G V)(a:ai w w'):pD w' p q G V:=P.af a λ_ _ P=>P
def cE(w0 w:World)(p q:Nat)(V:dh)(D:al)(X:XN):Prop:=∃G,bM w0 w p D (λP=>X P\/G P)/\pD w p q G V/\∀P,G P->w0.heap.size<=P/\¬X P
def cE.gr(P:cE w0 w p q V D X):ai w0 w:=by obtain⟨G,a,b,c⟩:=P;exact a.gr
def cE.ok(P:cE w0 w p q V D X):D.Ok:=by obtain⟨G,a,b,c⟩:=P;exact a.ok
def cE.many(P:cE w0 w p q V D X):V.bf.length<=64:=by obtain⟨G,b,a,c⟩:=P;exact a.many
def cE.BS(P:cE w0 w p q V D X):aP V.next:=by obtain⟨G,b,a,c⟩:=P;exact a.BS
def cE.aF(a:cE w0 w p q V D X):∀P,X P->P<w.heap.size:=by obtain⟨G,⟨d,e,f,g,b⟩,h,i⟩:=a;exact λP c=>b P (.inl c)
def cE.TH(a:cE w0 w p q V D X):q<w.heap.size/\w0.heap.size<=q/\¬X q:=by obtain⟨G,c,P,b⟩:=a;exact⟨P.aF q P.self,b q P.self⟩
def cE.vE(P:cE w0 w p q V D X):bM w0 w p D X:=by obtain⟨G,a,c,d⟩:=P;exact a.mono λe b=>.inl b
def cE.ah(a:cE w0 w p q V D X)(P:ai w w'):cE w0 w' p q V D X:=by
 obtain⟨G,b,c,d⟩:=a;exact⟨G,b.ah P,c.ah P,d⟩
def cE.mono(d:cE w0 w p q V D X)(b:∀P,Y P->X P):cE w0 w p q V D Y:=by
 obtain⟨G,e,f,c⟩:=d;exact⟨G,e.mono λP a=>a.imp (b P) id,f,λP a=>⟨(c P a).1,λg=>(c P a).2 (b P g)⟩⟩
def cE.add(f:cE w0 w p q V D X)(b:ai w w')(c:∀P,Y P->w.heap.size<=P/\P<w'.heap.size):cE w0 w' p q V D (λP=>X P\/Y P):=by
 obtain⟨G,g,d,e⟩:=f;refine⟨G,(g.add b c).mono λP a=>?_,d.ah b,λP a=>⟨(e P a).1,λh=>h.elim (e P a).2 λi=>by have:=d.aF P a;have:=(c P i).1;omega⟩⟩;rcases a with(a|a)|a
 ·exact .inl (.inl a)
 ·exact .inr a
 ·exact .inl (.inr a)
def cE.other(g:cE w0 w p q V D X)(b:ak Y w w')(c:∀P,Y P->X P/\w0.heap.size<=P):cE w0 w' p q V D X:=by
 obtain⟨G,⟨h,i,j,e,k⟩,l,f⟩:=g;exact⟨G,⟨h,i.af b λP a d=>(e P a).2 (.inl (c P d).1),j.new b λP a=>.inr (c P a).2,e,λP a=>Qk (k P a) b.size⟩,l.af b λP a d=>(f P a).2 (c P d).1,f⟩
def cE.on(e:cE w0 w p q V D X)(f:∀b,(∀P,X P->b P)->bM w0 w p D b->ZG y n w (Ok (tV w0 w p b d0))):ZG y n w (Ok λc w'=>c= XH d0.1/\cE w0 w' p q V d0.2 X/\ak (fJ X) w w'):=by
 obtain⟨G,g,h,i⟩:=e;refine Calls.ok (f _ (λP a=>.inl a) g) ?_;rintro c w' ⟨j,k,d⟩;exact⟨j,⟨G,k,h.af d λP a l=>l (.inr a),i⟩,d.mono λP _ a m=>a (.inl m)⟩
def dh.last(V:dh):ByteArray:=dY (aO (V.bf.getLast?.getD 0))
def pD.row(e:pD w p q G V):∃a P c b,w.heap[q]? =some (.cells #[XL p,XH V.size,.slice a P c,XH V.bytes,XH V.next] 191 (0,0))/\Row aQ 8 w b a P V.bf/\(∀d,b d->G d/\d≠q)/\P=V.bf.length:=by
 obtain⟨a,P,c,b,g,f,h⟩:=e.body;have:=e.many;exact⟨a,P,c,b,g,f.row dC ba,h,f.len dC⟩
def FP(e:Laid w)(c:pD w p q G V)(f:V.bf≠[]):ZG 118 #[XL q] w (Ok λg w'=>g= .string V.last/\ai w w'):=by
 obtain⟨u,a,v,x,h,i,y,j⟩:=c.row;have z:0<V.bf.length:=List.length_pos_iff.2 f;have A:=c.many;refine tl λw1 k=>?_;have P:ai w w1:=k.af;have d:=P.get h id;have l:XG .i64 ((a:Int)-1)=((a-1:Nat):Int):=by rw[wrap_i64 bb];omega
 obtain⟨m,b,n,rfl,o,r,s⟩:=(i.ah P).mI (i:=a-1) oM;refine⟨q,0,rfl,_,_,_,ae d rfl,q,0,rfl,_,_,_,ae d rfl,m,b,rfl,?_⟩;rw[l];refine⟨oM,oM,n,s,PC.ok (mi (e.ah P) r) ?_⟩;rintro _ B ⟨rfl,t⟩;refine⟨_,rfl,Ok.mk ⟨?_,P.then t⟩⟩;unfold dh.last;rw[List.getLast?_eq_getElem?,<-j,o];rfl
def FQ(j:Laid w0)(g:cE w0 w p q V D X)(k:V.bf≠[]):ZG 69 #[XL q] w (Ok λl w'=>l= XH (D.sync V.last).1/\cE w0 w' p q V (D.sync V.last).2 X/\ak (fJ X) w w'):=by
 refine tj λw1 m=>?_;have d:ai w w1:=m.af;have n:=g.ah d;obtain⟨G,o,P,h⟩:=n;obtain⟨y,z,A,B,r,C,E,i⟩:=P.row;have F:=h q P.self;have H:=P.aF q P.self;refine⟨λb=>b≠q/\¬X b,q,0,rfl,λs=>s.1 rfl,_,ae r rfl,PC.ok (FP (j.ah (g.gr.then d)) P k) ?_⟩;rintro _ I ⟨rfl,c⟩;have t:=P.ah c;have u:=o.ah c;refine⟨_,rfl,c.af,PC.ok u.sync ?_⟩;rintro _ J ⟨rfl,v,e⟩;refine⟨_,rfl,e.mono λb _ a=>⟨λx=>a (.inr (x▸P.self)),λf=>a (.inl f)⟩,Ok.mk ⟨rfl,⟨G,v,t.af e λb a i=>i (.inr a),h⟩,?_⟩⟩;exact(ai.af (d.then c)).then (e.mono λb _ a f=>a (.inl f))
end
def jX(P:dh)(D:al):Int×dh×al:=
 let c:=dY (aO P.next)
 let a:=D.sync c
 if a.1≠0 then(a.1,P,(a.2.delete c).2)else
 let b:=bJ a.2 (P.bf++[P.next])
 if b.1≠0 then(b.1,P,(b.2.delete c).2)else
 (0,⟨P.size,P.bf++[P.next],0,XG .i64 (P.next+1)⟩,b.2)
def bt(a:dh)(D:al):Int×dh×al:=
 let P:=D.create (dY (aO a.next))
 if P.1≠0 then(P.1,a,P.2)else jX a P.2
def aG(P:dh)(D:al):Int×dh×al:=
 if P.bf=[]then bt P D else
 let a:=D.sync P.last
 if a.1≠0 then(a.1,P,a.2)else bt P a.2
def BT(c d:World)(e f:Nat)(a:XN)(P:Int×dh×al)(g:Value)(b:World):Prop:=g= XH P.1/\cE c b e f P.2.1 P.2.2 a/\ak (fJ a) d b
def Nv(P:Int):aP (XG .i64 P):=by
 unfold aP XG;simp[IntKind.signed,IntKind.bits];omega
def DI{D:al}{a:List Int}(P:(bJ D a).1=0):a.length<=64:=by
 unfold bJ at P;split at P
 ·cases P
 ·omega
variable{b1:dh}
def BU{D:al}(hL:Laid b)(h:cE b k a c b1 D f):
  ZG 97 #[XL c] k (Ok (BT b k a c f (aG b1 D))):=by
 have b2:=h.aF;obtain⟨p6,j6,e6⟩:=h.TH;have p7:=h.gr.size;have e7:=h.BS;have j7:=h.many;refine rK (PA.mk λB k1 s1 g1=>PA.mk λw2 k2 s2 g2=>?_);have d6:ai k w2:=k1.then k2
 let b6:XN:=λP=>f P\/(P=k.heap.size\/P=B.heap.size)
 have hY:cE b w2 a c b1 D b6:=h.add d6 λP d=>by omega
 have b7:=k2.get g1 id;refine⟨λe=>∃C,cE b e a c b1 C b6/\ak (fJ f) k e/\w2.heap.size<=e.heap.size/\e.heap[k.heap.size]? =some (.cells #[XL c] 84 (0,0))/\e.heap[B.heap.size]? =some (.cells #[XH 0] 34 (0,0))/\aG b1 D=bt b1 C,?_,?_⟩
 ·obtain⟨G,hD,hl,hG⟩:=id hY
  obtain⟨t,E,I,m,S,hr,hE,u⟩:=hl.row;refine⟨_,ae b7 rfl,c,0,rfl,_,_,_,ae S rfl,an.dec (λo9=>?_) (λy=>?_)⟩
  ·have v:b1.bf≠[]:=λi=>by rw[i]at u;simp at u;omega
   refine⟨_,ae b7 rfl,PC.ok (FQ hL hY v) ?_⟩;rintro _ w3 ⟨rfl,Y,k3⟩;have kX:ak (fJ f) k w3:=(ai.af d6).then (k3.mono λP _ d j=>d (.inl j));have b8:=k3.get b7 λu=>u (.inr (.inl rfl));have b9:=k3.get g2 λu=>u (.inr (.inr rfl));have hB:aG b1 D=if(D.sync b1.last).1≠0 then((D.sync b1.last).1,b1,(D.sync b1.last).2)else bt b1 (D.sync b1.last).2:=by unfold aG;rw[Zq v]
   refine⟨_,rfl,an.dX (λe9=>?_) (λF=>⟨_,Y,kX,k3.size,b8,b9,by rw[hB,Zq (by simpa using F)]⟩)⟩;refine PS.mk b9 sM λJ L s4 g4=>⟨_,ae g4 rfl,Ok.mk ?_⟩
   rw[hB,Zx e9];exact⟨rfl,(Y.other L λP d=>⟨d▸.inr (.inr rfl),oM⟩).mono λP d=>.inl d,kX.then (L.mono λP _ d j=>by have:=b2 P j;omega)⟩
  ·have he:b1.bf=[]:=QW oM
   exact⟨D,hY,ai.af d6,Q4 _,b7,g2,by unfold aG;rw[Zx he]⟩
 rintro _ w3 ⟨C,Y,b3,p0,b8,b9,hB⟩;rw[hB];obtain⟨G3,p8,j8,p9⟩:=id Y;obtain⟨f7,n3,f8,E3,j9,-,-,-⟩:=j8.row;refine⟨_,ae b8 rfl,c,0,rfl,_,ae j9 rfl,PC.ok (mi (hL.ah Y.gr) e7) ?_⟩;rintro _ J ⟨rfl,L⟩;refine⟨_,rfl,PA.mk λw5 k5 s5 g5=>PS.mk g5 sM λw6 k6 s6 g6=>?_⟩
 let p:XN:=λP=>b6 P\/P=J.heap.size
 have g0:=Y.ah L;have q0:=g0.gr.size;have q1:=L.size;have k0:cE b w6 a c b1 C p:=(g0.add (Y:=(·=J.heap.size)) k5 λP d=>oM).other k6 λP d=>⟨.inr d,oM⟩
 have l0:ak (fJ f) k w6:=((b3.ah L).ah k5).then (k6.mono λP _ d j=>by have:=b2 P j;have:=b3.size;omega);have d8:∀{P},f P->p P:=λj=>.inl (.inl j);intro M e4;have k7:ai w6 M:=e4.af;have g3:=k0.ah k7;have gn:w6.heap[J.heap.size]? =some (.cells #[.string (dY (aO b1.next))] 9 (0,0)):=g6;have l3:=k6.get (k5.get (L.get b8 id) id) oM;have g7:=k6.get (k5.get (L.get b9 id) id) oM
 let q:World->Int->Prop:=λe i=>e.heap[k.heap.size]? =some (.cells #[XL c] 84 (0,0))/\e.heap[B.heap.size]? =some (.cells #[XH i] 34 (0,0))/\e.heap[J.heap.size]? =some (.cells #[.string (dY (aO b1.next))] 9 (0,0))
 have C6:q w6 0:=⟨l3,g7,gn⟩
 have g:∀{e w:World} {i:Int} {d0:XN},q e i->ak d0 e w->(∀P,d0 P->¬(P=k.heap.size\/P=B.heap.size\/P=J.heap.size))->q w i:=λN o hS=>
  ⟨o.get N.1 λO=>hS _ O (.inl rfl),o.get N.2.1 λO=>hS _ O (.inr (.inl rfl)),o.get N.2.2 λO=>hS _ O (.inr (.inr rfl))⟩
 have l:∀{e w:World} {i:Int},q e i->ak (fJ p) e w->q w i:=λN o=>g N o λP d hc=>d (by
  rcases hc with rfl|rfl|rfl
  ·exact .inl (.inr (.inl rfl))
  ·exact .inl (.inr (.inr rfl))
  ·exact .inr rfl)
 have c0:∀{e w:World},ak (fJ f) k e->ak (fJ p) e w->ak (fJ f) k w:=λt P=>t.then (P.mono λP _ d j=>d (d8 j));have C7:q M 0:=g C6 k7 λP d=>d.elim;obtain⟨G7,q2,l4,q3⟩:=id g3;obtain⟨f9,n7,h0,E7,l5,-,-,-⟩:=l4.row;refine⟨_,ae C7.1 rfl,c,0,rfl,_,ae l5 rfl,_,ae C7.2.2 rfl,PC.ok (g3.on (λp hZ T=>T.create)) ?_⟩;rintro _ w8 ⟨rfl,c1,k8⟩;have C8:=l C7 k8;have g8:=c0 (l0.ah k7) k8;have l6:bt b1 C=if(C.create (dY (aO b1.next))).1≠0 then((C.create (dY (aO b1.next))).1,b1,(C.create (dY (aO b1.next))).2)else jX b1 (C.create (dY (aO b1.next))).2:=rfl
 rw[l6];generalize q4:C.create (dY (aO b1.next))=cr at c1⊢;obtain⟨k4,K⟩:=cr;simp only at c1⊢;have q5:B.heap.size<w2.heap.size:=oM
 have h2:∀{e:World} {z:Int×dh×al} {i:Int} {w:World},cE b e a c z.2.1 z.2.2 p->ak (fJ f) k e->ak (·=B.heap.size) e w->i=z.1->BT b k a c f z (XH i) w:=by
  intro e z i w u o O he;exact⟨by rw[he],(u.other O λP d=>⟨d▸.inl (.inr (.inr rfl)),oM⟩).mono λP d=>d8 d,o.then (O.mono λP _ d j=>by have:=b2 P j;omega)⟩
 refine⟨_,rfl,an.dX (λv=>?_) (λF=>?_)⟩
 ·refine PS.mk C8.2.1 sM λw9 k9 s9 g9=>⟨_,ae g9 rfl,Ok.mk ?_⟩
  rw[Zx v];exact h2 c1 g8 k9 rfl
 rw[Zq (by simpa using F)];have A:∀{z:Int×dh×al} (i:Int) (m:al) (e:World),cE b e a c b1 m p->ak (fJ f) k e->q e i->i≠0->z=(i,b1,(m.delete (dY (aO b1.next))).2)->
   Lv XP (λh3=>∃h4:Int,h3.cell? ⟨B.heap.size,0,none⟩=some (XH h4)/\Ok (BT b k a c f z) (.returned (XH h4)) h3) (λch e=>Ok (BT b k a c f z) (.panicked ch) e)
    ([{target:=.fn (.func 150) #[XL B.heap.size,XL k.heap.size,XL J.heap.size],args:= #[]}]:List Deferred) .returning e:=by
  intro z i m e u o N v hr;refine Lv.one sM kR (CallsD.mono (g_ (R:=λe' M=>e'= .returned (.tuple #[])/\∃h5:Int,M.cell? ⟨B.heap.size,0,none⟩=some (XH h5)/\Ok (BT b k a c f z) (.returned (XH h5)) M) ⟨_,ae N.2.1 rfl,an.dX (λ_=>?_) (λF=>Zz F v)⟩) ?_)
  ·intro wa da
   have ka:ai e wa:=da.af;have h6:=u.ah ka;have e0:q wa i:=g N ka λP d=>d.elim;obtain⟨Ga,q6,l7,q7⟩:=id h6;obtain⟨aa,na,ca,Ea,c3,-,-,-⟩:=l7.row;refine⟨_,ae e0.1 rfl,c,0,rfl,_,ae c3 rfl,_,ae e0.2.2 rfl,PC.ok (h6.on (λp hZ T=>T.delete)) ?_⟩;rintro _ U ⟨rfl,l8,kb⟩;have l9:=l e0 kb;refine⟨_,rfl,rfl,_,ae l9.2.1 rfl,Ok.mk ?_⟩;rw[hr];exact⟨rfl,l8.mono λP d=>d8 d,c0 (o.ah ka) kb⟩
  ·rintro e' u' M ⟨rfl,rfl,hX⟩
   exact Lv.ret rfl hX
 intro w9 e8;have k9:ai w8 w9:=e8.af;have h7:=c1.ah k9;have C9:q w9 0:=g C8 k9 λP d=>d.elim;obtain⟨G9,q8,m0,q9⟩:=id h7;obtain⟨l1,n9,l2,E9,m1,-,-,-⟩:=m0.row;refine⟨_,ae C9.1 rfl,c,0,rfl,_,ae m1 rfl,_,ae C9.2.2 rfl,PC.ok (h7.on (λp hZ T=>T.sync)) ?_⟩;rintro _ Z ⟨rfl,V,h8⟩;have b0:=l C9 h8;have d1:=c0 (g8.ah k9) h8;have m2:jX b1 K=if(K.sync (dY (aO b1.next))).1≠0 then((K.sync (dY (aO b1.next))).1,b1,((K.sync (dY (aO b1.next))).2.delete (dY (aO b1.next))).2)else
   if(bJ (K.sync (dY (aO b1.next))).2 (b1.bf++[b1.next])).1≠0 then((bJ (K.sync (dY (aO b1.next))).2 (b1.bf++[b1.next])).1,b1,((bJ (K.sync (dY (aO b1.next))).2 (b1.bf++[b1.next])).2.delete (dY (aO b1.next))).2)else
   (0,⟨b1.size,b1.bf++[b1.next],0,XG .i64 (b1.next+1)⟩,(bJ (K.sync (dY (aO b1.next))).2 (b1.bf++[b1.next])).2):=rfl
 rw[m2];generalize r0:K.sync (dY (aO b1.next))=sy at V⊢;obtain⟨r3,c2⟩:=sy;dsimp only at V;refine⟨_,rfl,an.dX (λv=>?_) (λF=>?_)⟩
 ·refine PS.mk b0.2.1 sM λr s r4 m3=>?_
  rw[Zx v];exact A _ c2 r (V.other s λP d=>⟨d▸.inl (.inr (.inr rfl)),oM⟩) (d1.then (s.mono λP _ d j=>by have:=b2 P j;omega)) ⟨s.get b0.1 oM,m3,s.get b0.2.2 (by have:=b3.size;omega)⟩ v rfl
 rw[Zq (by simpa using F)];have p1:J.heap.size<Z.heap.size:=az b0.2.2;refine⟨λt E I e=>∃m,aU aQ 3 m e t E I (b1.bf++[b1.next])/\(∀P,m P->Z.heap.size<=P)/\ai Z e,?_,?_⟩
 ·intro r m4
  have s:ai Z r:=m4.af;have a5:=V.ah s;have a0:q r 0:=g b0 s λP d=>d.elim;obtain⟨m5,h9,W,i0⟩:=id a5;obtain⟨m6,m7,m8,m9,a6,d2,d3,p2⟩:=W.row;have p3:=W.aF c W.self;have a2:∀{wa U wc:World} {S:Nat} {t E I:_} {a3:XN},aU aQ 3 a3 U t E I b1.bf->(∀P,a3 P->r.heap.size<=P/\P≠S)->U.heap[S]? =some (.cells #[XH b1.next] 3 (0,0))->ai r U->
    ∀κ ε,(∀X n' c' e,(∃m,aU aQ 3 m e X n' c' (b1.bf++[b1.next])/\(∀P,m P->Z.heap.size<=P)/\ai Z e)->ak (λP=>r.heap.size<=P) U e->κ (.slice X n' c') e)->
    aH XP (Builtin.append_ #[55,55] 55 #[.slice t E I,.slice (XM S) 1 1]) U κ ε:=by
   intro wa U wc S t E I a3 Q hF hg o κ ε c7;refine jQ Q sX (D:=(·=S)) (Row.lit hg [b1.next] rfl (λd4 j=>by simp at j;subst j;exact e7) (by unfold aT;simp)) (λP i=>⟨i▸az hg,λf0=>(hF P (Q.self P f0)).2 i⟩) (by unfold aT;simp;omega) (by unfold maxLen;simp;omega) λX c' e F' c8 a4 _ c9=>?_;refine c7 X _ c' e ⟨λP=>aI X=some P,c8.alone,λP d=>?_,?_⟩ (a4.mono λP _ d=>(hF P (Q.self P d)).1)
   ·have:=s.size;have:=o.size
    rcases c9 P d with h|h
    ·have:=(hF P h).1;omega
    ·omega
   ·exact(s.then o).new a4 λP d=>.inr (by have:=(hF P (Q.self P d)).1;have:=s.size;omega)
  have r5:k.heap.size<r.heap.size:=az a0.1;refine⟨λP=>r.heap.size<=P,oM,_,ae a0.1 rfl,c,0,rfl,oM,_,_,_,ae a6 rfl,oM,_,ae a0.1 rfl,c,0,rfl,oM,_,ae a6 rfl,?_,?_⟩
  ·refine PC.ok (cy d2 λP d=>W.aF P (d3 P d).1) ?_
   rintro _ b4 ⟨r6,r7,r8,r9,rfl,a7,H,i1⟩;refine⟨_,_,_,rfl,H.af,PA.mk λx n n0 e1=>⟨n.af,a2 (wa:=x) (wc:=x) (a7.ah n) (λP d=>⟨i1 P d,by have:=a7.aF P d;omega⟩) e1 (H.then n) _ _ λX n' c' e hJ o=>⟨_,_,_,rfl,o,trivial,hJ⟩⟩⟩
  ·refine PA.mk λb4 H s0 n1=>⟨H.af,PC.ok (cy (d2.ah H) λP d=>by have:=W.aF P (d3 P d).1;have:=H.size;omega) ?_⟩
   rintro _ x ⟨n2,n4,n8,s3,rfl,a8,n,d5⟩;exact⟨_,_,_,rfl,n.af,a2 (wa:=x) (wc:=x) a8 (λP d=>⟨by have:=d5 P d;omega,by have:=d5 P d;omega⟩) (n.get n1 id) (H.then n) _ _ λX n' c' e hJ o=>⟨_,_,_,rfl,o,trivial,hJ⟩⟩
 rintro t E I _ r ⟨m,Q,hE,s⟩;have p4:(b1.bf++[b1.next]).length<=65:=by simp;omega
 have a5:cE b r a c b1 c2 (λP=>p P\/m P):=V.add s λP d=>⟨hE P d,Q.aF P d⟩
 have a0:q r 0:=g b0 s λP d=>d.elim;have d7:Row aQ 8 r m t E (b1.bf++[b1.next]):=Q.row dC ba;have f1:∀d4∈b1.bf++[b1.next],aP d4:=JU d7;obtain⟨m5,h9,W,i0⟩:=id a5;obtain⟨m6,m7,m8,m9,a6,-,-,-⟩:=W.row;refine⟨_,ae a0.1 rfl,c,0,rfl,_,ae a6 rfl,PC.ok (a5.on λZ' o0 T=>T.bJ hL.pF d7 f1 λP d=>.inr (o0 P (.inr d))) ?_⟩;rintro _ b4 ⟨rfl,a9,H⟩;have R:ak (fJ p) r b4:=H.mono λP _ d y=>d (.inl y);have c4:=l a0 R;have d9:=c0 (d1.ah s) R;have a7:=Q.af H λP d u=>u (.inr d);have b5:= @DI c2 (b1.bf++[b1.next]);have i2:True:=trivial;generalize s7:bJ c2 (b1.bf++[b1.next])=mw at a9 b5 i2⊢;obtain⟨s8,c5⟩:=mw;dsimp only at a9 b5 i2⊢;refine⟨_,rfl,an.dX (λv=>?_) (λF=>?_)⟩
 ·refine PS.mk c4.2.1 sM λx n n0 e1=>?_
  rw[Zx v];have f2:cE b b4 a c b1 c5 p:=a9.mono λP d=>.inl d;exact A _ c5 x (f2.other n λP d=>⟨d▸.inl (.inr (.inr rfl)),oM⟩) (d9.then (n.mono λP _ d j=>by have:=b2 P j;omega)) ⟨n.get c4.1 oM,e1,n.get c4.2.2 (by have:=b3.size;omega)⟩ v rfl
 rw[Zq (by simpa using F)];have b5:=b5 F;intro x o1;have n:ai b4 x:=o1.af;have i3:=a9.ah n;have e5:q x 0:=g c4 n λP d=>d.elim;have a8:=a7.ah n;obtain⟨t0,i4,e2,p5⟩:=id i3;obtain⟨n2,n4,n8,t1,i5,-,-,-⟩:=e2.row;have i6:∀P,m P->P≠c:=λP d i=>by have:=hE P d;omega
 have o2:c≠k.heap.size/\c≠B.heap.size/\c≠J.heap.size:=by have:=b3.size;omega
 refine⟨(·=c),_,ae e5.1 rfl,λi=>o2.1 i.symm,_,ae e5.1 rfl,c,0,rfl,PS.mk i5 sM λt2 i7 t3 o4=>⟨i7,c,0,rfl,PS.mk o4 sM λo5 i8 t4 i9=>⟨i8,?_⟩⟩⟩;have e3:=i7.then i8;have j0:q o5 0:=g e5 e3 λP d hc=>by subst d;omega
 refine⟨_,ae j0.1 rfl,c,0,rfl,_,ae i9 rfl,c,0,rfl,PS.mk i9 sM λc6 j1 t5 j2=>?_⟩;have o6:q c6 0:=g j0 j1 λP d hc=>by subst d;omega
 have a1:ak (·=c) x c6:=e3.then j1;refine PS.mk o6.2.1 sM λo7 o8 t6 j3=>Lv.one sM kR (CallsD.mono (g_ (R:=λe' M=>e'= .returned (.tuple #[])/\M=o7) ⟨_,ae j3 rfl,an.dX (λhc=>Zz rfl hc) (λ_=>⟨rfl,rfl⟩)⟩) ?_);rintro e' u' _ ⟨rfl,rfl,rfl⟩;refine Lv.ret rfl ⟨_,ae j3 rfl,Ok.mk ?_⟩;have j4:c6.heap[c]? =some (.cells #[XL a,XH b1.size,.slice t E I,XH 0,XH (XG .i64 (b1.next+1))] 191 (0,0)):=j2;have j5:cE b c6 a c ⟨b1.size,b1.bf++[b1.next],0,XG .i64 (b1.next+1)⟩ c5 p:=by
  refine⟨λP=>P=c\/m P,?_,⟨⟨t,E,I,m,j4,a8.af a1 λP d i=>i6 P d i,λP d=>⟨.inr d,i6 P d⟩⟩,.inl rfl,?_,b5,?_⟩,?_⟩
  ·have h1:bM b x a c5 (λP=>p P\/(P=c\/m P)):=i4.mono λP d=>by
    rcases d with d|d|d
    ·exact .inl (.inl d)
    ·exact .inr (d▸e2.self)
    ·exact .inl (.inr d)
   obtain⟨a3,f4,f5,f3,f6⟩:=h1;exact⟨a3,f4.af a1 λP d i=>(f3 P d).2 (.inr (.inl i)),f5.new a1 λP d=>.inr oM,f3,λP d=>Qk (f6 P d) a1.size⟩
  ·rintro P (rfl|d)
   ·exact az j2
   ·exact Qk (a8.aF P d) a1.size
  ·show aP (XG .i64 (b1.next+1))
   exact Nv _
  ·rintro P (rfl|d)
   ·exact⟨j6,λy=>by
     rcases y with(y|y|y)|y
     ·exact e6 y
     ·omega
     ·omega
     ·omega⟩
   ·have:=hE P d
    exact⟨by have:=V.gr.size;omega,λy=>by have:=V.aF P y;omega⟩
 exact h2 j5 ((d9.ah n).then (a1.mono λP _ d j=>e6 (d▸j))) o8 rfl

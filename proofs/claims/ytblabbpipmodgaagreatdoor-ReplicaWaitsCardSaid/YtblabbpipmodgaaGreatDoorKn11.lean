import Derived.Test.YtblabbpipmodgaaGreatDoorKn10
import Derived.Shelf.SlSortCmp.WholeK
import Derived.Shelf.SlMaps.Clone
import Derived.Ground.SlsfProg
import Derived.Ground.SlmcProg
import Derived.Shelf.SlGeneric
import Derived.Shelf.SlSortCmp.NoneTotal
import Derived.Laws.StructEq
import Derived.Carry
import Derived.SizedLaws
import Derived.WalkKit
import Derived.ProofKit
import Derived.OpenShut
import Derived.Deep.DeepHandedRow
import Derived.Deep.Slices
set_option maxHeartbeats 4000000
set_option linter.all false
set_option maxRecDepth 100000
namespace Go.Proofs.YtblabbpipmodgaaGreatDoor
open Go.aw
structure iS where
 bF:Int
 nP:Int
 jO:Int
 least:Int
 deriving DecidableEq
structure aZ where
 kind:Int
 dz:Int
 floor:Bool
 bg:List iS
 deriving DecidableEq
structure ij where
 aT:Int
 field:Int
 group:Int
 BS:Int
 make:Int
 deriving DecidableEq
structure aH where
 types:List (List aZ)
 projs:List ij
 deriving DecidableEq
structure ir where
 aT:Int
 agg:Int
 field:Int
 op:Int
 arg:Int
 expect:Int
 key:Int
 deriving DecidableEq
structure cF where
 n:Int
 set:List Int
 deriving DecidableEq
structure kN where
 version:Int
 cells:List cF
 deriving DecidableEq
structure cz where
 ev:aj
 void:Bool
 BS:Int×Int
structure dv where
 group:Int
 value:Int
 count:Int
 deriving DecidableEq
abbrev lq(P:Int):Int:=IntKind.wrap .i64 P
def within(P a b:Int):Bool:=decide (a<=P)&&decide (P<=b)
def aH.at(P:aH)(a:Int):List aZ:=if within a 0 (P.types.length-1)then P.types.getD a.toNat []else []
def aH.zO(P:aH)(a b:Int):Option aZ:=
 if within a 0 (P.types.length-1)&&within b 0 ((P.at a).length-1)then(P.at a)[b.toNat]? else none
def oN(P:Int):Int:=if P=1 then 1 else if P=2 then 2 else if P=3 then 3 else if P=4 then 3 else if P=5 then 4 else 0
def iB(a:aH)(b c op arg:Int):Int:=match a.zO b c with
 |none=>8
 |some P=>if !within op 1 5||oN op !=P.kind then 2 else if op==1&&arg==0||op==5&& !within arg 0 (P.bg.length-1)then 1 else 0
def ph(P:aH):Bool:=
 if !within P.types.length 1 8||decide (8<P.projs.length)then true else
 P.types.any λb=>!within b.length 1 8||b.any λa=>if a.kind==4 then !within a.bg.length 1 16 else decide (0<a.bg.length)
def NK(a:List aZ)(b P:Int):Bool:=within b 0 (a.length-1)&&((a[b.toNat]?).map (·.kind)==some P)
def M_(P a:Int):Bool:=a==1||a==2&&within P 2 4||a==3&&P==2
def eM(P:List aZ)(f:aZ):Int:=
 if !within f.kind 1 4 then 2 else if !within f.dz 1 3|| !M_ f.kind f.dz||f.floor&&f.kind !=1 then 1 else
 if f.bg.any λm=>decide (m.bF<0)||decide (m.nP<0)||m.jO== -1&&m.least !=0 then 1 else
 if f.bg.any λm=>m.jO != -1&& !NK P m.jO 1 then 8 else 0
def kr(a:aH)(P:ij):Int:=
 if(a.zO P.aT P.field).isNone then 8 else
 if P.group==3&& !NK (a.at P.aT) P.BS 2||P.group !=3&&P.BS !=0 then 8 else
 if !within P.group 1 3|| !within P.make 1 5 then 2 else 0
def bW{a:Type}(P:a->Int):List a->Int
 |[]=>0
 |x::b=>if P x !=0 then P x else bW P b
def cy(P:aH):Int:=
 if ph P then 3 else
 let a:=bW (λb=>bW (eM b) b) P.types
 if a !=0 then a else bW (kr P) P.projs
def aI(P:aj):Int×Int:=(P.origin,P.seq)
def dT(a P:aj):Bool:=decide (a.ax<P.ax)||a.ax==P.ax&&(decide (a.origin<P.origin)||a.origin==P.origin&&decide (a.seq<P.seq))
def qw(P a:aj):Int:=if dT P a then-1 else if dT a P then 1 else 0
def cC(P:aj)(a:Nat):Int:=
 if P.origin<0\/(a:Int)<=P.origin\/min P.seq P.ax<1\/min P.agg P.key<0\/P.aK.length≠a\/P.aK.any (λb=>decide (b<0))then 1 else
 if P.aK.getD P.origin.toNat 0≠lq (P.seq-1)then 9 else
 if P.op<1\/5<P.op then 2 else if min P.aT P.field<0\/8<=P.aT\/8<=P.field then 8 else 0
def yf(P a:aj):Bool:=decide (P.seq<=eI a.aK P.origin)
def sV(P a:aj):Bool:=aI P !=aI a&& !yf P a&& !yf a P
structure ar where
 n:Nat
 l:List aj
def cZ(P:aj):List aj->List aj
 |[]=>[P]
 |x::a=>if dT P x then P::x::a else x::cZ P a
def ar.pU(P:ar)(a:Nat):Nat:=P.l.countP λb=>b.origin==(a:Int)
def ar.vec(P:ar):List Int:=(List.range P.n).map λa=>(P.pU a:Int)
def ar.get(P:ar)(id:Int×Int):Option aj:=P.l.find? λe=>aI e==id
def ar.top(P:ar):Int:=P.l.foldl (λa b=>max a b.ax) 0
def ar.jo(e:ar)(P:aj)(b:Nat):Bool:=
 let c:=P.aK.getD b 0
 c==0||match e.get (b,c)with
  |none=>false
  |some a=>decide (a.ax<P.ax)&&(List.range a.aK.length).all λd=>decide (a.aK.getD d 0<=P.aK.getD d 0)
def ar.add(P:ar)(a:aj):Int×ar:=
 let no:=cC a P.n
 if no≠0 then(no,P)else
 if(P.get (aI a)).isSome then(16,P)else
 if a.seq≠(P.vec.getD a.origin.toNat 0)+1 then(9,P)else
 if(List.range P.n).any λb=>!P.jo a b then(9,P)else(0,{P with l:=cZ a P.l})
def ar.eV(P:ar)(l:List aj):ar:=l.foldl (λP a=>(P.add a).2) P
def ar.missing(b:ar)(c:List Int)(P:Int):List aj:=(b.l.filter λa=>decide (max 0 (eI c a.origin)<a.seq)).take (max 0 P).toNat
def ar.keyed(P:ar)(key:Int):Option aj:=P.l.find? λa=>key !=0&&a.key==key
def cW(P:List aZ):List cF:=P.map λ_=>⟨0,[]⟩
def IV(P a:Int):Bool:=decide (P<lq (P+a))==decide (0<a)
def uh(f:List aZ)(d:List cF)(P c arg:Int):Int:=
 let e:=f.getD P.toNat ⟨0,0,false,[]⟩
 let a:=d.getD P.toNat ⟨0,[]⟩
 let g:Bool:=
  if c=1 then(arg==0||IV a.n arg)&& !(e.floor&&decide (lq (a.n+arg)<0))
  else if c=3 then decide (arg∈a.set)||decide (a.set.length<64)
  else if c=5 then(let b:=e.bg.getD arg.toNat ⟨0,0,0,0⟩;a.n==b.bF&&(decide (b.jO<0)||decide (b.least<=(d.getD b.jO.toNat ⟨0,[]⟩).n)))
  else true
 if g then 0 else 10
def n_(P:Int):List Int->List Int
 |[]=>[P]
 |y::a=>if P<y then P::y::a else if P=y then y::a else y::n_ P a
def NW(d:List aZ)(b:List cF)(P c arg:Int):List cF:=
 let e:=d.getD P.toNat ⟨0,0,false,[]⟩
 let a:=b.getD P.toNat ⟨0,[]⟩
 if c=1 then b.set P.toNat {a with n:=lq (a.n+arg)}
 else if c=2 then b.set P.toNat {a with n:=arg}
 else if c=3 then b.set P.toNat {a with set:=n_ arg a.set}
 else if c=4 then b.set P.toNat {a with set:=a.set.filter λf=>f !=arg}
 else if c=5 then b.set P.toNat {a with n:=(e.bg.getD arg.toNat ⟨0,0,0,0⟩).nP}
 else b
def dX(b:aZ)(a P:Int×Int):Bool:=
 if b.kind=2 then a.1==2&&P.1==2&&a !=P
 else if b.kind=4 then a.1==5&&P.1==5&&a !=P
 else if b.kind=3 then a==(3,P.2)&&P==(4,a.2)||a==(4,P.2)&&P==(3,a.2)
 else false
def kH(f:aZ)(P a:aj):Bool:=(f.dz==2||f.dz==3&&decide (a.arg<P.arg))&&dX f (P.op,P.arg) (a.op,a.arg)&&sV P a
structure aV where
 decl:aH
 entries:List cz
 dW:List ((Int×Int)×kN)
 done:List ((Int×Int×Int)×List aj)
def aV.new(P:aH):aV:=⟨P,[],[],[]⟩
def aV.try(a:aV)(P:aj):Bool×(Int×Int)×aV:=
 if iB a.decl P.aT P.field P.op P.arg≠0 then(true,(0,0),a)else
 let d:=a.decl.at P.aT
 let c:=(P.aT,P.agg,P.field)
 match((az a.done c).getD []).find? λf=>kH (d.getD P.field.toNat ⟨0,0,false,[]⟩) f P with
 |some f=>(true,aI f,a)
 |none=>
  let e:=az a.dW (P.aT,P.agg)
  let b:=match e with
   |some e=>e.cells
   |none=>cW d
  if uh d b P.field P.op P.arg≠0 then(true,(0,0),a)else
  (false,(0,0),{a with
   dW:=aG a.dW (P.aT,P.agg) ⟨lq ((e.getD ⟨0,[]⟩).version+1),NW d b P.field P.op P.arg⟩
   done:=aG a.done c ((az a.done c).getD []++[P])})
def aV.add(c:aV)(a:aj):cz×aV:=
 let P:=c.try a
 let b:cz:=⟨a,P.1,P.2.1⟩
 (b,{P.2.2 with entries:=P.2.2.entries++[b]})
def aV.state(P:aV)(a b:Int):Option kN:=az P.dW (a,b)
def ck(P:aH)(a:List aj):aV:=a.foldl (λb c=>(b.add c).2) (aV.new P)
def je(c:List cz)(d a e:Int)(P:Nat):List cz×Bool:=
 let own:=(c.filter λb=>b.ev.aT==d&&b.ev.agg==a).drop (max e 0).toNat
 (own.take P,decide (P<own.length))
def lQ(c:List dv)(P:Int)(a:Nat):List dv×Bool:=
 let b:=c.dropWhile λd=>decide (d.group<=P)
 (b.take a,decide (a<b.length))
def eD(a:aH)(P:ir):Int:=if P.agg<0\/P.key<0\/P.expect< -1 then 1 else iB a P.aT P.field P.op P.arg
def aQ(a:ir)(P:Int)(b:List Int)(c:Int):Int×aj:=
 let no:aj:=⟨0,0,0,[],0,0,0,0,0,0⟩
 if P<0\/(b.length:Int)<=P\/c<0 then(1,no)else
 if eI b P=9223372036854775807\/c=9223372036854775807 then(13,no)else
 (0,⟨P,eI b P+1,c+1,gQ b [],a.aT,a.agg,a.field,a.op,a.arg,a.key⟩)
def lF(e:aH)(c:ar)(i:aV)(a start:Int)(P:ir):aj×Bool×Int:=
 let no:aj:=⟨0,0,0,[],0,0,0,0,0,0⟩
 let f:=eD e P
 if f≠0 then(no,false,f)else
 match c.keyed P.key with
 |some j=>(j,false,0)
 |none=>
  let g:=e.at P.aT
  let h:=i.state P.aT P.agg
  let b:=match h with
   |some k=>k.cells
   |none=>cW g
  if¬(P.expect= -1\/P.expect=(h.getD ⟨0,[]⟩).version)then(no,false,11)else
  if uh g b P.field P.op P.arg≠0 then(no,false,10)else
  let d:=aQ P a c.vec (max c.top start)
  (d.2,decide (d.1=0),d.1)
structure dj where
 p:ij
 rows:List (Int×dv)
def kp(P:ij)(a:dv)(arg:Int):Int:=
 if P.make=1 then a.count else if P.make=2 then lq (a.value+arg)else
 if P.make=5\/a.count=1/\(P.make=3\/P.make=4)then arg else
 if P.make=3 then min a.value arg else if P.make=4 then max a.value arg else 0
def dj.add(P:dj)(e:cz)(c:Int):dj:=
 let b:=if P.p.group=1 then some e.ev.agg else if P.p.group=2 then some e.ev.arg else if P.p.group=3 then some c else none
 match b with
 |none=>P
 |some b=>
  if e.void||e.ev.aT !=P.p.aT||e.ev.field !=P.p.field then P else
  let a:=(az P.rows b).getD ⟨0,0,0⟩
  let a:dv:=⟨b,a.value,lq (a.count+1)⟩
  {P with rows:=aG P.rows b ⟨b,kp P.p a e.ev.arg,a.count⟩}
def kW(P:dv):List dv->List dv
 |[]=>[P]
 |y::a=>if P.group<y.group then P::y::a else y::kW P a
def dj.list(P:dj):List dv:=(P.rows.map (·.2)).foldr kW []
structure iQ where
 view:aV
 rows:List dj
def iQ.new(P:aH):iQ:=⟨aV.new P,P.projs.map λa=>⟨a,[]⟩⟩
def qv(P:Option kN)(a:ij):Int:=match P with
 |none=>0
 |some P=>((P.cells[a.BS.toNat]?).map (·.n)).getD 0
def iQ.add(b:iQ)(P:aj):iQ:=
 let a:=b.view.add P
 let d:=a.2.state P.aT P.agg
 ⟨a.2,b.rows.map λc=>c.add a.1 (qv d c.p)⟩
def dI(P:aH)(a:List aj):iQ:=a.foldl iQ.add (iQ.new P)
def dy(P:Nat)(a:List aj)(b:aj):Bool×List aj:=
 if P<=a.length\/a.any (λc=>aI c==aI b)then(false,a)else(true,cZ b a)
def cV(P:ar):List aj->Option (aj×ar×List aj)
 |[]=>none
 |e::b=>if(P.add e).1=0 then some (e,(P.add e).2,b)else(cV P b).map λa=>(a.1,a.2.1,e::a.2.2)
def dh:Nat->ar->List aj->List aj->List aj×List aj
 |0,b,a,P=>(P,a)
 |k+1,b,a,P=>match cV b a with
  |none=>(P,a)
  |some (c,d,e)=>dh k d e (P++[c])
def bl(a:ar)(P:List aj):List aj×List aj:=
 let P:=P.filter λb=>(a.get (aI b)).isNone
 dh (P.length+1) a P []
structure di where
 kind:Int
 bF:Int
 nP:Int
 vec:List Int
 events:List aj
def fR(P:di)(a:Int):Int:=if 0<P.events.length then 8 else if(P.vec.length:Int)≠a then 1 else if P.vec.any (λb=>decide (b<0))then 1 else 0
def dY(a:di)(b:Nat)(P:Int):Int:=if 0<a.vec.length then 8 else if a.events.length<1\/P<(a.events.length:Int)then 3 else bW (λc=>cC c b) a.events
def dZ(m:di)(b:Nat)(a:Int):Int:=
 let P:=!(decide (0<=m.bF)&&decide (m.bF<b))|| !(decide (0<=m.nP)&&decide (m.nP<b))||m.bF==m.nP
 if m.kind=3 then(if P then 1 else dY m b a)
 else if m.kind=1\/m.kind=2\/m.kind=4 then(if P then 1 else fR m b)
 else 2
def pL(P:ar)(a b:Int):di:=⟨1,a,b,P.vec,[]⟩
def wS(P:ar)(a b:Int):di:=⟨4,a,b,P.vec,[]⟩
def ko(d:ar)(P:Int)(a:di)(b:Int):List di:=
 if a.kind≠1/\a.kind≠2 then []else
 let e:=d.missing a.vec (max 1 (min b 32))
 let g:List di:=if 0<e.length then [⟨3,P,a.bF,[],e⟩]else []
 let f:=pk a.vec d.vec
 let h:List di:=if a.kind=1/\(f=2\/f=3)then [⟨2,P,a.bF,d.vec,[]⟩]else []
 let c:=g++h
 if c.isEmpty then [wS d P a.bF]else c
variable{e o:Int}{t:List Int}{a c i:Nat}{d:ZH}{b:World}{l:aj}
def CD:(if o<e then o else e)=min e o:=oM
def Oj{D:XN}(j:Row aJ 8 b D d a t):
  ZG 200 #[.slice d a c,.func (.func 199) #[] #[]] b (Ok λh P=>h= .bool (t.any λe=>decide (e<0))/\b=P):=by
 have w:=j.len;have q:=j.dE;unfold aN at q;refine iu (PC.ok (φ:=λh P=>(∃g:Int,h= XH g/\(0<=g↔(t.any λe=>decide (e<0))=true))/\b=P) (js ⟨λm g P=>∃f:Nat,g=f/\f<=a/\m=a-f/\((t.take f).any λe=>decide (e<0))=false/\b=P,
  ⟨_,0,rfl,Qj _,rfl,sM,rfl⟩,?_⟩) ?_)
 ·rintro m g _ _ ⟨f,rfl,x,rfl,k,rfl⟩
  refine an.dec (λr=>?_) (λr=>?_)
  ·obtain⟨s,l,n,rfl,o,_,u⟩:=j.lb (i:=f) oM
   refine⟨s,l,rfl,oM,oM,_,u,199,_,_,rfl,kR,PC.ok (φ:=λh P=>h= .bool (decide (n<0))/\b=P) (wH (Ok.mk ⟨rfl,rfl⟩)) ?_⟩;rintro _ _ ⟨rfl,rfl⟩;refine⟨_,rfl,an.dec (λp=>?_) (λp=>?_)⟩
   ·exact Ok.mk ⟨⟨_,rfl,λ_=>List.any_eq_true.2 ⟨n,QZ o,by simpa using p⟩,λ_=>oM⟩,rfl⟩
   ·refine⟨_,oM,f+1,aq oM,oM,rfl,?_,rfl⟩
    rw[Qw,o,List.any_append,k];simp;omega
  ·rw[Qz oM]at k
   exact Ok.mk ⟨⟨_,rfl,λi=>oM,λi=>by rw[k]at i;cases i⟩,rfl⟩
 ·rintro _ _ ⟨⟨g,rfl,v⟩,rfl⟩
  exact⟨_,rfl,Ok.mk ⟨by cases i:(t.any λe=>decide (e<0))<;>simp[i]at v⊢<;>omega,rfl⟩⟩
def vA{D:XN}(m:Row aJ 8 b D d a l.aK)(I:i<4611686018427387904):
  ZG 140 #[.agg (aB l d a c).toArray,XH (i:Int)] b (Ok λj k=>j= XH (cC l i)/\ai b k):=by
 have J:=m.len;have x:=m.dE;unfold aN at x;refine Ai (PA.mk λy n K g=>⟨_,ae g rfl,?_⟩);have f:(l.origin<0\/(i:Int)<=l.origin\/min l.seq l.ax<1\/min l.agg l.key<0\/l.aK.length≠i\/l.aK.any (λp=>decide (p<0))=true)->Ok (λj k=>j= XH (cC l i)/\ai b k) (.returned (XH 1)) y:=λP=>by
  refine Ok.mk ⟨?_,n⟩;unfold cC;rw[Zx P]
 refine an.dec (λP=>f (.inl P)) λL=>⟨_,ae g rfl,an.dec (λP=>f (.inr (.inl P))) λM=>⟨_,ae g rfl,_,ae g rfl,?_⟩⟩
 with_reducible (conv=>whnf)
 rw[CD];refine an.dec (λP=>f (.inr (.inr (.inl P)))) λN=>⟨_,ae g rfl,_,ae g rfl,?_⟩
 with_reducible (conv=>whnf)
 rw[CD];refine an.dec (λP=>f (.inr (.inr (.inr (.inl P))))) λO=>⟨_,_,_,ae g rfl,an.dR (λP=>f (.inr (.inr (.inr (.inr (.inl oM)))))) λQ=>⟨_,_,_,ae g rfl,PC.ok (Oj (m.ah n)) ?_⟩⟩
 rintro _ _ ⟨rfl,rfl⟩;refine⟨_,rfl,an.mk (λP=>f (.inr (.inr (.inr (.inr (.inr P)))))) λz=>⟨_,_,_,ae g rfl,_,ae g rfl,?_⟩⟩;obtain⟨A,q,B,rfl,C,R,E⟩:=(m.ah n).lb (i:=l.origin.toNat) oM;have t:¬(l.origin<0\/(i:Int)<=l.origin\/min l.seq l.ax<1\/min l.agg l.key<0\/l.aK.length≠i\/l.aK.any (λp=>decide (p<0))=true):=by
  rw[z];simp only[Bool.false_eq_true,or_false,not_or];omega
 refine⟨A,q,rfl,oM,oM,_,E,_,ae g rfl,λu v=>?_⟩;have F:ai b u:=n.then v.af;have h:=(bG.af (S:=λ_=>False) v).get g id;have w:l.aK.getD l.origin.toNat 0=B:=by rw[QQ,C];rfl
 have e:∀r:Int,cC l i=r->Ok (λj k=>j= XH (cC l i)/\ai b k) (.returned (XH r)) u:=λr P=>Ok.mk ⟨by rw[P],F⟩;refine an.dR (λP=>e 9 (by unfold cC;rw[Zq t,w,Zx P])) λH=>⟨_,ae h rfl,?_⟩
 have s:cC l i=if l.op<1\/5<l.op then 2 else if min l.aT l.field<0\/8<=l.aT\/8<=l.field then 8 else 0:=by
  unfold cC;rw[Zq t,w,Zq (by simpa using H)]
 refine an.dec (λP=>e 2 (by rw[s,Zx (.inl P)])) λS=>⟨_,ae h rfl,an.dec (λP=>e 2 (by rw[s,Zx (.inr P)])) λT=>⟨_,ae h rfl,_,ae h rfl,?_⟩⟩
 with_reducible (conv=>whnf)
 rw[CD];have o:cC l i=if min l.aT l.field<0\/8<=l.aT\/8<=l.field then 8 else 0:=by rw[s,Zq oM]
 refine an.dec (λP=>e 8 (by rw[o,Zx (.inl P)])) λU=>⟨_,ae h rfl,an.dec (λP=>e 8 (by rw[o,Zx (.inr (.inl P))])) λV=>⟨_,ae h rfl,an.dec (λP=>e 8 (by rw[o,Zx (.inr (.inr P))])) λW=>e 0 (by rw[o,Zq oM])⟩⟩
end Go.Proofs.YtblabbpipmodgaaGreatDoor
namespace Go.aw
open Go
def SK(a P:Value):Bool:=match a with
 | .int b _=>match P with
  | .int c _=>decide (c=b)
  |_=>false
 | .bool _=>match P with
  | .bool _=>true
  |_=>false
 | .string _=>match P with
  | .string _=>true
  |_=>false
 | .slice _ _ _=>match P with
  | .slice _ _ _=>true
  |_=>false
 | .pointer _=>match P with
  | .pointer _=>true
  |_=>false
 | .map _=>match P with
  | .map _=>true
  |_=>false
 |_=>true
def Ro:List Value->List Value->Bool
 |[],[]=>true
 |z::P,a::b=>SK z a&&Ro P b
 |_,_=>false
def OC(z P:Value):Bool:=match z with
 | .agg a=>match P with
  | .agg cs=>Ro a.toList cs.toList
  |_=>false
 |z=>SK z P
variable{n:Array Value}{a c:Nat}{H:Nat×Nat}{h:Program}{g p:TypeId}{b6 u:Value}{V:Value->Prop}{b:World}{x:XU}
def Ny{φ:Value->Prop}(a:SK u b6=true)(P:φ b6):Lt u φ:=by
 unfold Lt
 cases u<;>cases b6<;>simp[SK]at a<;>first
  |exact⟨_,P⟩
  |exact⟨_,_,_,P⟩
  |(subst a;exact⟨_,P⟩)
def IJ:∀{a cs:List Value} {φ:List Value->Prop},Ro a cs=true->φ cs->MG a φ
 |[],[],φ,_,b=>b
 |[],_::_,φ,P,_=>by simp[Ro]at P
 |_::_,[],φ,P,_=>by simp[Ro]at P
 |z::a,c::e,φ,P,b=>by
  simp only[Ro,QK]at P;exact Ny (φ:=λc=>MG a λd=>φ (c::d)) P.1 (IJ (φ:=λd=>φ (c::d)) P.2 b)
def bN(P:OC u b6=true)(a:V b6):zZ u V:=by
 unfold zZ;split
 ·rename_i d
  cases b6<;>simp[OC]at P
  rename_i cs;exact IJ (φ:=λb=>V (.agg b.toArray)) P (by simpa using a)
 ·rename_i c
  refine Ny ?_ a
  cases u<;>first|exact P|exact Zz rfl (c _)
def vU{c:World}{d:Addr}{e:Prop}:∀{cs:List Value} {P:Nat},(∀a v,cs[a]? =some v->c.cell? (d.add (P+a))=some v)->e->gv c d P cs e
 |[],P,_,b=>b
 |v::i,P,f,b=>⟨f 0 v rfl,vU (λa g h=>by have:=f (a+1) g (by simpa using h);rwa [show P+1+a=P+(a+1) by omega]) b⟩
def im(P:Program)(a:TypeId)(cs:List Value):Bool:=rN P a&&(match fp P a with
 | .agg b=>Nat.beq (kf P a) b.size&&Ro b.toList cs
 |_=>false)&&Nat.beq cs.length (kf P a)&&cs.all Value.oneCell'
def IK{cs:List Value}(f:im h g cs=true)(j:∀d e,cs[d]? =some e->b.cell? ⟨a,c+d,none⟩=some e)(k:V (.agg cs.toArray)):
  mW h g (.pointer (some ⟨a,c,none⟩)) b V:=by
 simp only[im,QK]at f;obtain⟨⟨⟨l,P⟩,n⟩,o⟩:=f;unfold mW;simp only[l]
 revert P
 cases fp h g<;>simp only[Bool.false_eq_true,false_implies]
 rename_i p;intro P;simp only[QK]at P;simp only[P.1];exact IJ (φ:=λi=>gv b ⟨a,c,none⟩ 0 i (V (.agg i.toArray))) P.2 (vU (λd e m=>by rw[Xz,Addr.add_lit];exact j d e m) k)
def au{cs:List Value}(P:im h g cs=true)(c:b.heap[a]? =some (.cells cs.toArray p H))(d:V (.agg cs.toArray)):
  mW h g (XL a) b V:=IK P (λf i e=>ae c (by rw[Xz];simpa using e)) d
def Ra{cs:List Value}(e:im h g cs=true)(f:b.heap[a]? =some (.cells n p H))(i:∀P d,cs[P]? =some d->n[c+P]? =some d)(j:V (.agg cs.toArray)):
  mW h g (.pointer (some ⟨a,c,none⟩)) b V:=IK e (λP d k=>ae f (i P d k)) j
def bq{a c k:Nat}{es:List Value}(e:im h g es=true)(f:es.length=k)(i:∀P,P<k->b.cell? ⟨a,c+P,none⟩=es[P]?)(j:V (.agg es.toArray)):
  mW h g (.pointer (some ⟨a,c,none⟩)) b V:=IK e (λP l d=>by rw[i P (by rw[<-f];exact(Qv.1 d).1)];exact d) j
def BP{c e:Nat}{h:TypeId}{i:XU}:∀(b:List Value) (a:Nat) {P:World} {cs:Array Value},P.heap[c]? =some (.cells cs h (0,0))->e+a+b.length<=cs.size->
  (∀d,ak (·=c) P d->d.heap.size=P.heap.size->d.heap[c]? =some (.cells (zJ cs (e+a) b) h (0,0))->i d)->ia ⟨c,e,none⟩ a b P i
 |[],a,P,cs,f,j,g=>g P (ak.refl _) rfl f
 |v::b,a,P,cs,f,j,g=>by
  unfold ia;rw[Addr.add_lit];rw[Xq]at j;exact PS.mk f oM λr k l m=>BP b (a+1) m bc λn o p q=>g n (k.then o) (p.trans l) q
def Rp{cs:List Value}(d:im h g cs=true)(e:b.heap[a]? =some (.cells n p (0,0)))(o:c+cs.length<=n.size)(f:∀P,ak (·=a) b P->P.heap.size=b.heap.size->P.heap[a]? =some (.cells (zJ n c cs) p (0,0))->x P):vm h g (.pointer (some ⟨a,c,none⟩)) (.agg cs.toArray) b x:=by
 simp only[im,QK]at d;obtain⟨⟨⟨i,q⟩,j⟩,k⟩:=d;unfold vm;have l:Nat.beq cs.toArray.size (kf h g)=true:=by simpa using j
 have m:cs.toArray.toList.all Value.oneCell'=true:=by simpa using k
 simp only[i,l,m];exact BP cs 0 e oM f
def aA{cs:List Value}(c:im h g cs=true)(d:b.heap[a]? =some (.cells n p (0,0)))(e:cs.length=n.size)(f:∀P,ak (·=a) b P->P.heap.size=b.heap.size->P.heap[a]? =some (.cells cs.toArray p (0,0))->x P):vm h g (XL a) (.agg cs.toArray) b x:=
 Rp c d oM λP i j k=>f P i j (by rw[k,BO e])
end Go.aw
namespace Go.Proofs
open Go.Shelf
def Tryz.Li:Go.Shelf.Ren:=⟨λ|6=>149|15=>207|14=>206|28=>275|29=>276|20=>267|21=>268|22=>269|23=>270|24=>271|25=>272|26=>273|27=>274|46=>306|47=>307|48=>308|49=>309|50=>310|57=>330|n=>n,λ|22=>50|24=>55|25=>249|3=>3|39=>311|0=>0|53=>357|55=>359|4=>4|46=>351|45=>350|50=>180|5=>5|9=>9|66=>386|70=>379|76=>406|77=>407|n=>n,λ|n=>n⟩
def Tryz.PY:Go.Proofs.SlLaysF0.n6 Tryz.prog Tryz.Li:={
 mixed:=by kernel_rfl
 f6:=⟨Tryz.f149.name,am,Tryz.func149.trans ac⟩
 f14:=⟨Tryz.f206.name,am,Tryz.func206.trans ac⟩
 f15:=Tryz.func207.trans ac
 f20:=⟨Tryz.f267.name,am,Tryz.func267.trans ac⟩
 f21:=⟨Tryz.f268.name,am,Tryz.func268.trans ac⟩
 f22:=⟨Tryz.f269.name,am,Tryz.func269.trans ac⟩
 f23:=⟨Tryz.f270.name,am,Tryz.func270.trans ac⟩
 f24:=⟨Tryz.f271.name,am,Tryz.func271.trans ac⟩
 f25:=⟨Tryz.f272.name,am,Tryz.func272.trans ac⟩
 f26:=⟨Tryz.f273.name,am,Tryz.func273.trans ac⟩
 f27:=⟨Tryz.f274.name,am,Tryz.func274.trans ac⟩
 f28:=Tryz.func275.trans ac
 f29:=Tryz.func276.trans ac
 f46:=⟨Tryz.f306.name,am,Tryz.func306.trans ac⟩
 f47:=Tryz.func307.trans ac
 f48:=Tryz.func308.trans ac
 f49:=⟨Tryz.f309.name,am,Tryz.func309.trans ac⟩
 f50:=⟨Tryz.f310.name,am,Tryz.func310.trans ac⟩
 f57:=⟨Tryz.f330.name,am,Tryz.func330.trans ac⟩
 t0:=Tryz.underlying0
 a0:=Tryz.isAgg0
 z0:=Tryz.sizeOf0
 v0:=Tryz.zeroValue0
 t3:=Tryz.underlying3
 a3:=Tryz.isAgg3
 z3:=Tryz.sizeOf3
 v3:=Tryz.zeroValue3
 t4:=Tryz.underlying4
 a4:=Tryz.isAgg4
 z4:=Tryz.sizeOf4
 v4:=Tryz.zeroValue4
 t5:=Tryz.underlying5
 a5:=Tryz.isAgg5
 z5:=Tryz.sizeOf5
 v5:=Tryz.zeroValue5
 t9:=Tryz.underlying9
 a9:=Tryz.isAgg9
 z9:=Tryz.sizeOf9
 v9:=Tryz.zeroValue9
 t22:=Tryz.underlying50
 a22:=Tryz.isAgg50
 z22:=Tryz.sizeOf50
 v22:=Tryz.zeroValue50
 t25:=Tryz.underlying249
 a25:=Tryz.isAgg249
 z25:=Tryz.sizeOf249
 v25:=Tryz.zeroValue249
 t39:=Tryz.underlying311
 a39:=Tryz.isAgg311
 z39:=Tryz.sizeOf311
 v39:=Tryz.zeroValue311
 t45:=Tryz.underlying350
 a45:=Tryz.isAgg350
 z45:=Tryz.sizeOf350
 v45:=Tryz.zeroValue350
 t46:=Tryz.underlying351
 a46:=Tryz.isAgg351
 z46:=Tryz.sizeOf351
 v46:=Tryz.zeroValue351
 t50:=Tryz.underlying180
 a50:=Tryz.isAgg180
 z50:=Tryz.sizeOf180
 v50:=Tryz.zeroValue180
 t53:=Tryz.underlying357
 a53:=Tryz.isAgg357
 z53:=Tryz.sizeOf357
 v53:=Tryz.zeroValue357
 t55:=Tryz.underlying359
 a55:=Tryz.isAgg359
 z55:=Tryz.sizeOf359
 v55:=Tryz.zeroValue359
 t66:=Tryz.underlying386
 a66:=Tryz.isAgg386
 z66:=Tryz.sizeOf386
 v66:=Tryz.zeroValue386
 t70:=Tryz.underlying379
 a70:=Tryz.isAgg379
 z70:=Tryz.sizeOf379
 v70:=Tryz.zeroValue379
 t76:=Tryz.underlying406
 a76:=Tryz.isAgg406
 z76:=Tryz.sizeOf406
 v76:=Tryz.zeroValue406
 t77:=Tryz.underlying407
 a77:=Tryz.isAgg407
 z77:=Tryz.sizeOf407
 v77:=Tryz.zeroValue407}
def Tryz.Lj:Go.Shelf.Ren:=⟨λ|6=>395|15=>207|14=>397|28=>275|29=>276|20=>398|21=>399|22=>400|23=>401|24=>402|25=>403|26=>404|27=>405|46=>406|47=>307|48=>308|49=>407|50=>408|57=>409|n=>n,λ|22=>44|24=>269|25=>451|3=>3|39=>311|0=>0|53=>357|55=>359|4=>4|46=>351|45=>350|50=>180|5=>5|9=>9|66=>386|70=>379|76=>406|77=>407|n=>n,λ|n=>n⟩
def Tryz.PZ:Go.Proofs.SlLaysF0.n6 Tryz.prog Tryz.Lj:={
 mixed:=by kernel_rfl
 f6:=⟨Tryz.f395.name,am,Tryz.func395.trans ac⟩
 f14:=⟨Tryz.f397.name,am,Tryz.func397.trans ac⟩
 f15:=Tryz.func207.trans ac
 f20:=⟨Tryz.f398.name,am,Tryz.func398.trans ac⟩
 f21:=⟨Tryz.f399.name,am,Tryz.func399.trans ac⟩
 f22:=⟨Tryz.f400.name,am,Tryz.func400.trans ac⟩
 f23:=⟨Tryz.f401.name,am,Tryz.func401.trans ac⟩
 f24:=⟨Tryz.f402.name,am,Tryz.func402.trans ac⟩
 f25:=⟨Tryz.f403.name,am,Tryz.func403.trans ac⟩
 f26:=⟨Tryz.f404.name,am,Tryz.func404.trans ac⟩
 f27:=⟨Tryz.f405.name,am,Tryz.func405.trans ac⟩
 f28:=Tryz.func275.trans ac
 f29:=Tryz.func276.trans ac
 f46:=⟨Tryz.f406.name,am,Tryz.func406.trans ac⟩
 f47:=Tryz.func307.trans ac
 f48:=Tryz.func308.trans ac
 f49:=⟨Tryz.f407.name,am,Tryz.func407.trans ac⟩
 f50:=⟨Tryz.f408.name,am,Tryz.func408.trans ac⟩
 f57:=⟨Tryz.f409.name,am,Tryz.func409.trans ac⟩
 t0:=Tryz.underlying0
 a0:=Tryz.isAgg0
 z0:=Tryz.sizeOf0
 v0:=Tryz.zeroValue0
 t3:=Tryz.underlying3
 a3:=Tryz.isAgg3
 z3:=Tryz.sizeOf3
 v3:=Tryz.zeroValue3
 t4:=Tryz.underlying4
 a4:=Tryz.isAgg4
 z4:=Tryz.sizeOf4
 v4:=Tryz.zeroValue4
 t5:=Tryz.underlying5
 a5:=Tryz.isAgg5
 z5:=Tryz.sizeOf5
 v5:=Tryz.zeroValue5
 t9:=Tryz.underlying9
 a9:=Tryz.isAgg9
 z9:=Tryz.sizeOf9
 v9:=Tryz.zeroValue9
 t22:=Tryz.underlying44
 a22:=Tryz.isAgg44
 z22:=Tryz.sizeOf44
 v22:=Tryz.zeroValue44
 t25:=Tryz.underlying451
 a25:=Tryz.isAgg451
 z25:=Tryz.sizeOf451
 v25:=Tryz.zeroValue451
 t39:=Tryz.underlying311
 a39:=Tryz.isAgg311
 z39:=Tryz.sizeOf311
 v39:=Tryz.zeroValue311
 t45:=Tryz.underlying350
 a45:=Tryz.isAgg350
 z45:=Tryz.sizeOf350
 v45:=Tryz.zeroValue350
 t46:=Tryz.underlying351
 a46:=Tryz.isAgg351
 z46:=Tryz.sizeOf351
 v46:=Tryz.zeroValue351
 t50:=Tryz.underlying180
 a50:=Tryz.isAgg180
 z50:=Tryz.sizeOf180
 v50:=Tryz.zeroValue180
 t53:=Tryz.underlying357
 a53:=Tryz.isAgg357
 z53:=Tryz.sizeOf357
 v53:=Tryz.zeroValue357
 t55:=Tryz.underlying359
 a55:=Tryz.isAgg359
 z55:=Tryz.sizeOf359
 v55:=Tryz.zeroValue359
 t66:=Tryz.underlying386
 a66:=Tryz.isAgg386
 z66:=Tryz.sizeOf386
 v66:=Tryz.zeroValue386
 t70:=Tryz.underlying379
 a70:=Tryz.isAgg379
 z70:=Tryz.sizeOf379
 v70:=Tryz.zeroValue379
 t76:=Tryz.underlying406
 a76:=Tryz.isAgg406
 z76:=Tryz.sizeOf406
 v76:=Tryz.zeroValue406
 t77:=Tryz.underlying407
 a77:=Tryz.isAgg407
 z77:=Tryz.sizeOf407
 v77:=Tryz.zeroValue407}
def Tryz.II:Go.Shelf.Ren:=⟨λ|5=>298|7=>329|n=>n,λ|23=>286|25=>3|3=>269|4=>4|20=>20|n=>n,λ|n=>n⟩
def Tryz.Rb:Go.Proofs.SlLaysW.n5 Tryz.prog Tryz.II:={
 mixed:=by kernel_rfl
 f5:=⟨Tryz.f298.name,am,Tryz.func298.trans ac⟩
 f7:=Tryz.func329.trans ac
 t4:=Tryz.underlying4
 a4:=Tryz.isAgg4
 z4:=Tryz.sizeOf4
 v4:=Tryz.zeroValue4
 t20:=Tryz.underlying20
 a20:=Tryz.isAgg20
 z20:=Tryz.sizeOf20
 v20:=Tryz.zeroValue20
 t23:=Tryz.underlying286
 a23:=Tryz.isAgg286
 z23:=Tryz.sizeOf286
 v23:=Tryz.zeroValue286}
end Go.Proofs
namespace Go.Proofs.YtblabbpipmodgaaGreatDoor
open Go.aw Go.Sort
def aU(P:aj)(a:ZH)(b c:Nat):im XP 55 (aB P a b c)=true:=kR
def pT(P:aj)(a:ZH)(b c:Nat):OC (fp XP 55) (.agg (aB P a b c).toArray)=true:=kR
def G(P a:World):Prop:=∃b c,a=grow (P.drewN b) c
variable{R e o:Int}{d2:Int×Int}{h0:List ((Int×Int)×aj)}{K e0:List aj}{a c i q:Nat}{f:XN}{c3:Obj}{d r:ZH}{g:TypeId}{a7 b k:World}{x:XU}{M l:aj}{A:ar}
def G.then(e:G b k)(f:G k a7):G b a7:=by
 obtain⟨P,a,rfl⟩:=e;obtain⟨c,d,rfl⟩:=f;exact⟨P+c,a++d,by show grow (grow ((b.drewN P).drewN c) a) d=_;rw[grow_grow,World.drewN_drewN]⟩
def G.af{S:XN}(P:G b k):ak S b k:=by
 obtain⟨e,a,rfl⟩:=P;refine⟨rfl,rfl,rfl,by simp[grow],λc d _=>?_⟩;show(b.heap++a)[c]? =_;rw[Array.getElem?_append_left d]
def G.drew(P:bG b k):G b k:=by obtain⟨a,rfl⟩:=P;exact⟨a,#[],sM⟩
def PA.Sq(a:∀P,G b P->P.heap.size=b.heap.size+1->P.heap[b.heap.size]? =some c3->x P):PA b c3 x:=
 a (b.alloc c3) ⟨0,#[c3],by rw[alloc_eq_grow];rfl⟩ sM (heap_alloc_new b c3)
def isNaN:ZG 277 #[XH e] b (Ok λP a=>P= .bool false/\b=a):=wK (Ok.mk ⟨sM,rfl⟩)
def Gs(P a:Int):Int:=if P<a then-1 else if a<P then 1 else 0
def fP:ZG 209 #[XH e,XH o] b (Ok λc d=>c= XH (Gs e o)/\b=d):=by
 refine sJ (PC.ok isNaN ?_);rintro _ _ ⟨rfl,rfl⟩;refine⟨_,rfl,PC.ok isNaN ?_⟩;rintro _ _ ⟨rfl,rfl⟩;refine⟨_,rfl,an.ff rfl (an.ff rfl (an.dec (λP=>Ok.mk ⟨by unfold Gs;rw[Zx P],rfl⟩) (λP=>an.dec (λa=>Ok.mk ⟨by unfold Gs;rw[Zq P,Zx a],rfl⟩) (λa=>Ok.mk ⟨by unfold Gs;rw[Zq P,Zq a],rfl⟩))))⟩
def JH:List Int->Int
 |[]=>0
 |x::P=>if x≠0 then x else JH P
def LK(r:b.heap[a]? =some (.cells #[XH e,XH o,XH R] g (0,0))):
  ZG 208 #[.slice (XM a) 3 3] b (Ok λi f=>i= XH (JH [e,o,R])/\b=f):=by
 refine Cy ⟨λl d f=>∃P:Nat,d=P/\P<=3/\l=3-P/\JH [e,o,R]=JH ([e,o,R].drop P)/\b=f,⟨_,0,rfl,oM,rfl,rfl,rfl⟩,?_⟩;rintro l d _ _ ⟨P,rfl,w,rfl,j,rfl⟩;refine an.dec (λs=>?_) (λs=>?_)
 ·have t:∀h:Int,[e,o,R][P]? =some h->∃m n,(XM a:ZH)=some ⟨m,n,none⟩/\(0:Int)<=P/\(P:Int)<((3:Nat):Int)/\∃k:Int,b.cell? ⟨m,n+Int.toNat P,none⟩=some (XH k)/\an (k !=0) (Ok (λi f=>i= XH (JH [e,o,R])/\b=f) (.returned (XH k)) b) (∃p,p<3-P/\∃d:Nat,IntKind.wrap .i64 ((P:Int)+1)=d/\d<=3/\p=3-d/\JH [e,o,R]=JH ([e,o,R].drop d)/\b=b):=by
   intro h c;have q:[e,o,R].drop P=h::[e,o,R].drop (P+1):=by
    rw[X4 bc];congr 1;simpa using(Qv.1 c).2
   refine⟨a,0,rfl,oM,oM,h,ae r ?_,an.dR (λu=>Ok.mk ⟨?_,rfl⟩) (λv=>⟨_,oM,P+1,aq oM,oM,rfl,?_,rfl⟩)⟩
   ·rw[Xz]
    match P,c with
    |0,c=>simp at c;simp[c]
    |1,c=>simp at c;simp[c]
    |2,c=>simp at c;simp[c]
    |P+3,c=>simp at c
   ·rw[j,q,JH,Zx u]
   ·rw[j,q,JH,Zq (by simpa using v)]
  have c:P<[e,o,R].length:=by simp;omega
  exact t [e,o,R][P] (by simp[c])
 ·obtain rfl:P=3:=oM
  exact Ok.mk ⟨by rw[j];rfl,rfl⟩
def D_(P a:aj):JH [Gs P.ax a.ax,Gs P.origin a.origin,Gs P.seq a.seq]=qw P a:=by
 unfold qw dT Gs JH JH JH JH
 by_cases e:P.ax<a.ax
 ·simp[e]
 by_cases h:a.ax<P.ax
 ·simp[e,h];omega
 have b:P.ax=a.ax:=oM
 by_cases f:P.origin<a.origin
 ·simp[b,f]
 by_cases i:a.origin<P.origin
 ·simp[b,f,i];omega
 have c:P.origin=a.origin:=oM
 by_cases d:P.seq<a.seq
 ·simp[b,c,d]
 by_cases g:a.seq<P.seq
 ·simp[b,c,d,g]
 ·simp[b,c,d,g]
def zG:ZG 150 #[.agg (aB l d a c).toArray,.agg (aB M r i q).toArray] b (Ok λj k=>j= XH (qw l M)/\G b k):=by
 refine uB (PA.Sq λt m u n=>PA.Sq λv g w o=>λx p=>⟨λ_=>False,?_⟩);have P:=G.drew p;have e:=(P.af (S:=λ_=>False)).get ((g.af (S:=λ_=>False)).get n id) id;have f:=(P.af (S:=λ_=>False)).get o id;refine⟨_,ae e rfl,_,ae f rfl,id,_,ae e rfl,id,_,ae f rfl,id,_,ae e rfl,id,_,ae f rfl,PC.ok fP ?_⟩;rintro _ _ ⟨rfl,rfl⟩;refine⟨_,rfl,ak.refl _,PC.ok fP ?_⟩;rintro _ _ ⟨rfl,rfl⟩;refine⟨_,rfl,ak.refl _,PC.ok fP ?_⟩;rintro _ _ ⟨rfl,rfl⟩;refine⟨_,rfl,ak.refl _,PA.Sq λy h z s=>⟨h.af,PC.ok (LK s) ?_⟩⟩;rintro _ _ ⟨rfl,rfl⟩;exact⟨_,rfl,ak.refl _,Ok.mk ⟨by rw[D_],((m.then g).then P).then h⟩⟩
structure Nw where
 e:aj
 a:ZH
 n:Nat
 c:Nat
instance:Inhabited Nw:=⟨⟨⟨0,0,0,[],0,0,0,0,0,0⟩,none,0,0⟩⟩
def encS(P:Nw):List Value:=aB P.e P.a P.n P.c
def Nx(a:Nw):∀b∈encS a,b.oneCell'=true:=by
 intro c P;simp only[encS,aB,Q2,List.not_mem_nil,or_false]at P;rcases P with rfl|rfl|rfl|rfl|rfl|rfl|rfl|rfl|rfl|rfl<;>rfl
def xi(P a:Nw):ltOf (λP a:Nw=>qw P.e a.e) P a=dT P.e a.e:=by
 unfold ltOf qw
 cases b:dT P.e a.e
 ·cases c:dT a.e P.e<;>simp[b,c]
 ·simp[b]
def iq:dT l M=true↔l.ax<M.ax\/l.ax=M.ax/\(l.origin<M.origin\/l.origin=M.origin/\l.seq<M.seq):=by simp[dT]
def sd:dT l M=false↔¬(l.ax<M.ax\/l.ax=M.ax/\(l.origin<M.origin\/l.origin=M.origin/\l.seq<M.seq)):=by rw[<-iq];simp
def Sr:SWO (ltOf λP a:Nw=>qw P.e a.e) where
 irrefl P:=by rw[xi,sd];omega
 trans P a z h1 h2:=by rw[xi,iq]at*;omega
 ntrans P a z h1 h2:=by rw[xi,sd]at*;omega
def Gt{d:World}{D:XN}:∀{b:List aj} {cs:List Value},bA gO d D b cs->∃a:List Nw,a.map (·.e)=b/\cs=a.flatMap encS/\∀P∈a,Row aJ 8 d D P.a P.n P.e.aK/\P.e.Ok
 |[],_,f=>⟨[],rfl,f,sM⟩
 |e::b,_,⟨r,s,g,⟨h,i,j,k,l,m⟩,n⟩=>by
  obtain⟨a,o,p,q⟩:=Gt n;refine⟨⟨e,h,i,j⟩::a,by simp[o],by rw[g,k,p];rfl,?_⟩;intro P c;rcases Q2.1 c with rfl|c
  ·exact⟨l,m⟩
  ·exact q P c
def vR{b:World}{D:XN}:∀{P:List Nw},(∀x∈P,Row aJ 8 b D x.a x.n x.e.aK/\x.e.Ok)->bA gO b D (P.map (·.e)) (P.flatMap encS)
 |[],_=>rfl
 |x::P,a=>⟨encS x,P.flatMap encS,rfl,⟨x.a,x.n,x.c,rfl,(a x (QV ..)).1,(a x (QV ..)).2⟩,vR λc d=>a c (QJ _ d)⟩
def pC{P:List Nw}(b:a<P.length*10):(P.flatMap encS)[a]? =(encS P[a/10]!)[a % 10]? :=by
 induction P generalizing a with
 |nil=>simp at b
 |cons e P f=>
  have g:(encS e).length=10:=rfl;rw[List.flatMap_cons]
  by_cases c:a<10
  ·rw[XW oM,Nat.div_eq_of_lt c,Nat.mod_eq_of_lt c];rfl
  ·rw[X8 oM,g,f (by simp at b;omega)]
   obtain⟨d,rfl⟩:∃d,a=d+10:=⟨a-10,oM⟩
   rw[Nat.add_sub_cancel,Nat.add_div_right _ dC,Nat.add_mod_right];simp
def fT(P:List Nw):(P.flatMap encS).length=P.length*10:=by
 induction P with
 |nil=>rfl
 |cons a P b=>rw[List.flatMap_cons,QX,b];have c:(encS a).length=10:=rfl;rw[c];simp;omega
def zH(P:List Nw):(flatK encS 10 P.toArray).toList=P.flatMap encS:=by
 apply X3;intro a
 by_cases b:a<P.length*10
 ·rw[pC b]
  have e:a<(flatK encS 10 P.toArray).size:=by simpa using b
  have c:=get_flatK encS 10 P.toArray a (by simpa using b);rw[getElem!_pos _ a e]at c;have f:(encS P[a/10]!).length=10:=rfl;have d:a % 10<(encS P[a/10]!).length:=by rw[f];omega
  rw[Qq (by simpa using b),Qq d]
  congr 1
  rw[Array.getElem_toList,c];rw[getElem!_pos _ _ (by simpa using d)]
  congr 1
  simp
 ·rw[Q7 (by simpa using b),Q7 (by rw[fT];omega)]
def zF(P:List aj):Prop:=P.Pairwise λa b=>dT b a=false
def Gp(m:aO gO 55 f b d a c K)(t:K.length<=20000000):
  ZG 149 #[.slice d a c,.func (.func 150) #[] #[]] b (Ok λM u=>M= .tuple #[]/\∃A,A.Perm K/\zF A/\aO gO 55 f u d a c A/\ak (λn=>aE d=some n) b u):=by
 obtain⟨cs,D,B,Z,N⟩:=m.body;obtain⟨e,C,rfl,a4⟩:=Gt Z;have E:=m.len dC;have v:e.length=a:=by rw[E,<-C];simp
 rcases B.cases with⟨rfl,rfl,rfl,h0⟩|⟨h,j,rfl,w,O,F,Q⟩
 ·have hd:e=[]:=QW v
  refine(AnyF.slices_SortFunc_none Tryz.PY none 0 _ b).mono ?_;rintro p u ⟨rfl,rfl⟩;exact Ok.mk ⟨rfl,K,List.Perm.refl _,by rw[<-C,hd];exact List.Pairwise.nil,m,ak.refl _⟩
 ·have R:gO.k=10:=rfl
  rw[R]at Q F;have a5:flatK encS 10 e.toArray=(e.flatMap encS).toArray:=by rw[<-zH]
  have hH:HoldsK encS 10 b h 0 e.toArray:=by
   intro k q;rw[size_flatK]at q;simp only[List.size_toArray]at q;have S:k<(e.flatMap encS).length:=by rw[fT];exact q
   refine⟨?_,by simp[World.frozen?,w]⟩;have l:(flatK encS 10 e.toArray)[k]! =(e.flatMap encS)[k]:=by
    rw[a5,getElem!_pos _ k (by simpa using S)];simp
   rw[l,Xz];refine ae w ?_;have i:(j.toList.take (a*10))[k]? =some (e.flatMap encS)[k]:=by rw[Q];exact Qq S
   rw[Xw,Zx oM]at i;simpa using i
  have t:=B.row;have H:c<=maxLen:=by
   obtain⟨_,a0,_,T,_,_,_,H,_⟩:=B.row.2.resolve_left (by rintro⟨m,_⟩;cases m);simp only[XX]at T;rw[T.2.2];exact H
  have a6:e.toArray.size<4611686018427387904:=by
   simp only[List.size_toArray,v];omega
  have U:=AnyQ.slices_SortFunc Tryz.PY 10 (λb=>cP _ _ _ kR ⟨_,Tryz.underlying55⟩ b) (λb=>Tryz.sizeOf55 b) encS (λ_=>rfl) Nx (λx V=>qw x.e V.e) Sr 150 #[] h 0 c e.toArray b
   (enters_of Tryz.func150 kR rfl) (λb0 r dk b1 x V=>(zG).mono ?_) hH (ay w) a6
  ·rw[show e.toArray.size=a by simpa using v]at U
   refine U.mono ?_;rintro p u ⟨rfl,g,y,r,hp,hs,rfl⟩;obtain⟨p1,p2,W⟩:=hp;have P:g.size=a:=p1.trans (by simpa using v);have X:g.toList.Perm e:=by
    have l:g.extract 0 a=g:=by rw[<-P];exact Array.extract_size
    have i:e.toArray.extract 0 a=e.toArray:=by rw[show a=e.toArray.size by simpa using v.symm];exact Array.extract_size
    rw[l,i]at W;exact W
   have a1:flatK encS 10 g=(g.toList.flatMap encS).toArray:=by rw[<-zH]
   have I:(sortWorldK encS 10 b h 0 y g r).heap[h]? =some (.cells (putCells id 0 (flatK encS 10 g) j) 55 (0,0)):=by
    have a7:=ay w;show((Sort.ahead b y).heap.modify h _++r)[h]? =_;rw[Array.getElem?_append_left (by simpa[Sort.ahead]using a7),Array.getElem?_modify,Zx rfl];show Option.map _ b.heap[h]? =_;rw[w];rfl
   have z:ak (λn=>aE (XM h)=some n) b (sortWorldK encS 10 b h 0 y g r):=by
    refine⟨rfl,rfl,rfl,?_,λa2 z E=>?_⟩
    ·show b.heap.size<=((Sort.ahead b y).heap.modify h _++r).size
     simp[Sort.ahead]
    ·show((Sort.ahead b y).heap.modify h _++r)[a2]? =_
     rw[Array.getElem?_append_left (by simpa[Sort.ahead]using z),Array.getElem?_modify,Zq (λp=>E (by rw[p];rfl))]
     rfl
   have a3:(putCells id 0 (flatK encS 10 g) j).size=c*10:=by unfold putCells;rw[Array.size_mapIdx];exact F
   refine Ok.mk ⟨rfl,g.toList.map (·.e),by rw[<-C];exact X.map _,?_,⟨⟨g.toList.flatMap encS,D,⟨⟨?_,.inr ⟨h,c,_,rfl,Qj _,I,O,H,a3,?_⟩⟩⟩,vR λx hx=>?_,N⟩,m.self,λn t=>Qk (m.aC n t) z.size⟩,z⟩
   ·unfold zF
    rw[List.pairwise_map,List.pairwise_iff_getElem];intro Y k hi q a8;have l:=hs Y k (Qj _) a8 (by simpa[P]using q);rw[xi,getElem!_pos _ k (by simpa using q),getElem!_pos _ Y (by simpa using hi)]at l;simpa using l
   ·rw[fT,XK,P];rfl
   ·apply X3
    intro s;rw[R,Xw];split
    ·rename_i o
     rw[pC (by rw[XK,P];exact o),<-pC (by rw[XK,P];exact o)];unfold putCells;have a9:s<j.size:=by rw[F];exact Qk o (Q0 _ O)
     rw[Array.getElem?_toList,Array.getElem?_mapIdx,X6 a9];simp only[Option.map_some];have J:s<(flatK encS 10 g).size:=by rw[size_flatK,P];exact o
     rw[Zx ⟨Qj _,by rw[Xz];exact J⟩,Nat.sub_zero,getElem!_pos _ s J];have:(flatK encS 10 g)[s]=(g.toList.flatMap encS)[s]'(by rw[fT,XK,P];exact o):=by
      have i:=Zj (·[s]?) a1;simp only[List.getElem?_toArray]at i;rw[X6 J,Qq (by rw[fT,XK,P];exact o)]at i;exact XJ i
     rw[this];exact(Qq _).symm
    ·rename_i o
     rw[Q7 (by rw[fT,XK,P];omega)]
   ·have L:x∈e:=X.mem_iff.1 hx
    obtain⟨l,i⟩:=a4 x L;exact⟨l.af z λn t p=>(N n t).2 p,i⟩
  ·rintro p u ⟨M,rfl,rfl,hG⟩
   exact⟨rfl,hG⟩
open Go.aw
abbrev Qc(P:List aj):Prop:=P.Pairwise λa b=>dT a b=true
structure ar.OK (S:ar):Prop where
 n:S.n<=64
 LL:Qc S.l
 ids:(S.l.map aI).Nodup
 Pw:∀e∈S.l,cC e S.n=0
 ok:∀e∈S.l,e.Ok
def Cc(a:aI l≠aI M):dT l M=true\/dT M l=true:=by
 rw[iq,iq];have:¬(l.origin=M.origin/\l.seq=M.seq):=λP=>a (by unfold aI;rw[P.1,P.2]);omega
def qX{P a b:aj}(c:dT P a=true)(d:dT a b=true):dT P b=true:=by rw[iq]at*;omega
def ll(P:dT l M=true):dT M l=false:=by rw[iq]at P;rw[sd];omega
def cO(a:aj):∀P,(cZ a P).Perm (a::P)
 |[]=>List.Perm.refl _
 |x::P=>by
  unfold cZ;split
  ·exact List.Perm.refl _
  ·exact(List.Perm.cons x (cO a P)).trans (List.Perm.swap a x P)
def ug{d:aj}:∀{a},Qc a->(∀x∈a,aI x≠aI d)->Qc (cZ d a)
 |[],_,_=>by unfold cZ;exact List.pairwise_singleton ..
 |x::a,e,f=>by
  obtain⟨g,h⟩:=List.pairwise_cons.1 e;unfold cZ;split
  ·rename_i c
   exact List.pairwise_cons.2 ⟨λb P=>by
    rcases Q2.1 P with rfl|P
    ·exact c
    ·exact qX c (g b P),e⟩
  ·rename_i c
   refine List.pairwise_cons.2 ⟨λb P=>?_,ug h λb P=>f b (QJ _ P)⟩;rcases Q2.1 ((cO d a).mem_iff.1 P)with rfl|P
   ·exact(Cc (f x (QV ..))).resolve_right (by simpa using c)
   ·exact g b P
def IH(g:zF K)(i:Qc e0)(c:K.Perm e0)(j:(K.map aI).Nodup):K=e0:=by
 refine c.eq_of_pairwise (le:=λa P=>dT P a=false) (λa P k l d e=>?_) g (i.imp λh=>ll h)
 by_cases f:aI a=aI P
 ·have b:P∈K:=c.mem_iff.2 l
  obtain⟨o,m,rfl⟩:=List.getElem_of_mem k;obtain⟨p,n,rfl⟩:=List.getElem_of_mem b;have:=(List.getElem_inj (xs:=K.map aI) (h₀:=by simpa using m) (h₁:=by simpa using n) j).1 (by simpa using f);subst this;rfl
 ·rcases Cc f with h|h
  ·rw[h]at e;cases e
  ·rw[h]at d;cases d
def Pn(a:(K.map aI).Nodup)(P:l∈K):K.find? (λb=>aI b==aI l)=some l:=by
 induction K with
 |nil=>cases P
 |cons b K c=>
  simp only[QY,List.nodup_cons]at a;rcases Q2.1 P with rfl|P
  ·simp
  ·have d:aI b≠aI l:=λe=>a.1 (e▸Xk.2 ⟨l,P,rfl⟩)
   rw[List.find?_cons_of_neg (by simpa using d)];exact c a.2 P
def ar.get_some(P:A.get d2=some l):l∈A.l/\aI l=d2:=
 ⟨List.mem_of_find?_eq_some P,by simpa using List.find?_some P⟩
def ar.get_none(a:A.get d2=none):∀P∈A.l,aI P≠d2:=λP b=>by
 have:=List.find?_eq_none.1 a P b;simpa using this
def ar.OK.get(P:A.OK){e:aj}(a:e∈A.l):A.get (aI e)=some e:=Pn P.ids a
def Gn(h:A.OK)(d:∀P∈h0,P.1=aI P.2)(e:(h0.map (·.2)).Perm A.l)(l:Tidy h0)(a:Int×Int):az h0 a=A.get a:=by
 cases b:az h0 a with
 |none=>
  rw[pK]at b
  symm
  refine List.find?_eq_none.2 λc i=>?_;obtain⟨P,f,rfl⟩:=Xk.1 (e.mem_iff.2 i);intro j;exact b (Xk.2 ⟨P,f,by rw[d P f];simpa using j⟩)
 |some c=>
  have g:=cx b;have k:a=aI c:=d _ g;have:c∈A.l:=e.mem_iff.1 (Xk.2 ⟨_,g,rfl⟩);rw[k,h.get this]
def vj(a:List aj)(P:Int):a.foldl (λP b=>max P b.ax) P=max P (a.foldl (λP b=>max P b.ax) 0)\/P<0:=by
 induction a generalizing P with
 |nil=>simp;omega
 |cons c a d=>
  rw[List.foldl_cons,List.foldl_cons]
  by_cases f:P<0
  ·exact .inr f
  ·rcases d (max P c.ax)with h|h
   ·rcases d (max 0 c.ax)with e|e
    ·left;rw[h,e];omega
    ·omega
   ·omega
def ar.Pk(P:ar)(a:aj):ar.top ⟨P.n,cZ a P.l⟩=max P.top a.ax:=by
 show(cZ a P.l).foldl _ _=_;rw[(cO a P.l).foldl_eq' (λb _ c _ d=>oM),List.foldl_cons];rcases vj P.l (max 0 a.ax)with h|h
 ·rw[h]
  show max (max 0 a.ax) P.top=_;have:0<=P.top:=by
   rcases vj P.l 0 with h|h
   ·unfold ar.top;omega
   ·omega
  omega
 ·omega
def ar.yC(P:ar):0<=P.top:=by
 rcases vj P.l 0 with h|h
 ·unfold ar.top;omega
 ·omega
def gZ(P:cC l a=0):0<=l.origin/\l.origin<a/\1<=l.seq/\1<=l.ax/\0<=l.agg/\0<=l.key/\l.aK.length=a/\(∀b∈l.aK,0<=b)/\l.aK.getD l.origin.toNat 0=lq (l.seq-1)/\1<=l.op/\l.op<=5/\0<=l.aT/\l.aT<8/\0<=l.field/\l.field<8:=by
 unfold cC at P;split at P
 ·simp at P
 ·rename_i c
  split at P
  ·simp at P
  ·rename_i d
   split at P
   ·simp at P
   ·rename_i h
    split at P
    ·simp at P
    ·rename_i i
     simp only[not_or,List.any_eq_true,Zk,not_exists,not_and]at c;obtain⟨j,k,m,b,n,e⟩:=c;refine⟨oM,oM,oM,oM,oM,oM,oM,λf g=>by have:=e f g;omega,by simpa using d,oM,oM,oM,oM,oM,oM⟩
def ar.Ci(P:ar)(a:aj)(b:Nat):ar.pU ⟨P.n,cZ a P.l⟩ b=P.pU b+if a.origin=(b:Int)then 1 else 0:=by
 unfold ar.pU;show(cZ a P.l).countP _=_;rw[(cO a P.l).countP_eq,List.countP_cons]
 congr 1
 simp
def ar.HG(P:ar)(a:Nat):P.pU a<=P.l.length:=List.countP_le_length
def ar.bJ(P:ar):P.vec.length=P.n:=by simp[ar.vec]
def ar.ke(P:ar)(b:a<P.n):P.vec[a]? =some (P.pU a:Int):=by simp[ar.vec,b]
def ar.gi(S:ar)(P:a<S.n):S.vec.getD a 0=(S.pU a:Int):=by rw[QQ,S.ke P];rfl
def ar.Pl(P:ar)(c:aj)(f:c.origin=(a:Int)):ar.vec ⟨P.n,cZ c P.l⟩=P.vec.set a (P.pU a+1:Int):=by
 apply X3;intro d
 by_cases b:d<P.n
 ·rw[ar.ke ⟨P.n,cZ c P.l⟩ b,ar.Ci,Xj,P.ke b,P.bJ]
  by_cases e:a=d
  ·subst e;simp[f,b]
  ·rw[Zq e,Zq oM];simp
 ·rw[Q7 (by rw[ar.bJ];exact Nat.le_of_not_lt b),Q7 (by rw[List.length_set,P.bJ];omega)]
def ar.add_def(P:ar)(a:aj):P.add a=if cC a P.n≠0 then(cC a P.n,P)else if(P.get (aI a)).isSome then(16,P)else
 if a.seq≠(P.vec.getD a.origin.toNat 0)+1 then(9,P)else if(List.range P.n).any λb=>!P.jo a b then(9,P)else(0,⟨P.n,cZ a P.l⟩):=rfl
def ar.xq(P:A.OK)(g:l.Ok):(A.add l).2.OK/\(A.add l).2.n=A.n:=by
 rw[ar.add_def]
 by_cases c:cC l A.n=0
 rotate_left
 ·rw[Zx c];exact⟨P,rfl⟩
 rw[Zq (by simpa using c)]
 by_cases d:(A.get (aI l)).isSome=true
 ·rw[Zx d];exact⟨P,rfl⟩
 rw[Zq d];split
 ·exact⟨P,rfl⟩
 split
 ·exact⟨P,rfl⟩
 have f:A.get (aI l)=none:=by simpa using d
 have e:=cO l A.l;refine⟨⟨P.n,ug P.LL (ar.get_none f),?_,?_,?_⟩,rfl⟩
 ·refine(e.map aI).nodup_iff.2 ?_
  rw[QY,List.nodup_cons];exact⟨λh=>by obtain⟨b,a,i⟩:=Xk.1 h;exact ar.get_none f b a i,P.ids⟩
 ·intro b a
  rcases Q2.1 (e.mem_iff.1 a)with rfl|a
  ·exact c
  ·exact P.Pw b a
 ·intro b a
  rcases Q2.1 (e.mem_iff.1 a)with rfl|a
  ·exact g
  ·exact P.ok b a
def ar.qU(P:a<=64):ar.OK ⟨a,[]⟩:=⟨P,List.Pairwise.nil,sM,sM,sM⟩
end Go.Proofs.YtblabbpipmodgaaGreatDoor
namespace Go.aw
open Go
def vf(P:List Int):List UInt8:=bI ((P.length:Int)::P)
def cR(P:List Int):List UInt8:=fG 2 (vf P)
def mN(P:List UInt8):List Int×kJ:=a_ (bV 64 ⟨P,0,0⟩).1.toNat (bV 64 ⟨P,0,0⟩).2
def jF(P:List UInt8):Option (List Int):=
 if(bj P).no≠0\/(bj P).n≠P.length\/(bj P).kind≠2 then none else if jz (mN (bj P).body).2≠0 then none else some (mN (bj P).body).1
def BC(P:List UInt8):(∀a∈(mN P).1,aP a)/\(mN P).1.length<=64/\(mN P).2.Fit:=by
 obtain⟨b,f,g,h⟩:=kJ.Fit.count (r:=⟨P,0,0⟩) ⟨Qj _,.inl rfl⟩ (m:=64) oM;obtain⟨c,d,e,i⟩:=b.ints (bV 64 ⟨P,0,0⟩).1.toNat;exact⟨d,by show(a_ _ _).1.length<=64;rw[e];omega,c⟩
variable{t:List Int}{w:List UInt8}
def KL(P:jF w=some t):(∀a∈t,aP a)/\t.length<=64:=by
 unfold jF at P;split at P
 ·cases P
 split at P
 ·cases P
 ·cases P
  exact⟨(BC _).1,(BC _).2.1⟩
def BB(b:∀P∈t,aP P)(c:t.length<=64):(vf t).length<=585:=by
 have:=eX (l:=(t.length:Int)::t) (by
  intro P a;rcases Q2.1 a with rfl|a
  ·unfold aP;omega
  ·exact b P a)
 unfold vf;rw[Xq]at this;omega
def yW(P:List Int):(cR P).length=(vf P).length+9:=jE _ _
end Go.aw
namespace Go.Proofs.YtblabbpipmodgaaGreatDoor
open Go.aw
def aR:ByteArray:=⟨#[109,97,110,105,102,101,115,116,46,116,109,112]⟩
def cQ:ByteArray:=⟨#[109,97,110,105,102,101,115,116]⟩
def dH(D:al):Int×al:=if(az D.files aR).isSome then D.delete aR else(0,D)
def mY(P:List Int):Nat->al->Int×al
 |0,D=>dH D
 |1,D=>D.create aR
 |2,D=>D.append aR (cR P)
 |3,D=>D.sync aR
 |_,D=>D.rename aR cQ
def mu(P:List Int):Nat->Nat->al->Int×al
 |_,0,D=>(0,D)
 |a,b+1,D=>if(mY P a D).1≠0 then((mY P a D).1,(dH (mY P a D).2).2)else mu P (a+1) b (mY P a D).2
def bH(D:al)(P:List Int):Int×al:=if 64<P.length then(3,D)else mu P 0 5 D
def fr(D:al):Option (List Int):=if(D.read cQ).2≠0 then none else jF (D.read cQ).1
def Fq(P:List ByteArray):(qC P).Perm P:=List.mergeSort_perm _ _
variable{v:ByteArray}{f6:List ByteArray}{t:List Int}{K e0:List aj}{a c i q:Nat}{a6 f:XN}{d r:ZH}{b:World}{M l:aj}
def KJ{D:al}:v∈D.list↔(az D.files v).isSome=true:=by
 unfold al.list;rw[(Fq _).mem_iff];constructor
 ·intro P
  cases a:az D.files v with
  |none=>exact Zz P (pK.1 a)
  |some b=>rfl
 ·intro P
  obtain⟨b,c⟩:=Option.isSome_iff_exists.1 P;exact Xk.2 ⟨_,cx c,rfl⟩
def tM(D:al):D.list.length=D.files.length:=by unfold al.list qC;simp
def KK(P:List Int)(d:a<5)(D:al):mu P a (5-a) D=if(mY P a D).1≠0 then((mY P a D).1,(dH (mY P a D).2).2)else mu P (a+1) (5-(a+1)) (mY P a D).2:=by
 obtain⟨b,c⟩:∃b,5-a=b+1:=⟨4-a,oM⟩
 rw[c,show 5-(a+1)=b by omega]
 rfl
def Df{D:XN}(e:Row Md 16 b D d a f6):
  ZG 303 #[.slice d a c,.string v] b (Ok λo f=>(∃l:Int,o= XH l/\(0<=l↔v∈f6))/\b=f):=by
 have u:=e.len;have p:=e.dE;unfold aN at p;refine iJ ⟨λm i f=>∃P:Nat,i=P/\P<=a/\m=a-P/\v∉f6.take P/\b=f,⟨_,0,rfl,Qj _,rfl,sM,rfl⟩,?_⟩;rintro m i _ _ ⟨P,rfl,w,rfl,g,rfl⟩;refine an.dec (λq=>?_) (λq=>?_)
 ·obtain⟨r,j,x,rfl,n,_,s⟩:=e.lb (i:=P) oM
  refine⟨r,j,rfl,oM,oM,_,s,an.TW (λk=>?_) (λk=>?_)⟩
  ·exact Ok.mk ⟨⟨_,rfl,λ_=>k▸QZ n,λ_=>oM⟩,rfl⟩
  ·refine⟨_,oM,P+1,aq oM,oM,rfl,?_,rfl⟩
   rw[Qw,n];intro t;rcases Q6.1 t with h|h
   ·exact g h
   ·simp at h;exact k h
 ·rw[Qz oM]at g
  exact Ok.mk ⟨⟨_,rfl,λh=>oM,λh=>Zz h g⟩,rfl⟩
def wR{D:XN}(P:Row Md 16 b D d a f6):
  ZG 259 #[.slice d a c,.string v] b (Ok λe f=>e= .bool (decide (v∈f6))/\b=f):=by
 refine gN (PC.ok (Df P) ?_);rintro _ _ ⟨⟨h,rfl,g⟩,rfl⟩;exact⟨_,rfl,Ok.mk ⟨by rw[decide_eq_decide.2 g],rfl⟩⟩
def o_{D:al}(P:aS b a f D):ZG 191 #[XL a] b (Ok (sZ b a f (dH D))):=by
 refine uG (PC.ok (Bg P) ?_);rintro _ m ⟨n,o,p,G,rfl,h,c,q⟩;have r:D.list.length<=64:=by rw[tM];exact P.ok.many
 refine⟨_,_,_,rfl,PC.ok (wR (h.row dC ba)) ?_⟩;rintro _ _ ⟨rfl,rfl⟩;have g:(aR∈D.list)↔(az D.files aR).isSome=true:=KJ;refine⟨_,rfl,an.dec (λd=>PC.ok (vx (P.ah c)) λi j k=>jZ i j c ?_) (λd=>?_)⟩
 ·have e:dH D=D.delete aR:=by unfold dH;rw[Zx (g.1 d)]
  rw[e];exact k
 ·have e:dH D=(0,D):=by unfold dH;rw[Zq λl=>d (g.2 l)]
  rw[e];exact Ok.mk (sZ.same (P.ah c) c.af)
def yU(C:qu b)(u:Row aJ 8 b f d a t)(v:∀j∈t,aP j)(hD:∀e,f e->e<b.heap.size)(E:t.length<=64):
  ZG 195 #[.agg #[.slice d a c]] b (Ok (nX fF 5 b (cR t))):=by
 have F:=u.len;refine uH (PA.mk λH I s1 w=>⟨_,_,_,ae w rfl,PC.ok (yq (m:=(a:Int)) bb (Row.nil H λ_=>False) ba λ_ J=>J.elim) ?_⟩);rintro _ L ⟨a2,n2,c2,M,rfl,x,y,N⟩;have O:ai b L:=I.then y;have Q:my (a:Int)=bI ((a:Int)::t.take 0):=by simp[bI]
 rw[List.nil_append,Q]at x;refine⟨_,_,_,rfl,_,_,_,ae (y.get w id) rfl,λz m n o i A=>∃P:Nat,i=P/\P<=a/\z=a-P/\∃B,aO fF 5 B A m n o (bI ((a:Int)::t.take P))/\ai b A/\∀e,B e->b.heap.size<=e,
  ⟨_,0,rfl,Qj _,rfl,M,x,O,λe k=>by have:=N e k;omega⟩,?_⟩
 rintro z m n o i _ R ⟨P,rfl,hj,rfl,S,g,h,a0⟩;have a1:(bI ((a:Int)::t.take P)).length<=9*(P+1):=by
  have h1:=eX (l:=(a:Int)::t.take P) (by
   intro j K;rcases Q2.1 K with rfl|K
   ·unfold aP;omega
   ·exact v j (List.mem_of_mem_take K))
  have h2:((a:Int)::t.take P).length=P+1:=by simp;omega
  omega
 have a3:=g.len dC;refine an.dec (λa5=>?_) (λa6=>?_)
 ·obtain⟨e,p,j,rfl,K,T,U⟩:=(u.ah h).lb (i:=P) oM
  refine⟨e,p,rfl,oM,oM,_,U,PC.ok (yq T (g.row (bytes:=1) dC ba) ba g.aC) ?_⟩;rintro _ V ⟨W,X,Y,q,rfl,l,r,s⟩;refine⟨_,_,_,rfl,_,?_,P+1,aq oM,oM,rfl,q,?_,h.then r,λe k=>by have:=s e k;have:=h.size;omega⟩
  ·omega
  ·have Z:bI ((a:Int)::t.take (P+1))=bI ((a:Int)::t.take P)++my j:=by
    rw[Qw,K,<-List.cons_append,gu]
    congr 1
    simp[bI]
   rw[Z];exact l
 ·obtain rfl:P=a:=oM
  rw[Qz oM,F]at g
  change aO fF 5 S R m n o (vf t)at g
  have a7:=BB v E;refine PC.ok (Bk (C.ah h) (g.row (bytes:=1) dC ba) g.aC) ?_;rintro _ V ⟨_,rfl,W,X,Y,q,rfl,l,r,s⟩;rw[show iU 2 (vf t)=(cR t,0) by unfold iU cR;rw[Zq dC,Zq oM]]at l⊢;exact⟨_,_,_,_,rfl,Ok.mk ⟨_,_,_,q,rfl,l,h.then r,λe k=>by have:=s e k;have:=h.size;omega⟩⟩
def yV{D:al}(ht:qu b)(hD:aS b a f D)(hl:Row aJ 8 b a6 d c t)(a8:∀b8∈t,aP b8)(a3:∀P,a6 P->P<b.heap.size/\¬f P)(a9:∀P,f P->P≠2/\P≠3):
  ZG 139 #[XL a,.agg #[.slice d c i]] b (Ok (sZ b a f (bH D t))):=by
 have hn:=hl.len;refine uk (PA.mk λw1 k1 s1 g1=>PA.mk λk U s2 g2=>PA.mk λw3 H s3 g3=>⟨_,_,_,ae (H.get g2 id) rfl,an.dec (λh=>?_) (λh=>?_)⟩)
 ·refine PS.mk g3 sM λp B s4 g4=>⟨_,ae g4 rfl,?_⟩
  have l:bH D t=(3,D):=by unfold bH;rw[Zx oM]
  rw[l];have y:ai b p:=((k1.then U).then H).new B λP e=>.inr oM;exact Ok.mk (sZ.same (hD.ah y) y.af)
 refine PA.mk λp B s4 g4=>?_;have y:ai b p:=((k1.then U).then H).then B;have l:bH D t=mu t 0 5 D:=by unfold bH;rw[Zq oM]
 rw[l];have I:=hD.aC;refine⟨λa2 M m=>∃(u:Nat) (J:al) (v:XN),M=u/\u<=5/\a2=5-u/\mu t 0 5 D=mu t u (5-u) J/\aS m a v J/\ak (λP=>f P\/P=k.heap.size) p m/\(∀P,v P->f P\/p.heap.size<=P)/\m.heap[k.heap.size]? =some (.cells #[XH 0] 34 (0,0)),
  ⟨_,0,D,f,rfl,oM,rfl,rfl,hD.ah y,ak.refl _,λP e=>.inl e,B.get g3 id⟩,?_⟩
 rintro a2 M _ x ⟨u,J,v,rfl,hi,rfl,N,C,E,V,ge⟩;have W:∀P,b.heap.size<=P->P<p.heap.size->¬v P:=λP h1 h2 hf=>by
  rcases V P hf with h|h
  ·have:=I P h;omega
  ·omega
 have O:x.heap[b.heap.size]? =some (.cells #[XL a] 87 (0,0)):=E.get (B.get (H.get (U.get g1 id) id) id) (λq=>q.elim (λh=>by have:=I _ h;omega) (λh=>oM));have gm:x.heap[w1.heap.size]? =some (.cells #[.slice d c i] 230 (0,0)):=E.get (B.get (H.get g2 id) id) (λq=>q.elim (λh=>by have:=I _ h;omega) (λh=>oM));have Q:=E.get g4 (λq=>q.elim (λh=>by have:=I _ h;omega) (λh=>oM));have c6:=E.size;have w:∀(l:Int) (R:al) (G:XN) (j:World),aS j a G R->ak (λP=>f P\/P=k.heap.size) p j->(∀P,G P->f P\/p.heap.size<=P)->j.heap[k.heap.size]? =some (.cells #[XH l] 34 (0,0))->
   mu t 0 5 D=(l,if l≠0 then(dH R).2 else R)->
   Lv XP (λb0=>∃A:Int,b0.cell? ⟨k.heap.size,0,none⟩=some (XH A)/\Ok (sZ b a f (mu t 0 5 D)) (.returned (XH A)) b0) (λch m=>Ok (sZ b a f (mu t 0 5 D)) (.panicked ch) m)
    ([{target:=.fn (.func 190) #[XL k.heap.size,XL b.heap.size],args:= #[]}]:List Deferred) .returning j:=by
  intro l R G j hE r hG X hr;have b9:j.heap[b.heap.size]? =some (.cells #[XL a] 87 (0,0)):=r.get (B.get (H.get (U.get g1 id) id) id) (λq=>q.elim (λh=>by have:=I _ h;omega) (λh=>oM));have n:∀o (K:XN) (E':al),aS o a K E'->du G j K o->mu t 0 5 D=(l,E')->∃A:Int,o.cell? ⟨k.heap.size,0,none⟩=some (XH A)/\Ok (sZ b a f (mu t 0 5 D)) (.returned (XH A)) o:=by
   intro o K E' a4 s a0;have c0:¬G k.heap.size:=λh=>(hG _ h).elim (λh=>by have:=I _ h;omega) (λh=>oM);have c7:=r.size;refine⟨l,ae (s.af.get X c0) rfl,Ok.mk ?_⟩;rw[a0];refine⟨K,rfl,a4,?_,λP e=>?_⟩
   ·have c1:ak f b j:=y.af.new r λP e=>e.imp id λh=>by omega
    exact c1.new s.af λP e=>(hG P e).imp id λh=>by omega
   ·rcases s.new P e with h|h
    ·exact(hG P h).imp id λh=>by omega
    ·exact .inr oM
  refine Lv.one sM kR (CallsD.mono (pX (R:=λe' o=>e'= .returned (.tuple #[])/\∃A:Int,o.cell? ⟨k.heap.size,0,none⟩=some (XH A)/\Ok (sZ b a f (mu t 0 5 D)) (.returned (XH A)) o) ⟨_,ae X rfl,an.dR (λY=>?_) (λZ=>?_)⟩) ?_)
  ·refine⟨_,ae b9 rfl,PC.ok (o_ hE) ?_⟩
   rintro _ o ⟨K,rfl,a4,s⟩;exact⟨_,rfl,rfl,n o K _ a4 s (by rw[hr,Zx Y])⟩
  ·exact⟨rfl,n j G R hE (du.refl _ _) (by rw[hr,Zq (by simpa using Z)])⟩
  ·rintro e' u' o ⟨rfl,rfl,hX⟩
   exact Lv.ret rfl hX
 refine an.dec (λc8=>?_) (λc9=>?_)
 ·have b1:u<5:=oM
  have step:∀κ ε,(∀z m,sZ x a v (mY t u J) z m->κ z m)->∃b2:Value,x.cell? ⟨w3.heap.size,0+Int.toNat (u:Int),none⟩=some b2/\∃a5 a7 b3,b2= .func (.func a5) a7 b3/\enters XP a5=true/\PC XP a5 (a7++ #[]++b3) x κ ε:=by
   intro κ ε g;rw[Qx,Xz];have n:∀{b4:Int×al} {z m},sZ x a v b4 z m->∃M:Int,z= XH M/\Ok (sZ x a v b4) (.returned (XH M)) m:=λh=>jZ _ _ (ak.refl _) h
   match u,b1,g with
   |0,_,g=>exact⟨_,ae Q rfl,_,_,_,rfl,kR,PC.ok (rp ⟨_,ae O rfl,PC.ok (o_ C) λz m h=>n h⟩) g⟩
   |1,_,g=>exact⟨_,ae Q rfl,_,_,_,rfl,kR,PC.ok (rq ⟨_,ae O rfl,PC.ok (vy C) λz m h=>n h⟩) g⟩
   |2,_,g=>
    refine⟨_,ae Q rfl,_,_,_,rfl,kR,PC.ok (φ:=sZ x a v (mY t 2 J)) (rr λj d6=>?_) g⟩;have r:ai x j:=d6.af;have F:ak (λP=>f P\/P=k.heap.size) p j:=E.then r.af;have c2:Row aJ 8 j a6 d c t:=(hl.ah y).af F λP e q=>q.elim (a3 P e).2 λh=>by have:=(a3 P e).1;omega
    have c3:qu j:=by
     have:=(ht.ah y)
     have d0:b.heap.size<=p.heap.size:=y.size;have h1:=ht.lt;have hz:=F.size;refine⟨λS hj=>?_,λS hj=>?_,oM⟩
     ·exact(this.lower S hj)▸F.cell (a:=⟨2,S,none⟩) (by show 2<_;omega) (λq=>q.elim (λh=>(a9 _ h).1 rfl) (λh=>by have h:2=k.heap.size:=h;omega))
     ·exact(this.upper S hj)▸F.cell (a:=⟨3,S,none⟩) (by show 3<_;omega) (λq=>q.elim (λh=>(a9 _ h).2 rfl) (λh=>by have h:3=k.heap.size:=h;omega))
    refine⟨v,W _ (Q4 _) oM,_,ae (r.get O id) rfl,_,_,_,ae (r.get gm id) rfl,PC.ok (yU c3 c2 a8 (λP e=>by have:=(a3 P e).1;have:=y.size;have:=F.size;omega) oM) ?_⟩;rintro _ o ⟨d1,n7,d2,F7,rfl,a1,L,c4⟩;have d3:=yW t;have d4:=BB a8 oM;refine⟨_,_,_,rfl,L.af,PC.ok (vz ((C.ah r).ah L) (a1.row dC ba) (λl=>a1.OQ l) λP e=>⟨a1.aC P e,λhf=>by have:=C.aC P hf;have:=c4 P e;have:=r.size;omega⟩) ?_⟩;rintro _ w8 ⟨F8,rfl,c5,s⟩;exact⟨_,rfl,s.af,Ok.mk ⟨F8,rfl,c5,(du.mk (ai.af (r.then L)) λ_ h=>.inl h:du v x v o).trans s⟩⟩
   |3,_,g=>exact⟨_,ae Q rfl,_,_,_,rfl,kR,PC.ok (ru ⟨_,ae O rfl,PC.ok (Be C) λz m h=>n h⟩) g⟩
   |4,_,g=>exact⟨_,ae Q rfl,_,_,_,rfl,kR,PC.ok (ry ⟨_,ae O rfl,PC.ok (EI C) λz m h=>n h⟩) g⟩
  refine⟨_,_,rfl,oM,oM,step _ _ ?_⟩;rintro _ j ⟨F6,rfl,h6,s⟩;have b5:∀P,F6 P->P≠k.heap.size:=λP e l=>by
   subst l;rcases s.new _ e with h|h
   ·exact W _ oM oM h
   ·omega
  have b6:∀P,F6 P->f P\/p.heap.size<=P:=λP e=>by
   rcases s.new P e with h|h
   ·exact V P h
   ·exact .inr oM
  have F:ak (λP=>f P\/P=k.heap.size) p j:=E.new s.af λP e=>(V P e).imp .inl id;refine⟨_,rfl,PS.mk (s.af.get ge (W _ oM oM)) sM λo L s7 T=>?_⟩;have h7:=h6.af L λP e=>b5 P e;have b7:ak (λP=>f P\/P=k.heap.size) p o:=F.then (L.mono λP _ e=>.inr e);rw[KK t b1]at N;refine⟨_,ae T rfl,an.dR (λY=>?_) (λZ=>?_)⟩
  ·refine⟨_,ae T rfl,PS.mk T sM λw8 k8 s8 g8=>?_⟩
   exact w _ _ F6 w8 (h7.af k8 λP e=>b5 P e) (b7.then (k8.mono λP _ e=>.inr e)) b6 g8 (by rw[N,Zx Y,Zx Y])
  ·rw[Zq (by simpa using Z)]at N
   rw[Z]at T;exact⟨rfl,_,oM,u+1,_,F6,aq oM,oM,rfl,N,h7,b7,b6,T⟩
 ·obtain rfl:u=5:=oM
  refine⟨_,ae ge rfl,PS.mk ge sM λj r s6 X=>?_⟩;refine w 0 J v j (C.af r λP e l=>W P oM oM e) (E.then (r.mono λP _ e=>.inr e)) V X ?_;rw[N];rfl
def AK{D:al}(ht:qu b)(hD:aS b a f D):
  ZG 136 #[XL a] b (Ok λQ i=>∃n o p G,Q= .tuple #[.agg #[.slice n o p],.bool (fr D).isSome]/\aO aJ 3 G i n o p ((fr D).getD [])/\ai b i/\∀P,G P->b.heap.size<=P):=by
 refine wv (PA.mk λA C s1 g1=>PC.ok (uU (hD.ah C)) ?_);rintro _ w2 ⟨_,rfl,a7,n2,c2,F2,rfl,u,R,e7⟩
 change aO fF 5 F2 w2 a7 n2 c2 (D.read cQ).1 at u
 have b3:(D.read cQ).1.length<=262144:=by
  unfold al.read;split
  ·simp
  ·split
   ·simp
   ·rename_i e8 hf;exact hD.ok.len (cx hf)
 have a3:∀{i},ai A i->i.heap[b.heap.size]? =some (.cells #[.slice none 0 0] 230 (0,0)):=λhk=>hk.get g1 id;have e:fr D=none->∀v,ai A v->PS v ⟨b.heap.size,0,none⟩ (.slice none 0 0) λw=>∃(b4:ZH) (b5:Nat) (b6:Nat),w.cell? ⟨b.heap.size,0,none⟩=some (.slice b4 b5 b6)/\
   Ok (λQ i=>∃n o p G,Q= .tuple #[.agg #[.slice n o p],.bool (fr D).isSome]/\aO aJ 3 G i n o p ((fr D).getD [])/\ai b i/\∀P,G P->b.heap.size<=P) (.returned (.tuple #[.agg #[.slice b4 b5 b6],.bool false])) w:=by
  intro S v E;refine PS.mk (a3 E) sM λw4 T s4 U=>⟨_,_,_,ae U rfl,?_⟩
  rw[S];exact Ok.mk ⟨none,0,0,λ_=>False,rfl,aO.nil w4,(C.then E).new T λP c=>.inr oM,λ_ h=>h.elim⟩
 refine⟨_,_,_,_,rfl,an.dR (λl=>e (by unfold fr;exact Zx l) w2 R) (λS=>?_)⟩;have B:fr D=jF (D.read cQ).1:=by unfold fr;exact Zq λh=>h S
 generalize(D.read cQ).1=F at u b3 B;have d5:=u.len dC;refine PC.ok (Bl (ht.ah (C.then R)) (u.row (bytes:=1) dC ba) u.iG u.aC) ?_;rintro _ v ⟨c3,n3,d1,F3,rfl,b7,E,e9⟩;refine⟨_,_,_,_,_,_,rfl,PA.mk λw4 T s4 U=>PS.mk U sM λw5 k5 s5 g5=>PS.mk g5 sM λx k6 s6 g6=>?_⟩;have V:x.heap[v.heap.size]? =some (.cells #[XH (bj F).kind,.slice c3 n3 d1] 292 (0,0)):=g6;have W:ai v x:=(T.new k5 λP c=>.inr oM).new k6 λP c=>.inr oM;have s:ai A x:=(R.then E).then W;have f0:=W.size;refine an.dR (λl=>e (by rw[B];unfold jF;exact Zx (.inl l)) x s) (λb8=>?_);refine an.dR (λl=>e (by rw[B];unfold jF;exact Zx (.inr (.inl λg=>l (by rw[g,d5])))) x s) (λg0=>?_);refine⟨_,ae V rfl,an.dR (λl=>e (by rw[B];unfold jF;exact Zx (.inr (.inr l))) x s) (λd6=>?_)⟩;have X:fr D=if jz (mN (bj F).body).2≠0 then none else some (mN (bj F).body).1:=by
  rw[B];unfold jF;refine Zq ?_;rintro(h|h|h)
  ·exact h b8
  ·exact h oM
  ·exact h d6
 have Y:=b7.ah W;obtain⟨g2,h9,d7⟩:=tl b8;generalize(bj F).body=d at Y X d7 V b7;refine⟨_,_,_,ae V rfl,PC.ok (Bh (Y.row (bytes:=1) dC ba) Y.aC) ?_⟩;rintro _ w ⟨H,a4,rfl,I,k7,hP⟩;refine⟨_,rfl,PA.mk λw8 k8 s8 g8=>PC.ok (EJ (m:=64) (I.ah k8)) ?_⟩;rintro _ t ⟨rfl,Z,k9⟩;have b9:=I.aC;have hq:=I.self;have g3:=b9 H hq;have g7:=hP H hq;obtain⟨c1,a8,c0,c4⟩:=kJ.Fit.count (r:=⟨d,0,0⟩) ⟨Qj _,.inl rfl⟩ (m:=64) oM;have g9:t.heap[w.heap.size]? =some (.cells #[.slice none 0 0] 230 (0,0)):=k9.get g8 (λg=>oM);have J:mN d=a_ (bV 64 ⟨d,0,0⟩).1.toNat (bV 64 ⟨d,0,0⟩).2:=rfl;have K:ai A t:=((s.then k7).then k8).new k9 λP c=>.inr (by have:=s.size;omega);generalize h2:bV 64 ⟨d,0,0⟩=ct at Z c1 a8 c0 c4 J;obtain⟨cn,L⟩:=ct;simp only at Z c1 a8 c0 c4 J;refine⟨_,rfl,λm a5 i=>∃j:Nat,a5=j/\(j:Int)<=cn/\m=cn.toNat-j/\eG i H a4 (a_ j L).2/\ai A i/\∃n o p G,i.heap[w.heap.size]? =some (.cells #[.slice n o p] 230 (0,0))/\aO aJ 3 G i n o p (a_ j L).1/\(∀P,G P->t.heap.size<=P)/\t.heap.size<=i.heap.size,
  ⟨_,0,rfl,a8,rfl,Z,K,none,0,0,λ_=>False,g9,aO.nil t,λ_ h=>h.elim,Q4 _⟩,?_⟩
 have h3:=k9.size;rintro m a5 _ c5 ⟨j,rfl,hj,rfl,a0,M,c6,c7,c8,c9,a9,y,q,f2⟩;have d8:∀P,a4 P->P<t.heap.size:=λP c=>by have:=b9 P c;omega
 refine an.dec (λh4=>?_) (λh5=>?_)
 ·intro N b0
  have k:ai c5 N:=b0.af;refine⟨(λP=>P=H\/c9 P),λhs=>hs.elim (λg=>oM) (λg=>by have:=q _ g;omega),_,_,_,ae (k.get a9 id) rfl,PC.ok (CC (a0.ah k)) ?_⟩;rintro _ d0 ⟨rfl,d2,r⟩;obtain⟨f1,f4,f3,f5⟩:=c1.ints j;obtain⟨f7,f6,f8⟩:=f1.int;refine⟨_,rfl,r.mono λP _ c=>.inl c,?_⟩;have a1:=(y.ah k).af r λP c g=>by have:=q P c;omega
  refine PA.mk λh6 z h7 d9=>⟨z.af,?_⟩
  have d4:=a1.ah z;have d3:(a_ j L).1.length=j:=f3;refine jx d4 qA (D:=(·=d0.heap.size)) (Row.lit d9 [(eY (a_ j L).2).1] rfl (λf9 hx=>by simp at hx;subst hx;exact f6) (by unfold aN;simp)) (λP g=>⟨oM,λe2=>by have:=a1.aC P (a1.self P e2);omega⟩) (by rw[d3];unfold aN;simp;omega) (by rw[d3];unfold maxLen;simp;omega) λb1 e0 e1 h8 a2 O _ e3=>?_
  replace a2:=a2.alone
  have e4:e1.heap[w.heap.size]? =some (.cells #[.slice c6 c7 c8] 230 (0,0)):=O.get (z.get (r.get (k.get a9 id) (λg=>oM)) id) (λg=>by have:=q _ (y.self _ g);omega);have z1:=k.size;have z2:=r.size;have z3:=z.size;have z4:=O.size;have a6:∀P,aE b1=some P->t.heap.size<=P:=λP c=>by
   rcases e3 P c with h|h
   ·exact q P h
   ·omega
  refine⟨_,_,_,rfl,PS.mk e4 sM λi0 b2 i1 e5=>⟨_,oM,j+1,aq oM,oM,rfl,?_,?_,b1,_,e0,(λP=>aE b1=some P),e5,?_,a6,oM⟩⟩
  ·refine(((d2.ah z).af O λP c g=>by have:=d8 P c;have:=q P (y.self P g);omega)).af b2 λP c g=>by have:=I.aC P c;omega
  ·refine((((M.then k).new r λP c=>.inr (by have:=s.size;omega)).then z).new O λP c=>.inr (by have:=q P (y.self P c);have:=K.size;omega)).new b2 λP c=>.inr (by have:=(s.then k7).size;omega)
  ·exact a2.af b2 λP c g=>by have:=a6 P c;omega
 ·obtain rfl:cn=(j:Int):=oM
  rw[Qx]at J;rw[<-J]at a0 y;refine PC.ok (Ja a0) ?_;rintro _ N ⟨rfl,b0⟩;have k:ai c5 N:=b0.af;refine⟨_,rfl,an.dR (λl=>e (by rw[X];exact Zx l) N (M.then k)) (λh0=>?_)⟩;have hS:fr D=some (mN d).1:=by rw[X];exact Zq λh=>h h0
  rw[hS];refine⟨_,_,_,ae (k.get a9 id) rfl,PS.mk (a3 (M.then k)) sM λd0 r i2 e6=>⟨_,_,_,ae e6 rfl,Ok.mk ⟨c6,c7,c8,c9,rfl,?_,?_,?_⟩⟩⟩
  ·exact(y.ah k).af r λP c g=>by have:=q P c;have:=K.size;omega
  ·exact(C.then (M.then k)).new r λP c=>.inr oM
  ·intro P c;have:=q P c;have:=K.size;omega
def HI{x y:Operand}{a b c d:Int}{w:World}:(do eqGuard .eql 39 x y (.agg #[XH a,XH b]) (.agg #[XH c,XH d]);binOp .eql 39 (.agg #[XH a,XH b]) (.agg #[XH c,XH d]):Sem Value).run XP w= .ok (.bool (a==c&&b==d)) w:=by
 have g:Tryz.prog.underlying 39=some (.struct (Tryz.prog.fieldsOf 39)):=kR
 have f:Tryz.prog.underlying 3=some (.int .i64):=kR
 have P:(Tryz.prog.fieldsOf 39).toList.map (λe=>(e.name,e.type,e.offset))=[("Origin",3,0),("Seq",3,1)]:=kR
 rw[Sem.run_bind,run_eqGuard_agg w .eql _ x y _ _ kR,Result.andThen_ok,run_eql_struct,run_equalIn_struct w 9999 _ _ _ g kR];generalize(Tryz.prog.fieldsOf 39).toList=h at P
 match h,P with
 |[e,t],P=>
  simp only[QY,List.map_nil,List.cons.injEq,Prod.mk.injEq,and_true]at P;obtain⟨⟨i,j,k⟩,l,m,n⟩:=P;have o:(isAgg 3).run XP w= .ok false w:=cP _ _ _ kR ⟨_,f⟩ w;have p:=run_equalIn_int (P:=XP) w 9998 3 .i64 .i64 a c f;have q:=run_equalIn_int (P:=XP) w 9998 3 .i64 .i64 b d f;unfold Op.eqFields Op.eqFields Op.eqFields;rw[i,j,k,l,m,n]
  cases r:a==c<;>simp[part,o,p,q,r]
  by_cases s:b=d<;>simp[s]
 |[],P=>simp at P
 |[_],P=>simp at P
 |_::_::_::_,P=>simp at P
def kM{c k s t:Nat}{xs ys:List Int}{D u:XN}(e:Row aJ 8 b D d c xs)(l:Row aJ 8 b u r k ys):
  ZG 22 #[.slice d c s,.slice r k t] b (Ok λv f=>v= .bool (decide (xs=ys))/\bG b f):=by
 have w:=e.len;have x:=l.len;have y:=e.dE;unfold aN at y;refine xJ (an.dR (λm=>?_) (λm=>?_))
 ·have g:xs≠ys:=by rintro rfl;simp[w,x]at m
  exact Ok.mk ⟨by simp[g],bG.refl b⟩
 ·refine⟨λn i f=>∃P:Nat,i=P/\P<=c/\n=c-P/\xs.take P=ys.take P/\bG b f,⟨_,0,rfl,Qj _,rfl,rfl,bG.refl b⟩,?_⟩
  rintro n i _ K ⟨P,rfl,L,rfl,o,a⟩;refine an.dec (λz=>?_) (λz=>?_)
  ·obtain⟨A,B,M,rfl,p,_,C⟩:=(e.ah a.af).lb (i:=P) oM
   obtain⟨E,F,N,rfl,h,_,H⟩:=(l.ah a.af).lb (i:=P) oM;refine⟨A,B,rfl,oM,oM,_,C,E,F,rfl,oM,oM,_,H,λO q=>?_⟩;refine an.dR (λj=>?_) (λj=>?_)
   ·have g:xs≠ys:=by rintro rfl;rw[p]at h;cases h;exact j rfl
    exact Ok.mk ⟨by simp[g],a.then q⟩
   ·subst j
    exact⟨_,oM,P+1,aq oM,oM,rfl,Bn o p h,a.then q⟩
  ·have:xs=ys:=by
    have I:xs.take P=xs:=Qz oM;have J:ys.take P=ys:=Qz oM;rw[<-I,<-J,o]
   exact Ok.mk ⟨by simp[this],a⟩
def AG{D:XN}(k:Row aJ 8 b D d a t):
  ZG 94 #[.slice d a c] b (Ok (nX aJ 3 b t)):=by
 have F:=k.len;have u:=k.dE;unfold aN at u;refine xP ⟨λo p P q i r=>i=(P:Int)/\P<=a/\o=a-P/\∃f,aO aJ 3 f r p P q (t.take P)/\ai b r/\∀e,f e->b.heap.size<=e,
  ⟨_,rfl,Qj _,rfl,λ_=>False,by simpa using aO.nil b,ak.refl _,λ_ h=>h.elim⟩,?_⟩
 rintro o p P q i _ H ⟨rfl,I,rfl,f,g,j,l⟩;refine an.dec (λv=>?_) (λv=>?_)
 ·obtain⟨e,m,x,rfl,w,y,z⟩:=(k.ah j).lb (i:=P) oM
  have s:(t.take P).length=P:=by simp;omega
  refine⟨e,m,rfl,oM,oM,_,z,DQ g qA (x:=x) (D:=λ_=>False) ⟨rfl,y⟩ (λ_ h=>h.elim) (by rw[s];unfold aN;omega) (by rw[s];unfold maxLen;omega) λJ K L A B C E _=>?_⟩;refine⟨_,_,_,rfl,a-(P+1),oM,aq oM,oM,rfl,A,?_,j.new C λe n=>.inr (l e (g.self e n)),?_⟩
  ·rw[Qw,w];exact B
  ·intro e n
   rcases E e n with h|h|h
   ·exact l e h
   ·exact h.elim
   ·exact Xx j.size h
 ·obtain rfl:P=a:=oM
  rw[Qz oM]at g;exact Ok.mk ⟨_,_,_,f,rfl,g,j,l⟩
def qE{D y:XN}(z:Row aJ 8 b D d a l.aK)(A:Row aJ 8 b y r c M.aK):
  ZG 51 #[.agg (aB l d a i).toArray,.agg (aB M r c q).toArray] b (Ok λn h=>n= .bool (decide (l=M))/\ai b h):=by
 have no:∀{h},ai b h->l≠M->Ok (λn h=>n= .bool (decide (l=M))/\ai b h) (.returned (.bool false)) h:=λB C=>Ok.mk ⟨by rw[Xv C],B⟩;refine wj (PA.mk λI E J F=>PA.mk λs t K k=>?_);have e:=t.get F id;have m:ai b s:=E.then t;refine⟨_,_,ae e rfl,ae e rfl,_,_,ae k rfl,ae k rfl,aD.mk HI ⟨_,rfl,an.mk (λo=>?_) (λo=>?_)⟩⟩
 rotate_left
 ·exact no m λP=>by subst P;simp at o
 refine⟨_,ae e rfl,_,ae k rfl,an.eB (λu=>?_) (λu=>no m λP=>u (by rw[P]))⟩;refine⟨_,_,_,ae e rfl,_,_,_,ae k rfl,PC.ok (kM (z.ah m) (A.ah m)) ?_⟩;rintro _ v ⟨rfl,H⟩;have p:ai s v:=H.af;have e:=p.get e id;have j:=p.get k id;have g:ai b v:=m.then p;refine⟨_,rfl,an.dec (λw=>?_) (λw=>no g λP=>w (by rw[P]))⟩;refine⟨_,ae e rfl,_,ae j rfl,an.eB (λL=>?_) (λf=>no g λP=>f (by rw[P]))⟩;refine⟨_,ae e rfl,_,ae j rfl,an.eB (λN=>?_) (λf=>no g λP=>f (by rw[P]))⟩;refine⟨_,ae e rfl,_,ae j rfl,an.eB (λO=>?_) (λf=>no g λP=>f (by rw[P]))⟩;refine⟨_,ae e rfl,_,ae j rfl,an.eB (λQ=>?_) (λf=>no g λP=>f (by rw[P]))⟩;refine⟨_,ae e rfl,_,ae j rfl,an.eB (λR=>?_) (λf=>no g λP=>f (by rw[P]))⟩;refine⟨_,ae e rfl,_,ae j rfl,Ok.mk ⟨?_,g⟩⟩
 congr 1
 have S:l.origin=M.origin/\l.seq=M.seq:=by simpa using o
 by_cases x:l.key=M.key
 ·have:l=M:=by cases l;cases M;simp_all
  subst this;simp
 ·rw[Xv λP=>x (by rw[P])]
  simp[x]
def yF{e n w x:Nat}{D y:XN}(g:Row gO 96 b D d e K)(o:Row gO 96 b y r n e0):
  ZG 18 #[.slice d e w,.slice r n x] b (Ok λz h=>z= .bool (decide (K=e0))/\ai b h):=by
 have A:=g.len;have B:=o.len;have C:=g.dE;unfold aN at C;refine um (an.dR (λp=>?_) (λp=>?_))
 ·have j:K≠e0:=by rintro rfl;simp[A,B]at p
  exact Ok.mk ⟨by simp[j],ak.refl b⟩
 ·refine⟨λq i h=>∃c:Nat,i=c/\c<=e/\q=e-c/\K.take c=e0.take c/\ai b h,⟨_,0,rfl,Qj _,rfl,rfl,ak.refl b⟩,?_⟩
  rintro q i _ S ⟨c,rfl,T,rfl,s,t⟩;refine an.dec (λE=>?_) (λE=>?_)
  ·intro F H
   have f:ai b F:=t.then H.af;obtain⟨I,J,U,V,rfl,_,_,u,L,W,X,Y,rfl,M,Z⟩:=(g.ah f).vB (i:=c) oM;obtain⟨N,O,a0,fs,rfl,_,_,k,Q,a2,n2,c2,rfl,R,a3⟩:=(o.ah f).vB (i:=c) oM;have P:=λi (l:i<10)=>L i l;have a:=λi (l:i<10)=>Q i l;refine⟨I,J,rfl,oM,oM,_,_,_,_,_,_,_,_,_,_,_,_,P 0 dC,P 1 dC,P 2 dC,P 3 dC,P 4 dC,P 5 dC,P 6 dC,P 7 dC,P 8 dC,P 9 dC,?_⟩;refine⟨N,O,rfl,oM,oM,_,_,_,_,_,_,_,_,_,_,_,_,a 0 dC,a 1 dC,a 2 dC,a 3 dC,a 4 dC,a 5 dC,a 6 dC,a 7 dC,a 8 dC,a 9 dC,?_⟩;refine PC.ok (qE M R) ?_;rintro _ w3 ⟨rfl,v⟩;refine⟨_,rfl,an.not (an.dec (λm=>?_) (λm=>?_))⟩
   ·subst m
    exact⟨_,oM,c+1,aq oM,oM,rfl,Bn s u k,f.then v⟩
   ·have j:K≠e0:=by rintro rfl;rw[u]at k;cases k;exact m rfl
    exact Ok.mk ⟨by simp[j],f.then v⟩
  ·have:K=e0:=by
    have P:K.take c=K:=Qz oM;have a:e0.take c=e0:=Qz oM;rw[<-P,<-a,s]
   exact Ok.mk ⟨by simp[this],t⟩
def HL{D:XN}(h:Row gO 96 b D d a K):
  ZG 65 #[.slice d a c] b (Ok λn j=>n= .bool (decide ((∃e∈K,100<e.aK.length)\/200<K.length))/\b=j):=by
 have w:=h.len;have o:=h.dE;unfold aN at o;refine Cq ⟨λl i j=>∃f:Nat,i=f/\f<=a/\l=a-f/\(∀e∈K.take f,¬100<e.aK.length)/\b=j,⟨_,0,rfl,Qj _,rfl,sM,rfl⟩,?_⟩;rintro l i _ x ⟨f,rfl,y,rfl,k,rfl⟩;refine an.dec (λp=>?_) (λp=>?_)
 ·obtain⟨q,r,s,z,rfl,_,_,m,t,A,B,C,rfl,u,E⟩:=h.vB (i:=f) oM
  have F:=u.len;refine⟨q,r,rfl,oM,oM,_,_,_,t 3 dC,an.dec (λv=>?_) (λv=>?_)⟩
  ·exact Ok.mk ⟨by rw[Zy (.inl ⟨s,QZ m,oM⟩)],rfl⟩
  ·refine⟨_,oM,f+1,aq oM,oM,rfl,λe P=>?_,rfl⟩
   rw[Qw,m]at P;rcases Q6.1 P with P|P
   ·exact k e P
   ·simp at P;subst P;omega
 ·rw[Qz oM]at k
  refine Ok.mk ⟨?_,rfl⟩
  congr 1
  refine decide_eq_decide.2 ⟨λg=>.inr oM,λg=>g.elim (λ⟨e,P,g⟩=>Zz g (k e P)) λg=>oM⟩
end Go.Proofs.YtblabbpipmodgaaGreatDoor
namespace Go.aw
open Go.ChangeShapes Go.WideShapes Go.ChangeAt Go.RowKit
def oE{P:Type}(a:Program)(b:TypeId)(c:DataW P):Prop:=∀d∈c.weights a b,d<=reachBytes
abbrev In(P:World):XN:=λa=>a<P.heap.size
variable{e:Int}{a c:Nat}{j:Type}{g p:TypeId}{u:Value}
section
variable {H:Type} {enc:TypeId×Value->H} {P:Program} {w:World} {base:Nat} {held:Bool}
def yx{a:List TypeId}{b:List (DataW H)}(d:(DataW.weightsEach P a b).all (·<=reachBytes)=true){j:Nat}{c:DataW H}(e:a[j]? =some g)(f:b[j]? =some c):oE P g c:=
 λh i=>by simpa using ZY.1 d _ (DataW.weights_mem_each e f h i)
def oF{c:TypeId}:∀{a:List (DataW H)} {d:DataW H},d∈a->∀b∈d.weights P c,b∈DataW.weightsAll P c a
 |x::a,d,h,b,e=>by
  simp only[DataW.weightsAll,Q6];rcases Q2.1 h with rfl|h
  ·exact Or.inl e
  ·exact Or.inr (oF h b e)
def Reads{d:Type}(P:Program)(e:jf d)(b:TypeId):Prop:=
 ∀(H:Type) (enc:TypeId×Value->H) (w:World) (held:Bool) (a:Nat) (cs:List Value) (c:DataW H×List MemPlace),DataW.trod enc P w 0 (λ_=>true) held a b cs=some c->oE P b c.1->∃f,e.rep w (In w) f cs
def jB{b:Option _}(P:w.cell? ⟨a,c,b⟩=some u):a<w.heap.size:=by
 unfold World.cell? at P
 by_cases d:a<w.heap.size
 ·exact d
 ·rw[show w.heap[a]? =none by simp;omega]at P;cases P
def open_row{k:jf j}{bytes v:Nat}{cs:List Value}{B:DataW H×List MemPlace}(I:P.underlying g=some (.slice p))(Q:P.cellsOf p=k.k)(J:0<k.k)(R:P.bytesOf p=bytes)(S:Reads P k p)(o:DataW.trod enc P w 0 (λ_=>true) held v g cs=some B)(T:oE P g B.1):
  ∃b q f U,cs=[.slice b q f]/\q<=f/\(b=none->q=0/\f=0)/\Row k bytes w (In w) b q U:=by
 rcases DataW.trod_slice I o with⟨rfl,rfl⟩|⟨b,c,f,a,h,q,_,rfl,rfl,hb,V,hm,a4,W,a5,a6⟩
 ·exact⟨none,0,0,[],rfl,Q4 _,λ_=>⟨rfl,rfl⟩,Row.nil _ _⟩
 ·have x:∀l∈(a.length+h.length)*P.bytesOf p::(DataW.weightsAll P p (a.map (·.1))++DataW.weightsAll P p (h.map (·.1))),l<=reachBytes:=by
   have:=T;simpa only[oE,DataW.weights,I,Q8]using this
  have read:∀e,e<c->∃d l,a[e]? =some l/\d.length=k.k/\(∀i,i<k.k->w.cell? (b.add (e*k.k+i))=d[i]?)/\DataW.trod enc P w 0 (λ_=>true) held q p d=some l:=by
   intro e n;have K:=W e n;rw[Q,Qq (by omega:e<a.length)]at K;obtain⟨d,A,y⟩:=Option.bind_eq_some_iff.1 K;obtain⟨_,C,s⟩:=World.cells?_some A;exact⟨d,_,Qq oM,C,λi E=>by rw[<-Addr.add_add];exact s i E,y⟩
  have X:0<c->b.spot=none:=by
   intro Y;obtain⟨d,l,_,C,s,_⟩:=read 0 Y;have:=s 0 J;rw[Nat.zero_mul,Nat.add_zero,Qq oM]at this;have p:b.add 0=b:=by simp[Addr.add]
   rw[p]at this;unfold World.cell? at this;split at this
   ·cases t:b.spot with
    |none=>rfl
    |some L=>rw[t]at this;simp at this
   ·cases this
  have one:∀e,e<c->∃r,∃u z M,some b=some ⟨u,z,none⟩/\u<w.heap.size/\In w u/\(∀i,i<k.k->w.cell? ⟨u,z+e*k.k+i,none⟩=M[i]?)/\k.rep w (In w) r M:=by
   intro e n;have t:=X oM;have N:∀F,b.add F=⟨b.block,b.off+F,none⟩:=by
    intro F;obtain⟨u,Z,L⟩:=b;simp only at t;subst t;unfold Addr.add;split
    ·next o=>subst o;rfl
    ·rfl
   obtain⟨d,l,y,C,s,h5⟩:=read e n;have a0:oE P p l.1:=λr m=>x r (QJ _ (ZV _ (oF (d:=l.1) (Xk.2 ⟨l,QZ y,rfl⟩) r m)));obtain⟨r,m⟩:=S H enc w held q d l h5 a0;have O:b.block<w.heap.size:=by
    have:=s 0 J;rw[N,Qq oM]at this;exact jB this
   refine⟨r,b.block,b.off,d,?_,O,O,λi E=>?_,m⟩
   ·obtain⟨u,Z,L⟩:=b
    simp only at t;rw[t]
   ·have:=s i E
    rw[N]at this;rw[<-this,Nat.add_assoc]
  have a1:c*bytes<=aN:=by
   have A:=x _ (QV ..);have y:c*P.bytesOf p<=(a.length+h.length)*P.bytesOf p:=Q0 _ oM;rw[R]at A y;unfold reachBytes at A;unfold aN;omega
  by_cases m:c=0
  ·subst m
   exact⟨some b,0,f,[],rfl,Qj _,λo=>(by cases o),rfl,sM,λe B n=>(by simp at n)⟩
  ·have a2:Nonempty j:=⟨(one 0 oM).choose⟩
   haveI:Inhabited j:=⟨Classical.choice a2⟩
   obtain⟨a3,hf⟩:=Go.Deep.choose_lt one;refine⟨some b,c,f,(List.range c).map a3,rfl,V,λo=>(by cases o),sM,a1,λe r m=>?_⟩
   by_cases n:e<c
   ·rw[Q9,List.getElem?_range n]at m
    cases m
    exact hf e n
   ·rw[Q7 bc]at m;cases m
def cd(P:(Lit.int .i64 e).wf=true):aP e:=by
 have:IntKind.i64.min<=e/\e<=IntKind.i64.max:=by simpa[Lit.wf]using P
 exact this
def Ko(b:P.underlying g=some (.int .i64)):Reads P aJ g:=λH enc w held a cs f c h=>by
 obtain⟨d,rfl,-,e⟩:=DataW.trod_int b c;exact⟨d,rfl,cd e⟩
end
section
variable {H:Type} {enc:TypeId×Value->H} {P:Program} {w:World} {held:Bool} {r:Reach} {b0:Nat} {v:Value} {d:DataW H} {ps:List MemPlace}
def Mu{b:jf j}{bytes:Nat}(h:P.underlying g=some (.slice p))(l:P.cellsOf p=b.k)(m:0<b.k)(n:P.bytesOf p=bytes)(o:Reads P b p)(q:Value.okWide P w r b0 g v)(s:DataW.Trod enc P w 0 (λ_=>true) held g v d ps)(t:oE P g d):
  ∃e c a f,v= .slice e c a/\c<=a/\(e=none->c=0/\a=0)/\Row b bytes w (In w) e c f:=by
 obtain⟨e,c,b,rfl⟩:=okWide_slice h q;obtain⟨i,u⟩:=s;obtain⟨y,z,A,f,k,x⟩:=open_row h l m n o u t;simp only[Value.cells]at k
 cases k
 exact⟨_,_,_,f,rfl,x⟩
end
variable{n:Array Value}{a5:Func}{f7:List MemPlace}{b k:World}
def ai.below(P:ai b k):Below b.heap.size b k:=⟨P.os,P.tape,P.output,P.size,λa c=>P.block a c id⟩
section
variable {H:Type} {enc:TypeId×Value->H} {P:Program}
def tq(j:laidOutB P=true){f k:World}(l:ai f k){m:Nat->Bool}:∀{c:List TypeId} {n:List Value} {o:List (DataW H)} {d:List MemPlace},c.all (λg=>P.readableRec g&&decide (g<P.types.size))=true->(∀a∈d,a.block<f.heap.size)->(∀a∈d,m a.block=true)->
  DataW.TrodAll enc P f 0 (λ_=>true) true c n o d->DataW.TrodAll enc P k 0 m true c n o d
 |[],_,_,_,_,_,_,b=>by
  obtain⟨rfl,rfl,rfl⟩:=trodAll_nil b;exact trodAll_mk0
 |g::c,_,_,_,e,p,q,b=>by
  obtain⟨t,u,v,w,x,y,rfl,rfl,rfl,r,s⟩:=trodAll_cons b;simp only[List.all_cons,QK,Zk]at e;refine trodAll_cons_mk (WideElems.Trod_stays j e.1.1 e.1.2 r (λh i=>l.below.same (p h (ZV _ i))) λh i=>q h (ZV _ i)) (tq j l (by simpa using e.2) (λa b=>p a (ZW _ b)) (λa b=>q a (ZW _ b)) s)
def Kp{d:ChangeSpec}{f o:List (DataW H)}{tb:TypeId}{a i E j:Bool}(F:laidOutB P=true)(u:a5.resultTypes= #[tb])(v:P.underlying tb=some .bool)(w:d.vars=[])(I:(d.fn H (f++o)).results=[.lit (.bool true)])(J:(d.fn H (f++o)).args=f)(K:(d.fn H (f++o)).vars=[])(L:a5.params.toList.all (λx=>P.readableRec x&&decide (x<P.types.size))=true)(p:DataW.Whole enc P a5.params.toList d.vars a b n.toList f o f7)(q:ai b k):d.post enc P a5 a i E j b n (.bool true) k:=by
 have M:=p;have r:=λc e=>p.lt c e;obtain⟨c,V,N,y,O,Q,R⟩:=p;rw[w]at y;obtain⟨rfl,rfl⟩:=trodVars_none y;obtain rfl:f7=c:=by simpa using O
 have z:∀g:Nat->Bool,(∀c∈f7,g c.block=true)->DataW.TrodAll enc P k 0 g true a5.params.toList n.toList (d.fn H (f++[])).args f7:=λg S=>by
  rw[J];exact tq F q L (λs t=>by simpa using r s t) (λs t=>S s t) N
 have A:∀(h:Nat) (g:Nat->Bool) (B:Bool),DataW.TrodAll enc P k h g B a5.resultTypes.toList ((Value.bool true).resultList a5.resultTypes.size) (d.fn H (f++[])).results []:=λh g B=>by
  rw[u,I];exact trodAll_cons_mk (shut_bool v _) trodAll_mk0
 have C:∀g:Nat->Bool,DataW.TrodVars enc P k g d.vars (d.fn H (f++[])).vars []:=λg=>by rw[K,w];exact rfl
 have T:∀c∈f7,(λh=>decide (h<b.heap.size)) c.block=true:=λc e=>by simpa using r c e
 refine⟨f,[],f7,[],f7,[],M,A _ _ _,z _ T,C _,World.keptBut_mono (λc e=>⟨e,Or.inr (by simpa using e)⟩) (q.below.frame (·∈f7)),λ_=>?_⟩;refine⟨ok_one u rfl (okWide_bool_mk v _),_,_,([]++f7)++[],⟨[]++f7,[],trodAll_append (z _ (λ_ _=>rfl)) (A _ _ _),C _,rfl,?_,?_⟩,?_⟩
 ·intro h l e
  have m:MemPlace.cell h l∈f7:=by simpa using e
  rw[q.below.frozen (p:=⟨h,l,none⟩) (r _ m)];exact Q h l (by simpa using m)
 ·intro U
  simpa using R U
 ·intro c e _
  simpa using e
end
end Go.aw
namespace Go.Proofs.YtblabbpipmodgaaGreatDoor
open Go.aw
def bC(b a:World)(e:Nat)(D:al)(c:XN):Prop:=∃d,aS a e d D/\ai b a/\(∀P,d P->b.heap.size<=P/\¬c P)/\∀P,c P->P<a.heap.size
abbrev no:XN:=λ_=>False
abbrev fA(P:XN):XN:=λa=>¬P a
variable{n:Array Value}{v:ByteArray}{y:FuncId}{e:Int}{d1:Int×al}{a c:Nat}{f:XN}{d:ZH}
section
variable {w0 w w1 w':World} {p:Nat} {D D':al} {X Y:XN}
def bC.gr(P:bC w0 w p D X):ai w0 w:=by obtain⟨b,c,a,d,e⟩:=P;exact a
def bC.ok(P:bC w0 w p D X):D.Ok:=by obtain⟨b,a,c,d,e⟩:=P;exact a.ok
def bC.ah(a:bC w0 w p D X)(P:ai w w'):bC w0 w' p D X:=by
 obtain⟨b,c,d,e,f⟩:=a;exact⟨b,c.ah P,d.ah P,e,λg h=>Qk (f g h) P.size⟩
def bC.mono(d:bC w0 w p D X)(b:∀P,Y P->X P):bC w0 w p D Y:=by
 obtain⟨e,f,g,c,h⟩:=d;exact⟨e,f,g,λP a=>⟨(c P a).1,λi=>(c P a).2 (b P i)⟩,λP a=>h P (b P a)⟩
def bC.add(a:bC w0 w p D X)(c:ai w w')(d:∀P,Y P->w.heap.size<=P/\P<w'.heap.size):bC w0 w' p D (λP=>X P\/Y P):=by
 obtain⟨g,e,h,f,i⟩:=a;exact⟨g,e.ah c,h.ah c,λP b=>⟨(f P b).1,λj=>j.elim (f P b).2 λk=>by have:=e.aC P b;have:=(d P k).1;omega⟩,λP b=>b.elim (λa=>Qk (i P a) c.size) λa=>(d P a).2⟩
def bC.of(b:ai w0 w)(c:ai w w')(g:aS w' p f D)(d:∀P,f P->w.heap.size<=P)(e:∀P,X P->P<w.heap.size):bC w0 w' p D X:=
 ⟨f,g,b.ah c,λP a=>⟨Xx b.size (d P a),λh=>by have:=d P a;have:=e P h;omega⟩,λP a=>Qk (e P a) c.size⟩
def tu(w0 w:World)(p:Nat)(X:XN)(P:Int×al)(a:Value)(w':World):Prop:=a= XH P.1/\bC w0 w' p P.2 X/\ak (fA X) w w'
def bC.RY(f:bC w0 w p D X)(e:ai w w1)(j:∀b,aS w1 p b D->(∀P,b P->w0.heap.size<=P/\P<w.heap.size/\¬X P)->ZG y n w1 (Ok (sZ w1 p b d1))):ZG y n w1 (Ok (tu w0 w1 p X d1)):=by
 obtain⟨b,g,h,c,i⟩:=f;refine Calls.ok (j b (g.ah e) λP a=>⟨(c P a).1,g.aC P a,(c P a).2⟩) ?_;rintro q w' ⟨k,l,m,d⟩;have:=e.size;have:=h.size;have:=d.af.size;exact⟨l,⟨k,m,(h.ah e).new d.af λP a=>.inr (c P a).1,λP a=>(d.new P a).elim (c P) λf=>⟨oM,λo=>by have:=i P o;omega⟩,λP a=>by have:=i P a;omega⟩,d.af.mono λP _ a=>(c P a).2⟩
def bC.call(b:bC w0 w p D X)(c:∀a,aS w p a D->(∀P,a P->w0.heap.size<=P/\P<w.heap.size/\¬X P)->ZG y n w (Ok (sZ w p a d1))):ZG y n w (Ok (tu w0 w p X d1)):=b.RY (ak.refl w) c
def bC.append{g:List UInt8}(b:bC w0 w p D X)(e:Row fF 1 w f d a g)(k:d=none->a=0/\c=0)(h:∀P,f P->P<w0.heap.size\/X P):
  ZG 156 #[XL p,.string v,.slice d a c] w (Ok (tu w0 w p X (D.append v g))):=by
 have q:=b.gr.size;have l:∀P,X P->P<w.heap.size:=by obtain⟨m,r,s,t,n⟩:=b;exact n
 exact b.call λm o i=>vz o e k λP e=>⟨(h P e).elim (λb=>oM) (l P),λj=>(h P e).elim (λb=>by have:=(i P j).1;omega) (i P j).2.2⟩
def bC.create(P:bC w0 w p D X):ZG 169 #[XL p,.string v] w (Ok (tu w0 w p X (D.create v))):=P.call λb a _=>vy a
def bC.sync(P:bC w0 w p D X):ZG 158 #[XL p,.string v] w (Ok (tu w0 w p X (D.sync v))):=P.call λb a _=>Be a
def bC.EG{k:ByteArray}(P:bC w0 w p D X):ZG 188 #[XL p,.string k,XH e] w (Ok (tu w0 w p X (D.EG k e))):=P.call λb a _=>Mf a
def bC.delete(P:bC w0 w p D X):ZG 119 #[XL p,.string v] w (Ok (tu w0 w p X (D.delete v))):=P.call λb a _=>vx a
def bC.read{k:ByteArray}(l:bC w0 w p D X):ZG 181 #[XL p,.string k] w (Ok λe w'=>∃b c d a,e= .tuple #[.slice b c d,XH (D.read k).2]/\aO fF 5 a w' b c d (D.read k).1/\(∀P,a P->w.heap.size<=P)/\bC w0 w' p D (λP=>X P\/a P)/\ai w w'):=by
 obtain⟨a,f,m⟩:=l;refine Calls.ok (uU f) ?_;rintro e w' ⟨n,rfl,b,c,d,G,rfl,g,h,i⟩;exact⟨b,c,d,G,rfl,g,i,bC.add ⟨a,f,m⟩ h λP j=>⟨i P j,g.aC P j⟩,h⟩
end
def et(P:Nat):al:=⟨P,[],false,0,false⟩
variable{z:XT}{t:List Int}{b k:World}
def qU(h:ai b k)(m:64<=e)(n:e<=262144):ZG 34 #[XH e] k (Ok λc a=>∃P,c= .tuple #[XL P,XH 0]/\bC b a P (et e.toNat) (λd=>d<k.heap.size)/\ai k a):=by
 refine Calls.ok Kh ?_;intro c a f;rw[Zq oM]at f;obtain⟨P,o,rfl,i,g,j⟩:=f;exact⟨P,rfl,bC.of h g i j λd l=>l,g⟩
def ER{D:al}(P:D.Ok)(a:ByteArray):(D.read a).1.length<=262144:=by
 unfold al.read;split
 ·simp
 ·split
  ·simp
  ·rename_i c b;exact P.len (cx b)
def nA:ByteArray:=⟨#[97]⟩
open Go.aw Go.ChangeShapes Go.WideShapes Go.ChangeAt Go.RowKit
section
variable {w0 w w1 w':World} {p:Nat} {D D':al} {X Y:XN}
def bC.bH(b:bC w0 w p D X)(h:qu w0)(k:Row aJ 8 w f d a t)(l:∀m∈t,aP m)(i:∀P,f P->P<w0.heap.size\/X P):
  ZG 139 #[XL p,.agg #[.slice d a c]] w (Ok (tu w0 w p X (bH D t))):=by
 have s:=b.gr.size;have n:∀P,X P->P<w.heap.size:=by obtain⟨o,u,v,x,q⟩:=b;exact q
 have y:=h.lt;exact b.call λo r g=>yV (h.ah b.gr) r k l (λP e=>⟨(i P e).elim (λb=>oM) (n P),λj=>(i P e).elim (λb=>by have:=(g P j).1;omega) (g P j).2.2⟩) λP e=>by have:=(g P e).1;omega
def bC.jF(d:bC w0 w p D X)(k:qu w0):ZG 136 #[XL p] w (Ok λe w'=>∃a b c G,e= .tuple #[.agg #[.slice a b c],.bool (fr D).isSome]/\aO aJ 3 G w' a b c ((fr D).getD [])/\
  (∀P,G P->w.heap.size<=P)/\bC w0 w' p D (λP=>X P\/G P)/\ai w w'):=by
 have l:=d.gr;obtain⟨m,f,n⟩:=d;refine Calls.ok (AK (k.ah l) f) ?_;rintro e w' ⟨a,b,c,G,rfl,g,h,i⟩;exact⟨a,b,c,G,rfl,g,i,bC.add ⟨m,f,n⟩ h λP j=>⟨i P j,g.aC P j⟩,h⟩
end
def Jp{D:XN}{a bytes:Nat}(c:Row aJ bytes b D d a t):∀P∈t,aP P:=λP e=>by
 obtain⟨f,g⟩:=List.mem_iff_getElem?.1 e;obtain⟨j,h,k,-,-,-,-,i⟩:=c.el f P g;exact i.2
def KH{D:al}:((fr D).getD []).length<=64:=by
 unfold fr;split
 ·simp
 ·cases P:jF (D.read cQ).1 with
  |none=>simp
  |some a=>exact(KL P).2
def tn:(aR==cQ)=false:=by decide+kernel
def Oe:cJ aR=true:=by decide+kernel
def Ez:cJ cQ=true:=by decide+kernel
def wL:jW:=⟨[(6,[(8,.slice none 0 0),(9,XH 0)])],[],[],[],[]⟩
def wM(a0:PC_ 120 #[.ii e] b (λa3 a4=>∃o,a3= .string o/\PC_ 181 #[.pointer d,.string o] a4 (λa5 p=>∃q l m r,a5= .tuple #[.slice q l m,.ii r]/\an (r !=0) (rt z ((.tuple #[.slice none 0 0,.ii 0])) p) ((∃n:Nat->ZH->Nat->Nat->Int->XU,(∃k,n k none 0 0 0 p)/\∀(k:Nat) (f:ZH) (g:Nat) (h:Nat) (c:Int) (c9:Nat->Value) (s:World),n k f g h c s->((0:Int)<=c/\(c:Int)<=(l:Int)/\PC_ 182 #[.slice (bY q (Int.toNat c) m 1) (l-Int.toNat c) (m-Int.toNat c)] s (λa6 i=>∃t u v w x y,a6= .tuple #[.agg #[.ii t,.slice u v w],.ii x,.ii y]/\PA i (.cells #[.ii 0,.slice none 0 0] 292) λa7=>PS a7 (ab_ i 0) (.ii t) λa8=>PS a8 (ab_ i (0+1)) (.slice u v w) λj=>an (y !=0) (rt z ((.tuple #[.slice f g h,.ii c])) j) ((rI j (ab_ i 0) λa9=>an (a9 !=1) (rt z ((.tuple #[.slice f g h,.ii c])) j) ((rS j (ab_ i (0+1)) λb0 b1 b2=>PC_ 257 #[.slice b0 b1 b2] j (λb3 P=>∃A B D C E G F H I J K L M,b3= .tuple #[.agg #[.ii A,.ii B,.ii D,.slice C E G,.ii F,.ii H,.ii I,.ii J,.ii K,.ii L],.ii M]/\PA P (.cells #[.ii 0,.ii 0,.ii 0,.slice none 0 0,.ii 0,.ii 0,.ii 0,.ii 0,.ii 0,.ii 0] 55) λb4=>PS b4 (ab_ P 0) (.ii A) λb5=>PS b5 (ab_ P (0+1)) (.ii B) λb6=>PS b6 (ab_ P (0+2)) (.ii D) λb7=>PS b7 (ab_ P (0+3)) (.slice C E G) λb8=>PS b8 (ab_ P (0+4)) (.ii F) λb9=>PS b9 (ab_ P (0+5)) (.ii H) λc0=>PS c0 (ab_ P (0+6)) (.ii I) λc1=>PS c1 (ab_ P (0+7)) (.ii J) λc2=>PS c2 (ab_ P (0+8)) (.ii K) λc3=>PS c3 (ab_ P (0+9)) (.ii L) λa=>an (M !=0) (rt z ((.tuple #[.slice f g h,.ii c])) a) ((∃N O Q R S T U V W X Y Z,a.cell? (ab_ P 0)=some (.ii N)/\a.cell? (ab_ P (0+1))=some (.ii O)/\a.cell? (ab_ P (0+2))=some (.ii Q)/\a.cell? (ab_ P (0+3))=some (.slice R S T)/\a.cell? (ab_ P (0+4))=some (.ii U)/\a.cell? (ab_ P (0+5))=some (.ii V)/\a.cell? (ab_ P (0+6))=some (.ii W)/\a.cell? (ab_ P (0+7))=some (.ii X)/\a.cell? (ab_ P (0+8))=some (.ii Y)/\a.cell? (ab_ P (0+9))=some (.ii Z)/\PA a (.cells #[.ii N,.ii O,.ii Q,.slice R S T,.ii U,.ii V,.ii W,.ii X,.ii Y,.ii Z] 55) λc4=>PR_ (ap_ 50 (.slice f g h) (.slice (some (ab_ a 0)) 1 1)) c4 (kS_ λc5 c6 c7 c8=>(∃a2,a2<k/\n a2 c5 c6 c7 (IntKind.wrap .i64 (c+x)) c8)) (pV z)))) (pE z)))))) (pE z))))) (pE z)) (pE z)):ZG 187 #[.pointer d,.ii e] b z:=DC wL Tryz.func187 rfl a0
end Go.Proofs.YtblabbpipmodgaaGreatDoor
namespace Go.aw
open Go
variable{l:aj}
def vH(P:l.Ok)(a:l.aK.length<=64):fD l=(wQ l,0):=by
 have d:=Jo P a;have b:gT l=(bI (jy l),0):=by unfold gT;rw[Zq oM]
 have c:iU 1 (bI (jy l))=(wQ l,0):=by unfold iU wQ;rw[Zq dC,Zq oM]
 unfold fD;rw[b];simp only;rw[c];simp
def Fe(a:¬l.aK.length<=64):fD l=([],3):=by
 have P:gT l=([],3):=by unfold gT;rw[Zx oM]
 unfold fD;rw[P];simp
def ends(P:List aj):List Int:=(List.range P.length).map λa=>((bk (P.take (a+1))).length:Int)
def Gl{l:List aj}(a:∀P∈l,P.Ok/\P.aK.length<=64):(bk l).length<=675*l.length:=by
 induction l with
 |nil=>simp[bk]
 |cons P l b=>
  rw[IF,QX,Xq];have e:=Gm (a P (QV ..)).1 (a P (QV ..)).2;have f:=b λc d=>a c (QJ _ d);omega
end Go.aw
namespace Go.Proofs.YtblabbpipmodgaaGreatDoor
open Go.aw
variable{e:Int}
def Fg(c:0<=e)(d:e<1000000000000):cJ (⟨(aM e).toArray⟩:ByteArray)=true:=by
 have f:=zy e;have g:=rZ e.toNat;have b:=kq c d;have h:(⟨(aM e).toArray⟩:ByteArray).size=(aM e).length:=by simp[ByteArray.size]
 unfold cJ;rw[h,QK,QK,Zk,Zk];refine⟨⟨by rw[b,QX];show 1<=4+_;omega,f⟩,?_⟩;show(aM e).all dQ=true;rw[b,List.all_append,QK];refine⟨dC,ZY.2 λP a=>?_⟩;have:=ZY.1 g.2.1 P a;have i:∀P:UInt8,fC P=true->dQ P=true:=by
  intro P;have j:(List.range 256).all (λe=>!(fC (UInt8.ofNat e))||dQ (UInt8.ofNat e))=true:=by decide+kernel
  have:=ZY.1 j P.toNat (List.mem_range.2 P.toNat_lt);rw[UInt8.ofNat_toNat]at this;intro k;rw[k]at this;simpa using this
 exact i P this
end Go.Proofs.YtblabbpipmodgaaGreatDoor
namespace Go.aw
open Go
end Go.aw
namespace Go.Proofs.YtblabbpipmodgaaGreatDoor
section
open Go.aw
variable{K:List aj}{a c:Nat}{f:XN}{d:ZH}{j:Type}{b:World}{l:aj}
def KG{D:XN}(r:Laid b)(s:Row aJ 8 b D d a l.aK)(j:l.Ok)(t:∀e,D e->e<b.heap.size):
  ZG 155 #[.agg (aB l d a c).toArray] b (Ok λu k=>∃m n o p,u= .tuple #[.slice m n o,XH (fD l).2]/\aO fF 5 p k m n o (fD l).1/\ai b k/\∀e,p e->b.heap.size<=e):=by
 refine wC (PA.mk λC f E P=>?_);refine⟨_,_,_,_,_,_,_,_,_,_,_,_,ae P rfl,ae P rfl,ae P rfl,ae P rfl,ae P rfl,ae P rfl,ae P rfl,ae P rfl,ae P rfl,ae P rfl,
  PC.ok (Kl (s.ah f) j λe i=>Qk (t e i) f.size) ?_⟩
 rintro _ v ⟨_,rfl,F,H,I,J,rfl,q,g,K⟩;refine⟨_,_,_,_,rfl,an.dR (λw=>?_) (λx=>?_)⟩
 ·rw[show fD l=([],(gT l).2) by unfold fD;rw[Zx w]]
  exact Ok.mk ⟨none,0,0,λ_=>False,rfl,aO.nil v,f.then g,λ_ h=>h.elim⟩
 rw[show fD l=iU 1 (gT l).1 by unfold fD;rw[Zq (by simpa using x)]];have L:(gT l).1.length<=666:=by
  by_cases h:64<l.aK.length
  ·simp[gT,h]
  ·have:=Jo j oM
   simpa[gT,h]using this
 refine PC.ok (Bk (r.ah (f.then g)).oX (q.row (bytes:=1) dC ba) q.aC) ?_;rintro _ M ⟨_,rfl,N,O,Q,y,rfl,z,A,B⟩;refine⟨_,_,_,_,rfl,Ok.mk ⟨_,_,_,y,rfl,z,(f.then g).then A,λe i=>?_⟩⟩;have:=B e i;have:=(f.then g).size;omega
def Np{P:List j}(c:P.length=a)(b:Nat):(P.take a).drop b=P.drop b:=by rw[Qz oM]
def MS{D:al}{no:Int}(O:Laid b)(Q:aS b a f D)(hn:aP no):
  ZG 187 #[XL a,XH no] b (Ok λB e=>∃o p q G,B= .tuple #[.slice o p q,XH ((bQ (D.read (dV (aM no))).1).2:Int)]/\
   aO oA 55 G e o p q (bQ (D.read (dV (aM no))).1).1/\ai b e/\(∀c,G c->b.heap.size<=c)/\(bQ (D.read (dV (aM no))).1).1.length<=262144):=by
 refine wM (PC.ok (lL O hn) ?_);rintro _ w1 ⟨rfl,u⟩;refine⟨_,rfl,PC.ok (uU (Q.ah u)) ?_⟩;rintro _ r ⟨_,rfl,a4,R,c2,F2,rfl,m,C,c3⟩;have S:=ER Q.ok (dV (aM no));have E:(D.read (dV (aM no))).2≠0->(D.read (dV (aM no))).1=[]:=by
  unfold al.read;split
  ·intro _;rfl
  ·split
   ·intro _;rfl
   ·intro h;exact Zz rfl h
 generalize D.read (dV (aM no))=rd at m S E;obtain⟨d,er⟩:=rd;simp only at m S E⊢;refine⟨_,_,_,_,rfl,an.dR (λl=>?_) (λhe=>?_)⟩
 ·rw[E l,Gj]
  exact Ok.mk ⟨none,0,0,λ_=>False,rfl,aO.nil r,u.then C,λ_ h=>h.elim,sM⟩
 have b2:=m.len dC;have b3:=m.iG;have a9:Row fF 1 r F2 a4 R d:=m.row dC ba;refine⟨λT v w y F e=>∃(P:Nat) (i:List aj) (G:XN),F=P/\P<=d.length/\T=d.length-P/\bQ d=(i++(bQ (d.drop P)).1,P+(bQ (d.drop P)).2)/\i.length<=P/\
  aO oA 55 G e v w y i/\ai r e/\∀c,G c->r.heap.size<=c,⟨_,0,[],λ_=>False,rfl,Qj _,rfl,sM,sM,aO.nil r,ak.refl _,λ_ h=>h.elim⟩,?_⟩
 rintro T v w y _ _ U ⟨P,i,G,rfl,c5,rfl,V,c6,s,n,H⟩;refine⟨oM,oM,?_⟩;have W:ai b U:=(u.then C).then n;have X:=(a9.ah n).part (lo:=P) (hi:=R) (cap:=c2) oM (Q4 _) b3;rw[Np b2.symm]at X;rw[Qx];refine PC.ok (Bl (O.ah W).oX X oM λc g=>by have:=m.aC c g;have:=n.size;omega) ?_;rintro _ I ⟨b0,n4,c4,F4,rfl,b4,z,c8⟩;have j:¬((bj (d.drop P)).no=0/\(bj (d.drop P)).kind=1/\(iz (bj (d.drop P)).body).2=0)->∀e,ai I e->
   Ok (λB e=>∃o p q G,B= .tuple #[.slice o p q,XH ((bQ d).2:Int)]/\aO oA 55 G e o p q (bQ d).1/\ai b e/\(∀c,G c->b.heap.size<=c)/\(bQ d).1.length<=262144) (.returned (.tuple #[.slice v w y,XH (P:Int)])) e:=by
  intro h e Y;rw[V,zv h];refine Ok.mk ⟨v,w,y,G,sM,by simpa using(s.ah z).ah Y,(W.then z).then Y,λc g=>?_,by simp;omega⟩;have:=H c g;have:=(u.then C).size;omega
 refine⟨_,_,_,_,_,_,rfl,PA.mk λw5 k5 s5 g5=>?_⟩;refine storeAll [XH (bj (d.drop P)).kind,.slice b0 n4 c4] g5 rfl λJ k6 s6 Z=>?_;have t:ai I J:=k5.new k6 λc g=>.inr oM;refine an.dR (λl=>j (λh=>l h.1) J t) (λa0=>?_);refine⟨_,ae Z rfl,an.dR (λl=>j (λh=>l h.2.1) J t) (λb1=>?_)⟩;obtain⟨b5,h9,c9⟩:=tl a0;rw[XZ]at b5;have a1:=b4.ah t;refine⟨_,_,_,ae Z rfl,PC.ok (Km (a1.row (bytes:=1) dC ba) a1.aC) ?_⟩;rintro _ w7 ⟨a7,n7,c7,F7,rfl,K,k7,a3⟩;obtain⟨L,a5⟩:=Nq (bj (d.drop P)).body;generalize M:iz (bj (d.drop P)).body=b6 at K L a5;obtain⟨x,xe⟩:=b6;simp only at K L a5;refine⟨_,_,_,_,_,_,_,_,_,_,_,_,_,rfl,PA.mk λw8 k8 s8 g8=>?_⟩;refine storeAll (aB x a7 n7 c7) g8 rfl λA k9 s9 k=>?_;have a6:ai w7 A:=k8.new k9 λc g=>.inr oM;have a8:ai I A:=(t.then k7).then a6;refine an.dR (λl=>j (λh=>l (by have:=h.2.2;rw[M]at this;exact this)) A a8) (λb7=>?_);refine⟨_,_,_,_,_,_,_,_,_,_,_,_,ae k rfl,ae k rfl,ae k rfl,ae k rfl,ae k rfl,ae k rfl,ae k rfl,ae k rfl,ae k rfl,ae k rfl,?_⟩;have N:ai U A:=z.then a8;have b8:=s.ah N;have a2:=K.ah a6;have d0:=(z.then t).size;refine DQ b8 zQ (x:=x) (D:=F7) ⟨a7,n7,c7,F7,rfl,a2,λ_ h=>h,L,by unfold aN;omega⟩ (λc g=>⟨a2.aC c g,λhc=>?_⟩) ba (by unfold maxLen;omega) λa' c' d1 F' b9 c0 c1 _=>?_
 ·have h1:=s.aC c (s.self c hc)
  have h2:=a3 c g;omega
 refine⟨_,_,_,rfl,_,?_,P+(bj (d.drop P)).n,i++[x],F',?_,oM,rfl,?_,by simp;omega,b9,?_,?_⟩
 ·omega
 ·rw[wrap_i64 bb];omega
 ·rw[V,Gk ⟨a0,b1,by rw[M];exact b7⟩,M,List.drop_drop]
  simp only[XQ,List.cons_append,List.nil_append,Nat.add_assoc]
 ·exact(n.then N).new c0 λc g=>.inr (H c (s.self c g))
 ·intro c g
  have hz:=(n.then N).size;have d2:=n.size;rcases c1 c g with h|h|h
  ·exact H c h
  ·have:=a3 c h;omega
  ·omega
def AP{D:XN}(x:Row aJ 8 b D d a l.aK):
  ZG 44 #[.agg (aB l d a c).toArray] b (Ok λy p=>∃q r s t,y= .agg (aB l q r s).toArray/\aO aJ 3 t p q r s l.aK/\ai b p/\∀P,t P->b.heap.size<=P):=by
 refine wy (PA.mk λL z M u=>PA.mk λA h N B=>?_);have v:ai b A:=z.then h;refine⟨_,_,_,ae (h.get u id) rfl,PC.ok (AG (x.ah v)) ?_⟩;rintro _ O ⟨i,j,k,C,rfl,E,m,n⟩;have F:=m.get (h.get u id) id;have H:=m.get B id;refine⟨_,_,_,rfl,PS.mk F sM λI o Q J=>?_⟩;have e:I.heap[b.heap.size]? =some (.cells (aB l i j k).toArray 55 (0,0)):=by rw[J];rfl
 have K:=o.get H oM;refine⟨_,_,_,_,_,_,_,_,_,_,_,_,ae e rfl,ae e rfl,ae e rfl,ae e rfl,ae e rfl,ae e rfl,ae e rfl,ae e rfl,ae e rfl,ae e rfl,?_⟩;refine storeAll (aB l i j k) K rfl λR w S f=>?_;refine⟨_,_,_,_,_,_,_,_,_,_,_,_,ae f rfl,ae f rfl,ae f rfl,ae f rfl,ae f rfl,ae f rfl,ae f rfl,ae f rfl,ae f rfl,ae f rfl,
  Ok.mk ⟨i,j,k,C,rfl,?_,?_,λP g=>by have:=n P g;omega⟩⟩
 ·exact(E.af o λP g l=>by have:=n P g;omega).af w λP g l=>by have:=n P g;omega
 ·exact((v.then m).new o λP g=>.inr oM).new w λP g=>.inr oM
def zr{D:XN}(m:Row gO 96 b D d a K)(C:∀E∈K,E.aK.length<=100):
  ZG 15 #[.slice d a c] b (Ok (nX oA 55 b K)):=by
 have T:=m.len;have F:=m.dE;unfold aN at F;refine uw ⟨λr s e t i u=>i=(e:Int)/\e<=a/\r=a-e/\∃l,aO oA 55 l u s e t (K.take e)/\ai b u/\∀P,l P->b.heap.size<=P,
  ⟨_,rfl,Qj _,rfl,λ_=>False,by simpa using aO.nil b,ak.refl _,λ_ h=>h.elim⟩,?_⟩
 rintro r s e t i _ U ⟨rfl,V,rfl,l,g,k,n⟩;refine an.dec (λv=>?_) (λv=>?_)
 ·obtain⟨P,o,w,W,rfl,_,_,x,p,X,Y,Z,rfl,H,I⟩:=(m.ah k).vB (i:=e) oM
  have y:(K.take e).length=e:=by simp;omega
  have f:=λi (J:i<10)=>p i J;refine⟨P,o,rfl,oM,oM,_,_,_,_,_,_,_,_,_,_,_,_,f 0 dC,f 1 dC,f 2 dC,f 3 dC,f 4 dC,f 5 dC,f 6 dC,f 7 dC,f 8 dC,f 9 dC,?_⟩;refine PC.ok (AP H) ?_;rintro _ w2 ⟨L,M,N,z,rfl,A,q,B⟩;have a3:=C w (QZ x);refine⟨_,_,_,_,_,_,_,_,_,_,_,_,rfl,DQ (g.ah q) zQ (x:=w) (D:=z) ⟨L,M,N,z,rfl,A,λ_ h=>h,I,by unfold aN;omega⟩ (λP j=>⟨A.aC P j,λp=>?_⟩) (by rw[y];unfold aN;omega) (by rw[y];unfold maxLen;omega) λa' c' w3 O Q R S _=>?_⟩
  ·have v:=g.aC P (g.self P p);have h2:=B P j;omega
  refine⟨_,_,_,rfl,a-(e+1),oM,aq oM,oM,rfl,O,?_,(k.then q).new R λP j=>.inr (n P (g.self P j)),?_⟩
  ·rw[Qw,x];exact Q
  ·intro P j
   have:=k.size;have:=(k.then q).size;rcases S P j with h|h|h
   ·exact n P h
   ·have:=B P h;omega
   ·omega
 ·obtain rfl:e=a:=oM
  rw[Qz oM]at g;exact Ok.mk ⟨_,_,_,l,rfl,g,k,n⟩
end
section
open Go.aw
variable{n:Array Value}{y:FuncId}{e:Int}{d1:Int×al}{t:List Int}{a c:Nat}{f:XN}{d:ZH}{b:World}
def cm{D:XN}(h:Row aJ 8 b D d a t)(g:∀P,D P->P<b.heap.size):
  ZG 102 #[.slice d a c] b (Ok (nX aJ 3 b t)):=by
 have x:=h.len;have e:=h.dE;refine mg (iW qA.under ⟨_,rfl,an.mk (λf=>?_) (λf=>PA.mk λk i y l=>?_)⟩)
 ·have:t=[]:=by
   cases d with
   |none=>
    cases t with
    |nil=>rfl
    |cons m z=>obtain⟨P,n,A,o,_⟩:=h.el 0 m rfl;cases o
   |some p=>cases f
  subst this;exact Ok.mk ⟨none,0,0,λ_=>False,rfl,aO.nil b,ak.refl _,λ_ h=>h.elim⟩
 ·cases d with
  |none=>cases f
  |some p=>
   have q:aO aJ 3 (·=b.heap.size) k (XM b.heap.size) 0 0 []:=
    ⟨⟨[],λ_=>False,Own.ub (cur:= #[]) l rfl (Qj _),rfl,λ_ h=>h.elim⟩,λP e=>by simpa[aE]using e.symm,λP e=>oM⟩
   refine jx q qA (D:=D) (h.ah i) (λP e=>⟨by have:=g P e;omega,by have:=g P e;simp only[aE];intro r;cases r;omega⟩) bc (by unfold aN at e;unfold maxLen;simp;omega) λj s B C u v _ w=>?_;refine⟨_,_,_,rfl,Ok.mk ⟨j,_,s,λP=>aE j=some P,rfl,by have h:=u.alone;rw[List.nil_append]at h;exact h,i.new v λP e=>.inr ?_,λP e=>?_⟩⟩
   ·simp only[aE,Q1]at e;omega
   ·rcases w P e with h|h<;>omega
def gF(P:Int)(a:ByteArray):Int:=if(oV a).2 then max P ((oV a).1+1)else P
def tL(P:List ByteArray):Int:=P.foldl gF 1
def tA(D:al):Int:=tL D.list
def Bt(P:ByteArray):0<=(oV P).1/\(oV P).1<1000000000000:=by
 unfold oV;split
 ·rename_i b a
  have:=(yP a).2;simp;omega
 ·simp
def CX(a:1<=e/\e<=1000000000000)(P:ByteArray):1<=gF e P/\gF e P<=1000000000000:=by
 have:=Bt P;unfold gF;split<;>omega
def EY:∀(a:List ByteArray) (P:Int),(1<=P/\P<=1000000000000)->1<=a.foldl gF P/\a.foldl gF P<=1000000000000
 |[],P,b=>b
 |s::a,P,b=>EY a _ (CX b s)
def Bu(P:List ByteArray):1<=tL P/\tL P<=1000000000000:=EY P 1 oM
def EZ{D:al}(s:Laid b)(i:aS b a f D):
  ZG 135 #[XL a] b (Ok λt e=>t= XH (tA D)/\ai b e):=by
 refine Ah (PC.ok (Bg i) ?_);rintro _ j ⟨u,d,z,G,rfl,k,l,A⟩;have B:D.list.length<=64:=by rw[tM];exact i.ok.many
 have C:=k.len dC;have v:Row Md 16 j G u d D.list:=k.row dC ba;refine⟨_,_,_,rfl,λm n o e=>∃P:Nat,o=P/\P<=d/\m=d-P/\n=tL (D.list.take P)/\ai j e,⟨_,0,rfl,Qj _,rfl,rfl,ak.refl _⟩,?_⟩;rintro m n o _ E ⟨P,rfl,F,rfl,rfl,c⟩;refine an.dec (λH=>?_) (λI=>?_)
 ·obtain⟨w,g,p,rfl,x,_,y⟩:=(v.ah c).lb (i:=P) oM
  refine⟨w,g,rfl,oM,oM,_,y,PC.ok (HU (s.ah (l.then c))) ?_⟩;rintro _ J ⟨rfl,q⟩;have K:=Bt p;have L:=Bu (D.list.take P);have r:tL (D.list.take (P+1))=gF (tL (D.list.take P)) p:=by
   unfold tL;rw[Qw,x,List.foldl_append];rfl
  refine⟨_,_,rfl,an.mk (λh=>⟨_,?_,P+1,aq oM,oM,rfl,?_,c.then q⟩) (λh=>⟨_,?_,P+1,aq oM,oM,rfl,?_,c.then q⟩)⟩
  ·omega
  ·rw[r,wrap_i64 bb]
   unfold gF;rw[Zx h];split<;>omega
  ·omega
  ·rw[r];unfold gF;rw[Zq (by simp[h])]
 ·obtain rfl:P=d:=oM
  rw[Qz oM];exact Ok.mk ⟨rfl,l.then c⟩
structure dS where
 size:Int
 bD:List Int
 bytes:Int
 next:Int
structure oW (w:World) (p q:Nat) (G:XN) (V:dS):Prop where
 body:∃a n c E,w.heap[q]? =some (.cells #[XL p,XH V.size,.slice a n c,XH V.bytes,XH V.next] 228 (0,0))/\aO aJ 3 E w a n c V.bD/\∀b,E b->G b/\b≠q
 self:G q
 aC:∀b,G b->b<w.heap.size
 many:V.bD.length<=64
 Bv:aP V.next
section
variable {w0 w w1 w':World} {p q:Nat} {D D':al} {V V':dS} {X Y G S:XN}
def oW.af(a:oW w p q G V)(b:ak S w w')(d:∀P,G P->¬S P):oW w' p q G V:=by
 obtain⟨f,g,h,i,j,k,e⟩:=a.body;exact⟨⟨f,g,h,i,b.get j (d q a.self),k.af b λP c=>d P (e P c).1,e⟩,a.self,λP c=>Qk (a.aC P c) b.size,a.many,a.Bv⟩
def oW.ah(P:oW w p q G V)(a:ai w w'):oW w' p q G V:=P.af a λ_ _ P=>P
def cw(w0 w:World)(p q:Nat)(V:dS)(D:al)(X:XN):Prop:=∃G,bC w0 w p D (λP=>X P\/G P)/\oW w p q G V/\∀P,G P->w0.heap.size<=P/\¬X P
def cw.gr(P:cw w0 w p q V D X):ai w0 w:=by obtain⟨G,a,b,c⟩:=P;exact a.gr
def cw.ok(P:cw w0 w p q V D X):D.Ok:=by obtain⟨G,a,b,c⟩:=P;exact a.ok
def cw.many(P:cw w0 w p q V D X):V.bD.length<=64:=by obtain⟨G,b,a,c⟩:=P;exact a.many
def cw.Bv(P:cw w0 w p q V D X):aP V.next:=by obtain⟨G,b,a,c⟩:=P;exact a.Bv
def cw.aC(a:cw w0 w p q V D X):∀P,X P->P<w.heap.size:=by obtain⟨G,⟨d,e,f,g,b⟩,h,i⟩:=a;exact λP c=>b P (.inl c)
def cw.Ti(a:cw w0 w p q V D X):q<w.heap.size/\w0.heap.size<=q/\¬X q:=by obtain⟨G,c,P,b⟩:=a;exact⟨P.aC q P.self,b q P.self⟩
def cw.u_(P:cw w0 w p q V D X):bC w0 w p D X:=by obtain⟨G,a,c,d⟩:=P;exact a.mono λe b=>.inl b
def cw.ah(a:cw w0 w p q V D X)(P:ai w w'):cw w0 w' p q V D X:=by
 obtain⟨G,b,c,d⟩:=a;exact⟨G,b.ah P,c.ah P,d⟩
def cw.mono(d:cw w0 w p q V D X)(b:∀P,Y P->X P):cw w0 w p q V D Y:=by
 obtain⟨G,e,f,c⟩:=d;exact⟨G,e.mono λP a=>a.imp (b P) id,f,λP a=>⟨(c P a).1,λg=>(c P a).2 (b P g)⟩⟩
def cw.add(f:cw w0 w p q V D X)(b:ai w w')(c:∀P,Y P->w.heap.size<=P/\P<w'.heap.size):cw w0 w' p q V D (λP=>X P\/Y P):=by
 obtain⟨G,g,d,e⟩:=f;refine⟨G,(g.add b c).mono λP a=>?_,d.ah b,λP a=>⟨(e P a).1,λh=>h.elim (e P a).2 λi=>by have:=d.aC P a;have:=(c P i).1;omega⟩⟩;rcases a with(a|a)|a
 ·exact .inl (.inl a)
 ·exact .inr a
 ·exact .inl (.inr a)
def cw.other(g:cw w0 w p q V D X)(b:ak Y w w')(c:∀P,Y P->X P/\w0.heap.size<=P):cw w0 w' p q V D X:=by
 obtain⟨G,⟨h,i,j,e,k⟩,l,f⟩:=g;exact⟨G,⟨h,i.af b λP a d=>(e P a).2 (.inl (c P d).1),j.new b λP a=>.inr (c P a).2,e,λP a=>Qk (k P a) b.size⟩,l.af b λP a d=>(f P a).2 (c P d).1,f⟩
def cw.on(e:cw w0 w p q V D X)(f:∀b,(∀P,X P->b P)->bC w0 w p D b->ZG y n w (Ok (tu w0 w p b d1))):ZG y n w (Ok λc w'=>c= XH d1.1/\cw w0 w' p q V d1.2 X/\ak (fA X) w w'):=by
 obtain⟨G,g,h,i⟩:=e;refine Calls.ok (f _ (λP a=>.inl a) g) ?_;rintro c w' ⟨j,k,d⟩;exact⟨j,⟨G,k,h.af d λP a l=>l (.inr a),i⟩,d.mono λP _ a m=>a (.inl m)⟩
def dS.last(V:dS):ByteArray:=dV (aM (V.bD.getLast?.getD 0))
def oW.row(e:oW w p q G V):∃a P c b,w.heap[q]? =some (.cells #[XL p,XH V.size,.slice a P c,XH V.bytes,XH V.next] 228 (0,0))/\Row aJ 8 w b a P V.bD/\(∀d,b d->G d/\d≠q)/\P=V.bD.length:=by
 obtain⟨a,P,c,b,g,f,h⟩:=e.body;have:=e.many;exact⟨a,P,c,b,g,f.row dC ba,h,f.len dC⟩
def E_(e:Laid w)(c:oW w p q G V)(f:V.bD≠[]):ZG 157 #[XL q] w (Ok λg w'=>g= .string V.last/\ai w w'):=by
 obtain⟨u,a,v,x,h,i,y,j⟩:=c.row;have z:0<V.bD.length:=List.length_pos_iff.2 f;have A:=c.many;refine sF λw1 k=>?_;have P:ai w w1:=k.af;have d:=P.get h id;have l:IntKind.wrap .i64 ((a:Int)-1)=((a-1:Nat):Int):=by rw[wrap_i64 bb];omega
 obtain⟨m,b,n,rfl,o,r,s⟩:=(i.ah P).lb (i:=a-1) oM;refine⟨q,0,rfl,_,_,_,ae d rfl,q,0,rfl,_,_,_,ae d rfl,m,b,rfl,?_⟩;rw[l];refine⟨oM,oM,n,s,PC.ok (lL (e.ah P) r) ?_⟩;rintro _ B ⟨rfl,t⟩;refine⟨_,rfl,Ok.mk ⟨?_,P.then t⟩⟩;unfold dS.last;rw[List.getLast?_eq_getElem?,<-j,o];rfl
def Fc(j:Laid w0)(g:cw w0 w p q V D X)(k:V.bD≠[]):ZG 92 #[XL q] w (Ok λl w'=>l= XH (D.sync V.last).1/\cw w0 w' p q V (D.sync V.last).2 X/\ak (fA X) w w'):=by
 refine sD λw1 m=>?_;have d:ai w w1:=m.af;have n:=g.ah d;obtain⟨G,o,P,h⟩:=n;obtain⟨y,z,A,B,r,C,E,i⟩:=P.row;have F:=h q P.self;have H:=P.aC q P.self;refine⟨λb=>b≠q/\¬X b,q,0,rfl,λs=>s.1 rfl,_,ae r rfl,PC.ok (E_ (j.ah (g.gr.then d)) P k) ?_⟩;rintro _ I ⟨rfl,c⟩;have t:=P.ah c;have u:=o.ah c;refine⟨_,rfl,c.af,PC.ok u.sync ?_⟩;rintro _ J ⟨rfl,v,e⟩;refine⟨_,rfl,e.mono λb _ a=>⟨λx=>a (.inr (x▸P.self)),λf=>a (.inl f)⟩,Ok.mk ⟨rfl,⟨G,v,t.af e λb a i=>i (.inr a),h⟩,?_⟩⟩;exact(ai.af (d.then c)).then (e.mono λb _ a f=>a (.inl f))
end
end
end Go.Proofs.YtblabbpipmodgaaGreatDoor
namespace Go.aw
open Go
def ng(P:Int×Int):Value:=.agg #[XH P.1,XH P.2]
def zN(P:Int×Int×Int):Value:=.agg #[XH P.1,XH P.2.1,XH P.2.2]
structure GJ (P:Program) (t ti:TypeId):Prop where
 hu:P.underlying t=some (.struct (P.fieldsOf t))
 ui:P.underlying ti=some (.int .i64)
 hf:∃n1 n2,(P.fieldsOf t).toList.map (λf=>(f.name,f.type,f.offset))=[(n1,ti,0),(n2,ti,1)]/\n1≠ "_"/\n2≠ "_"
 hp:P.stoodInHeld t=false
 hm:P.eqGuardType P.depth t=false
 ag:rN P ti=false
variable{R b7 e o:Int}{Q X:Operand}{m s:XR}{b:World}
section
variable {P:Program} {t ti:TypeId}
def GJ.equalIn(b:GJ P t ti)(f:Nat)(c d:Int×Int)(e:World):(Op.equalIn (f+2) t (ng c) (ng d)).run P e= .ok (c==d) e:=by
 obtain⟨v,w,a,g,h⟩:=b.hf;unfold ng;rw[run_equalIn_struct e (f+1) _ _ _ b.hu b.hp];generalize(P.fieldsOf t).toList=i at a
 match i,a with
 |[x,y],a=>
  simp only[QY,List.map_nil,List.cons.injEq,Prod.mk.injEq,and_true]at a;obtain⟨⟨j,k,l⟩,m,n,o⟩:=a;have p:(isAgg ti).run P e= .ok false e:=cP _ _ _ b.ag ⟨_,b.ui⟩ e;have q:=run_equalIn_int (P:=P) e f ti .i64 .i64 c.1 d.1 b.ui;have r:=run_equalIn_int (P:=P) e f ti .i64 .i64 c.2 d.2 b.ui;unfold Op.eqFields Op.eqFields Op.eqFields;rw[j,k,l,m,n,o];have s:(c==d)=(c.1==d.1&&c.2==d.2):=rfl;rw[s]
  cases b:c.1==d.1<;>simp[part,p,q,r,b,g,h]
  by_cases u:c.2=d.2<;>simp[u]
 |[],a=>simp at a
 |[_],a=>simp at a
 |_::_::_::_,a=>simp at a
def GJ.eql(a:GJ P t ti)(c:m (.bool (e==R&&o==b7)) b):
  aD P (do eqGuard .eql t Q X (.agg #[XH e,XH o]) (.agg #[XH R,XH b7]);binOp .eql t (.agg #[XH e,XH o]) (.agg #[XH R,XH b7]):Sem Value) b m s:=by
 refine aD.mk (v:=.bool (e==R&&o==b7)) ?_ c;rw[Sem.run_bind,run_eqGuard_agg b .eql _ Q X _ _ a.hm,Result.andThen_ok,run_eql_struct];have:=a.equalIn 9998 (e,o) (R,b7) b;unfold ng at this;rw[this];rfl
def GJ.neq(a:GJ P t ti)(c:m (.bool (!(e==R&&o==b7))) b):
  aD P (do eqGuard .neq t Q X (.agg #[XH e,XH o]) (.agg #[XH R,XH b7]);binOp .neq t (.agg #[XH e,XH o]) (.agg #[XH R,XH b7]):Sem Value) b m s:=by
 refine aD.mk (v:=.bool (!(e==R&&o==b7))) ?_ c;rw[Sem.run_bind,run_eqGuard_agg b .neq _ Q X _ _ a.hm,Result.andThen_ok,run_neq_struct];have:=a.equalIn 9998 (e,o) (R,b7) b;unfold ng at this;rw[this];rfl
def GJ.check(c:GJ P t ti)(e:Nat)(h:Int×Int)(b:World)(f:Bool):(Instr.checkKey f (e+2) t (ng h)).run P b= .ok () b:=by
 obtain⟨u,v,a,i,j⟩:=c.hf;have k:(isAgg ti).run P b= .ok false b:=cP _ _ _ c.ag ⟨_,c.ui⟩ b;have l:∀g:Int,(Instr.checkKey f (e+1) ti (XH g)).run P b= .ok () b:=λg=>by simp[Instr.checkKey,run_underlying c.ui]
 unfold ng;have m:=c.hu;unfold Instr.checkKey;rw[Sem.run_bind,run_underlying m,Result.andThen_ok];generalize w:P.fieldsOf t=d at a;obtain⟨d⟩:=d
 match d,a with
 |[x,y],a=>
  simp only[QY,List.map_nil,List.cons.injEq,Prod.mk.injEq,and_true]at a;obtain⟨⟨n,o,p⟩,q,r,s⟩:=a;simp[n,o,p,q,r,s,part,k,l,i,j]
 |[],a=>simp at a
 |[_],a=>simp at a
 |_::_::_::_,a=>simp at a
def GJ.key(a:GJ P t ti):gY P t ng:=
 gY.struct a.hu (λb c=>rfl) (λb c d=>a.equalIn 9998 b c d) (λe d f=>a.check 9998 e d f) (λg b=>by unfold ng;simp[Instr.sameBits]) λ{b c} a=>by
  unfold ng at a;simp only[Value.agg.injEq,Array.mk.injEq,List.cons.injEq,Value.int.injEq,and_true,true_and]at a;exact Prod.ext a.1 a.2
structure tW (P:Program) (t t2 ti:TypeId):Prop where
 two:GJ P t2 ti
 hu:P.underlying t=some (.struct (P.fieldsOf t))
 hf:∃n1 n2,(P.fieldsOf t).toList.map (λf=>(f.name,f.type,f.offset))=[(n1,t2,0),(n2,ti,2)]/\n1≠ "_"/\n2≠ "_"
 hp:P.stoodInHeld t=false
 ag:rN P t2=true
 sz:(P.info? t2).map (·.size)=some 2
variable {t2:TypeId}
def tW.NB(c:tW P t t2 ti)(b:Int×Int×Int)(a:World):(part t2 #[XH b.1,XH b.2.1,XH b.2.2] 0).run P a= .ok (ng (b.1,b.2.1)) a:=by
 obtain⟨h,d,e⟩:=Option.map_eq_some_iff.1 c.sz;have f:(isAgg t2).run P a= .ok true a:=cP _ _ _ c.ag ⟨_,c.two.hu⟩ a;have g:(sizeOf t2).run P a= .ok 2 a:=by simp[sizeOf,typeInfo,d,e]
 unfold part;simp[f,g,ng]
def tW.equalIn(e:tW P t t2 ti)(g:Nat)(a b:Int×Int×Int)(c:World):(Op.equalIn (g+3) t (zN a) (zN b)).run P c= .ok (a==b) c:=by
 obtain⟨A,B,d,i,j⟩:=e.hf;have k:=e.NB a c;have l:=e.NB b c;have h:=e.two.equalIn g (a.1,a.2.1) (b.1,b.2.1) c;have n:=run_equalIn_int (P:=P) c (g+1) ti .i64 .i64 a.2.2 b.2.2 e.two.ui;have o:(isAgg ti).run P c= .ok false c:=cP _ _ _ e.two.ag ⟨_,e.two.ui⟩ c;unfold zN;rw[run_equalIn_struct c (g+2) _ _ _ e.hu e.hp];generalize(P.fieldsOf t).toList=p at d
 match p,d with
 |[C,E],d=>
  simp only[QY,List.map_nil,List.cons.injEq,Prod.mk.injEq,and_true]at d;obtain⟨⟨q,r,s⟩,u,v,w⟩:=d;unfold Op.eqFields Op.eqFields Op.eqFields;rw[q,r,s,u,v,w];have x:(a==b)=(((a.1,a.2.1):Int×Int)==(b.1,b.2.1)&&a.2.2==b.2.2):=by
   show(a.1==b.1&&(a.2.1==b.2.1&&a.2.2==b.2.2))=((a.1==b.1&&a.2.1==b.2.1)&&a.2.2==b.2.2);rw[Bool.and_assoc]
  rw[x];have y:∀f:Int×Int×Int,(part ti #[XH f.1,XH f.2.1,XH f.2.2] 2).run P c= .ok (XH f.2.2) c:=λf=>by simp[part,o]
  cases m:((a.1,a.2.1):Int×Int)==(b.1,b.2.1)with
  |false=>
   rw[m]at h;simp[k,l,h,i,j]
  |true=>
   rw[m]at h;simp[k,l,h,n,y,i,j]
   by_cases z:a.2.2=b.2.2<;>simp[z]
 |[],d=>simp at d
 |[_],d=>simp at d
 |_::_::_::_,d=>simp at d
def tW.check(d:tW P t t2 ti)(e:Nat)(c:Int×Int×Int)(a:World)(f:Bool):(Instr.checkKey f (e+3) t (zN c)).run P a= .ok () a:=by
 obtain⟨x,y,b,i,j⟩:=d.hf;have k:=d.NB c a;have l:(isAgg ti).run P a= .ok false a:=cP _ _ _ d.two.ag ⟨_,d.two.ui⟩ a;have m:∀h:Int,(Instr.checkKey f (e+2) ti (XH h)).run P a= .ok () a:=λh=>by simp[Instr.checkKey,run_underlying d.two.ui]
 have n:=d.two.check e (c.1,c.2.1) a f;have o:(part ti #[XH c.1,XH c.2.1,XH c.2.2] 2).run P a= .ok (XH c.2.2) a:=by simp[part,l]
 unfold zN;have p:=d.hu;rw[show e+3=(e+2)+1 from rfl];unfold Instr.checkKey;rw[Sem.run_bind,run_underlying p,Result.andThen_ok];generalize z:P.fieldsOf t=g at b;obtain⟨g⟩:=g
 match g,b with
 |[A,B],b=>
  simp only[QY,List.map_nil,List.cons.injEq,Prod.mk.injEq,and_true]at b;obtain⟨⟨q,r,s⟩,u,v,w⟩:=b;simp[q,r,s,u,v,w,k,o,n,m,i,j]
 |[],b=>simp at b
 |[_],b=>simp at b
 |_::_::_::_,b=>simp at b
def tW.key(a:tW P t t2 ti):gY P t zN:=
 gY.struct a.hu (λb c=>rfl) (λb c d=>a.equalIn 9997 b c d) (λe d f=>a.check 9997 e d f) (λg b=>by unfold zN;simp[Instr.sameBits]) λ{b c} a=>by
  unfold zN at a;simp only[Value.agg.injEq,Array.mk.injEq,List.cons.injEq,Value.int.injEq,and_true,true_and]at a;exact Prod.ext a.1 (Prod.ext a.2.1 a.2.2)
end
end Go.aw
namespace Go.Proofs.YtblabbpipmodgaaGreatDoor
open Go.aw
abbrev BM:Int×Int->Value:=ng
def IP:GJ XP 39 3:=⟨kR,kR,⟨ "Origin", "Seq",kR,dC,dC⟩,kR,kR,kR⟩
def SI:gY XP 39 BM:=IP.key
abbrev pW:aj:=⟨0,0,0,[],0,0,0,0,0,0⟩
abbrev iP(P:aj)(a:ZH)(b c:Nat):Value:=.agg (aB P a b c).toArray
def Nr:np XP 181 39 55 (iP pW none 0 0):=⟨kR,kR⟩
def jg{d:World}{D:XN}:∀{P:List Int} {cs:List Value},bA aJ d D P cs↔cs=ints P/\∀x∈P,aP x
 |[],cs=>by simp[bA,ints]
 |x::P,cs=>by
  constructor
  ·rintro⟨h,i,rfl,⟨rfl,e⟩,f⟩
   obtain⟨rfl,g⟩:=jg.1 f;exact⟨rfl,λb a=>by rcases Q2.1 a with rfl|a;exact e;exact g b a⟩
  ·rintro⟨rfl,c⟩
   exact⟨[XH x],ints P,rfl,⟨rfl,c x (QV ..)⟩,jg.2 ⟨rfl,λb a=>c b (QJ _ a)⟩⟩
variable{e:Int}{t:List Int}{J a c i q:Nat}{f:XN}{d:ZH}{g:TypeId}{u:Value}{b k:World}{x:XU}{l:aj}
def Ns(h:aO aJ g f b d a c t)(n:i<t.length)(o:aP e)(p:d=some ⟨q,J,none⟩)(j:∀P,aO aJ g f P d a c (t.set i e)->ak (λq=>aE d=some q) b P->P.heap.size=b.heap.size->x P):PS b ⟨q,J+i,none⟩ (XH e) x:=by
 obtain⟨cs,D,r,s,u⟩:=h.body;obtain⟨rfl,k⟩:=jg.1 s;refine r.set (m:=i) (by rw[nY];exact n) p λP v w m=>j P ⟨⟨_,D,v,jg.2 ⟨?_,?_⟩,u⟩,h.self,λq k=>by rw[m];exact h.aC q k⟩ w m
 ·unfold ints;rw[List.map_set]
 ·intro y l
  rcases List.mem_or_eq_of_mem_set l with l|rfl
  ·exact k y l
  ·exact o
def Pj(c:World)(D:XN)(d:Value)(P:aj):Prop:=∃a b e,d=iP P a b e/\Row aJ 8 c D a b P.aK/\P.Ok
def Pj.af{S D:XN}(a:Pj b D u l)(c:ak S b k)(d:∀P,D P->¬S P):Pj k D u l:=by
 obtain⟨e,f,g,h,i,j⟩:=a;exact⟨e,f,g,h,i.af c d,j⟩
def Pj.mono{D P:XN}(c:Pj b D u l)(d:∀a,D a->P a):Pj b P u l:=by
 obtain⟨e,f,g,h,i,j⟩:=c;exact⟨e,f,g,h,i.mono d,j⟩
def zj:pW.Ok:=by constructor<;>simp[aP]
def kY{D:XN}(i:Row aJ 8 b D d a l.aK)(u:∀P,D P->P<b.heap.size):
  ZG 142 #[iP l d a c] b (Ok λv j=>∃d a c G,v=iP l d a c/\Row aJ 8 j G d a l.aK/\(∀P,G P->b.heap.size<=P/\P<j.heap.size)/\ai b j):=by
 have w:=i.dE;have x:=i.len;refine wx (PA.mk λA o B f=>PA.mk λC g E k=>⟨_,_,_,ae (g.get f id) rfl,PC.ok (cm (i.ah (o.then g)) λP e=>by have:=u P e;omega) ?_⟩);rintro _ F ⟨p,q,r,G,rfl,s,h,m⟩;have f:=h.get (g.get f id) id;have k:=h.get k id;refine⟨_,_,_,rfl,PS.mk f (by simp[aB]) λH n I y=>?_⟩;refine au (cs:=aB l p q r) (aU _ _ _ _) y (aA (aU _ _ _ _) (n.get k oM) rfl λJ t K z=>au (aU _ _ _ _) z (Ok.mk ⟨p,q,r,G,rfl,?_,?_,?_⟩))
 ·refine(((s.af n λP e=>?_).af t λP e=>?_).row (bytes:=8) dC (by rw[<-x];exact w))
  ·have:=m P e;omega
  ·have:=m P e;omega
 ·intro P e
  have:=m P e;have:=s.aC P e;omega
 ·have L:=h.size
  exact((ak.new ((o.then g).then h) n λP e=>.inr oM).new t λP e=>.inr oM)
structure Nt where
 a:ZH
 n:Nat
 c:Nat
 r:Nat
 V:XN
 D:XN
 l:List ((Int×Int)×Value)
 L:List ((Int×Int)×aj)
structure pA (w:World) (p:Nat) (F:XN) (S:ar) (q:Nt):Prop where
 at':w.heap[p]? =some (.cells #[.slice q.a q.n q.c,.map (some q.r),XH S.top] 183 (0,0))
 vec:aO aJ 3 q.V w q.a q.n q.c S.vec
 map:bX w q.r BM q.l
 rel:eT (Pj w q.D) q.l q.L
 key:∀x∈q.L,x.1=aI x.2
 Sl:(q.L.map (·.2)).Perm S.l
 aC:∀b,F b->b<w.heap.size
 sub:∀b,b=p\/b=q.r\/q.V b\/q.D b->F b
 Sm:p≠q.r
 Rv:¬q.V p/\¬q.V q.r
 Sn:¬q.D p/\¬q.D q.r
 TK:∀b,q.V b->¬q.D b
def cu(a:World)(b:Nat)(c:XN)(P:ar):Prop:=P.OK/\∃d,pA a b c P d
section
variable {w w' w1:World} {p:Nat} {F T:XN} {S:ar} {q:Nt}
def pA.af(P:pA w p F S q)(b:ak T w w')(d:∀a,F a->¬T a):pA w' p F S q:=
 ⟨b.get P.at' (d p (P.sub p (.inl rfl))),P.vec.af b λa c=>d a (P.sub a (.inr (.inr (.inl c)))),P.map.af b (d _ (P.sub _ (.inr (.inl rfl)))),
  P.rel.mono λf g e=>e.af b λa c=>d a (P.sub a (.inr (.inr (.inr c)))),P.key,P.Sl,λa c=>Qk (P.aC a c) b.size,P.sub,P.Sm,P.Rv,P.Sn,P.TK⟩
def pA.ah(P:pA w p F S q)(a:ai w w'):pA w' p F S q:=P.af a λ_ _ P=>P
def cu.af(P:cu w p F S)(b:ak T w w')(c:∀a,F a->¬T a):cu w' p F S:=⟨P.1,P.2.imp λq d=>d.af b c⟩
def cu.ah(P:cu w p F S)(a:ai w w'):cu w' p F S:=P.af a λ_ _ P=>P
def cu.aC(a:cu w p F S):∀P,F P->P<w.heap.size:=a.2.elim λq b=>b.aC
def pA.tidy(P:pA w p F S q):Tidy q.L:=by
 have:=P.map.tidy;unfold Tidy at*;rw[<-P.rel.keys];exact this
def pA.len(P:pA w p F S q):q.n=S.n:=by rw[P.vec.len dC,S.bJ]
def pA.Sp(P:pA w p F S q)(a:S.OK):Row aJ 8 w q.V q.a q.n S.vec:=P.vec.row dC (by rw[S.bJ];have:=a.n;unfold aN;omega)
def pA.look(a:pA w p F S q)(d:S.OK)(P:Int×Int):(az q.l P=none/\S.get P=none)\/∃b c,az q.l P=some b/\S.get P=some c/\Pj w q.D b c:=by
 rw[<-Gn d a.key a.Sl a.tidy P];exact a.rel.az P
def jV(P:cu w p F S):ZG 48 #[XL p] w (Ok (nX aJ 3 w S.vec)):=by
 obtain⟨a,q,P⟩:=P;refine ur ⟨p,0,rfl,_,_,_,ae P.at' rfl,PC.ok (cm (P.Sp a) λb c=>P.vec.aC b c) ?_⟩;rintro _ j ⟨d,e,f,G,rfl,g,h,i⟩;exact⟨_,_,_,rfl,Ok.mk ⟨d,e,f,G,rfl,g,h,i⟩⟩
def DA(P:cu w p F S):ZG 90 #[XL p] w (Ok λa w'=>a= XH S.top/\w=w'):=by
 obtain⟨b,q,P⟩:=P;exact ux ⟨p,0,rfl,_,ae P.at' rfl,Ok.mk ⟨rfl,rfl⟩⟩
def Nu(r:cu w p F S){D:XN}(s:Row aJ 8 w D d a l.aK)(he:l.Ok)(hn:l.aK.length=S.n){o:Nat}(ho:o<S.n):
  ZG 141 #[XL p,iP l d a c,XH (o:Int)] w (Ok λk w'=>k= .bool (S.jo l o)/\ai w w'):=by
 obtain⟨t,q,r⟩:=r;have b1:=s.len;have hN:=t.n;refine sE (PA.mk λw1 j s1 L=>?_);have Z:=s.ah j;obtain⟨u,v,g,ha,hx,-,hc⟩:=Z.lb (i:=o) oM;have M:l.aK.getD o 0=g:=by rw[QQ,hx];rfl
 refine⟨_,_,_,ae L rfl,u,v,ha,oM,oM,g,hc,an.eB (λx=>Ok.mk ⟨?_,j⟩) (λx=>?_)⟩
 ·unfold ar.jo;simp only[M,x];rfl
 have y:=r.ah j;have e:∀{z:Bool} {w':World},ai w w'->(match S.get (o,g)with
  |none=>false
  |some b=>decide (b.ax<l.ax)&&(List.range b.aK.length).all λi=>decide (b.aK.getD i 0<=l.aK.getD i 0))=z->Ok (λk w'=>k= .bool (S.jo l o)/\ai w w') (.returned (.bool z)) w':=λ{z w'} hg hy=>by
  refine Ok.mk ⟨?_,hg⟩;unfold ar.jo;simp only[M];rw[<-hy,show(g==0)=false by simpa using x]
  rfl
 refine⟨p,0,rfl,_,ae y.at' rfl,lr (enc:=BM) (k:=((o:Int),g)) Nr SI y.map ?_⟩;rcases y.look t (o,g)with⟨A,h⟩|⟨k,b,A,h,N,m,O,rfl,a0,b2⟩
 ·rw[A]
  refine bN (pT pW none 0 0) ⟨_,rfl,PA.mk λw2 B s2 C=>aA (aU pW none 0 0) C rfl λE H s3 I=>an.tt rfl (e (j.then ((B.then (ak.refl _)).new H λu hb=>.inr oM)) ?_)⟩;rw[h]
 ·rw[A]
  refine bN (pT b N m O) ⟨_,rfl,PA.mk λw2 B s2 C=>aA (aU b N m O) C rfl λE H s3 I=>an.ff rfl ?_⟩;have J:ai w1 E:=(B.then (ak.refl _)).new H λu hb=>.inr oM;have n:=j.then J;have Q:=J.get L id;have a1:=ar.get_some h;have b3:b.aK.length=S.n:=by have:=gZ (t.Pw b a1.1);omega
  refine⟨_,ae I rfl,_,ae Q rfl,an.dec (λhl=>e n ?_) (λhl=>?_)⟩
  ·rw[h]
   simp only[Bool.and_eq_false_iff,decide_eq_false_iff_not];left;omega
  have a2:=s.ah n;have R:=a0.ah J;have b6:=R.len;refine⟨_,_,_,ae I rfl,λT i w'=>∃P:Nat,i=P/\P<=m/\T=m-P/\(∀f,f<P->b.aK.getD f 0<=l.aK.getD f 0)/\E=w',⟨_,0,rfl,Qj _,rfl,λf K=>oM,rfl⟩,?_⟩;rintro T i _ _ ⟨P,rfl,hj,rfl,U,rfl⟩;refine an.dec (λb7=>?_) (λb8=>?_)
  ·obtain⟨b4,o4,V,a3,a4,-,a5⟩:=R.lb (i:=P) oM
   obtain⟨b5,o5,W,a6,a7,-,a8⟩:=a2.lb (i:=P) oM;have X:b.aK.getD P 0=V:=by rw[QQ,a4];rfl
   have Y:l.aK.getD P 0=W:=by rw[QQ,a7];rfl
   refine⟨b4,o4,a3,oM,oM,V,a5,_,_,_,ae Q rfl,b5,o5,a6,oM,oM,W,a8,an.dec (λa9=>e n ?_) (λb9=>?_)⟩
   ·rw[h]
    simp only[Bool.and_eq_false_iff];right;rw[List.all_eq_false];exact⟨P,by simp;omega,by rw[X,Y];simpa using a9⟩
   ·refine⟨_,oM,P+1,aq oM,oM,rfl,λf K=>?_,rfl⟩
    by_cases b0:f=P
    ·subst b0;rw[X,Y];omega
    ·exact U f oM
  ·refine e n ?_
   rw[h];simp only[QK,ZY,Zk];exact⟨oM,λf K=>U f (by simp at K;omega)⟩
def NS(e:cu w p F S)(k:Int×Int):
  ZG 232 #[XL p,BM k] w (Ok λz w'=>∃c d f G,z= .tuple #[iP ((S.get k).getD pW) c d f,.bool (S.get k).isSome]/\Row aJ 8 w' G c d ((S.get k).getD pW).aK/\(∀P,G P->w.heap.size<=P/\P<w'.heap.size)/\ai w w'):=by
 obtain⟨L,q,e⟩:=e;obtain⟨i,j⟩:=k;refine uL (PA.mk λw1 M s1 l=>PA.mk λA B s2 u=>λm C=>?_);have v:ai A m:=C.af;have s3:m.heap.size=A.heap.size:=by rw[C.heap]
 have l:=v.get (B.get l id) id;have u:=v.get u id;have E:=(M.then B).then v;have x:=e.ah E;have a2:=e.map.lt;have a3:=ay e.at';obtain⟨b,c,d,f,P,g,h,H,N,O⟩:∃(b:aj) (c:ZH) (d f:Nat) (P:Bool),(az q.l (i,j)).getD (iP pW none 0 0)=iP b c d f/\(az q.l (i,j)).isSome=P/\(S.get (i,j)).getD pW=b/\(S.get (i,j)).isSome=P/\Row aJ 8 m q.D c d b.aK:=by
  rcases x.look L (i,j)with⟨g,h⟩|⟨z,Q,g,h,R,T,U,rfl,V,a4⟩
  ·exact⟨pW,none,0,0,false,by rw[g];rfl,by rw[g];rfl,by rw[h];rfl,by rw[h];rfl,Row.nil _ _⟩
  ·exact⟨Q,R,T,U,true,by rw[g];rfl,by rw[g];rfl,by rw[h];rfl,by rw[h];rfl,V⟩
 have I:∀P,q.D P->P<w.heap.size:=λP a=>e.aC P (e.sub P (.inr (.inr (.inr a))));refine⟨λP=>P=m.heap.size,p,0,rfl,oM,_,ae x.at' rfl,oM,_,_,ae l rfl,ae l rfl,bN (pT b c d f) ⟨P,λw' W=>?_,PA.mk λw4 n s4 X=>⟨ai.af n,aA (aU b c d f) X rfl λw5 o s5 Y=>⟨o,?_⟩⟩⟩⟩
 ·have:=ep Nr SI (x.map.af W oM) (i,j) true
  rw[g,h]at this;exact this
 have Z:=(O.ah n).af o λP a hn=>by have:=I P a;omega
 refine au (aU b c d f) Y (PC.ok (kY Z λP a=>by have:=I P a;omega) ?_);rintro _ w6 ⟨r,s,t,G,rfl,a0,J,y⟩;have a1:=y.get (o.get (n.get u id) oM) id;have z6:=y.size;refine bN (pT b r s t) ⟨rfl,aA (aU b r s t) a1 rfl λw7 K s7 g7=>au (aU b r s t) g7 (Ok.mk ⟨r,s,t,G,by rw[H,N],?_,?_,?_⟩)⟩
 ·rw[H];exact a0.af K λP a hn=>by have:=J P a;omega
 ·intro P a;have:=J P a;omega
 ·exact(((E.then n).new o λP a=>.inr oM).then y).new K λP a=>.inr oM

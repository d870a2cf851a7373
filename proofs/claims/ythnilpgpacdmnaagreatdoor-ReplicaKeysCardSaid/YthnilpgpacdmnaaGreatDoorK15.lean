import Derived.Shelf.SlSortCmp.WholeK
import Derived.Shelf.SlMaps.Clone
import Derived.Ground.SlsfProg
import Derived.Ground.SlmcProg
import Derived.Shelf.SlGeneric
import Derived.Test.YthnilpgpacdmnaaGreatDoorK14
import Derived.Shelf.SlSortCmp.NoneTotal
namespace Go.au
open Go
set_option linter.unusedVariables false
def Uq (b a:Value):Bool:=match b with
 | .int c _=>match a with
  | .int d _=>decide (d=c)
  |_=>false
 | .bool _=>match a with
  | .bool _=>true
  |_=>false
 | .string _=>match a with
  | .string _=>true
  |_=>false
 | .slice _ _ _=>match a with
  | .slice _ _ _=>true
  |_=>false
 | .pointer _=>match a with
  | .pointer _=>true
  |_=>false
 | .map _=>match a with
  | .map _=>true
  |_=>false
 |_=>true
def S_:List Value->List Value->Bool
 |[],[]=>true
 |z::a,b::c=>Uq z b&&S_ a c
 |_,_=>false
def Pw (z a:Value):Bool:=match z with
 | .agg b=>match a with
  | .agg cs=>S_ b.toList cs.toList
  |_=>false
 |z=>Uq z a
variable{r:Array Value}{a c:Nat}{F:Nat×Nat}{h:Program}{g q:TypeId}{c0 v:Value}{R:Value->Prop}{b:World}{y:World->Prop}
theorem Ph {φ:Value->Prop} (b:Uq v c0=true) (a:φ c0):Nc v φ:=by
 unfold Nc
 cases v<;>cases c0<;>simp [Uq]at b<;>first
  |exact⟨_,a⟩
  |exact⟨_,_,_,a⟩
  |(subst b;exact⟨_,a⟩)
theorem Ki:∀{b cs:List Value} {φ:List Value->Prop},S_ b cs=true->φ cs->Ou b φ
 |[],[],φ,_,c=>c
 |[],_::_,φ,a,_=>by simp [S_]at a
 |_::_,[],φ,a,_=>by simp [S_]at a
 |z::b,d::f,φ,a,c=>by
  simp only [S_,QK]at a;exact Ph (φ:=λd=>Ou b λe=>φ (d::e)) a.1 (Ki (φ:=λe=>φ (d::e)) a.2 c)
theorem bF (a:Pw v c0=true) (b:R c0):xC v R:=by
 unfold xC;split
 ·rename_i e
  cases c0<;>simp [Pw]at a
  rename_i cs;exact Ki (φ:=λc=>R (.agg c.toArray)) a (by simpa using b)
 ·rename_i d
  refine Ph ?_ b
  cases v<;>first|exact a|exact absurd rfl (d _)
theorem xm {d:World} {e:Addr} {f:Prop}:∀{cs:List Value} {a:Nat},(∀b v,cs[b]? =some v->d.cell? (e.add (a+b))=some v)->f->gy d e a cs f
 |[],a,_,c=>c
 |v::j,a,g,c=>⟨g 0 v rfl,xm (λb h i=>by have:=g (b+1) h (by simpa using i);rwa [show a+1+b=a+(b+1) by omega]) c⟩
def gP (a:Program) (b:TypeId) (cs:List Value):Bool:=sQ a b&&(match dT a b with
 | .agg c=>Nat.beq (kK a b) c.size&&S_ c.toList cs
 |_=>false)&&Nat.beq cs.length (kK a b)&&cs.all Value.oneCell'
theorem Kj {cs:List Value} (i:gP h g cs=true) (k:∀e f,cs[e]? =some f->b.cell? ⟨a,c+e,none⟩=some f) (l:R (.agg cs.toArray)):
  nR h g (.pointer (some ⟨a,c,none⟩)) b R:=by
 simp only [gP,QK]at i;obtain⟨⟨⟨m,d⟩,o⟩,p⟩:=i;unfold nR;simp only [m]
 revert d
 cases dT h g<;>simp only [Bool.false_eq_true,false_implies]
 rename_i q;intro d;simp only [QK]at d;simp only [d.1];exact Ki (φ:=λj=>gy b ⟨a,c,none⟩ 0 j (R (.agg j.toArray))) d.2 (xm (λe f n=>by rw [Xz,Addr.add_lit];exact k e f n) l)
theorem ar {cs:List Value} (c:gP h g cs=true) (d:b.heap[a]? =some (.cells cs.toArray q F)) (e:R (.agg cs.toArray)):
  nR h g (.pointer (some ⟨a,0,none⟩)) b R:=Kj c (λi j f=>ae d (by rw [Xz];simpa using f)) e
theorem SM {cs:List Value} (f:gP h g cs=true) (i:b.heap[a]? =some (.cells r q F)) (j:∀d e,cs[d]? =some e->r[c+d]? =some e) (k:R (.agg cs.toArray)):
  nR h g (.pointer (some ⟨a,c,none⟩)) b R:=Kj f (λd e l=>ae i (j d e l)) k
theorem bq {c d k:Nat} {es:List Value} (f:gP h g es=true) (i:es.length=k) (j:∀a,a<k->b.cell? ⟨c,d+a,none⟩=es[a]?) (l:R (.agg es.toArray)):
  nR h g (.pointer (some ⟨c,d,none⟩)) b R:=Kj f (λa m e=>by rw [j a (by rw [<-i];exact(Qv.1 e).1)];exact e) l
theorem DD {d f:Nat} {i:TypeId} {j:World->Prop}:∀(c:List Value) (b:Nat) {a:World} {cs:Array Value},a.heap[d]? =some (.cells cs i (0,0))->f+b+c.length<=cs.size->
  (∀e,ak (·=d) a e->e.heap.size=a.heap.size->e.heap[d]? =some (.cells (Bm cs (f+b) c) i (0,0))->j e)->iq ⟨d,f,none⟩ b c a j
 |[],b,a,cs,g,k,h=>h a (ak.refl _) rfl g
 |v::c,b,a,cs,g,k,h=>by
  unfold iq;rw [Addr.add_lit];rw [Xq]at k;exact PS.mk g oM λs l m n=>DD c (b+1) n (by simp;omega) λo p q r=>h o (l.then p) (q.trans m) r
theorem Ta {cs:List Value} (e:gP h g cs=true) (f:b.heap[a]? =some (.cells r q (0,0))) (o:c+cs.length<=r.size)
  (i:∀d,ak (·=a) b d->d.heap.size=b.heap.size->d.heap[a]? =some (.cells (Bm r c cs) q (0,0))->y d):xu h g (.pointer (some ⟨a,c,none⟩)) (.agg cs.toArray) b y:=by
 simp only [gP,QK]at e;obtain⟨⟨⟨j,p⟩,k⟩,l⟩:=e;unfold xu;have m:Nat.beq cs.toArray.size (kK h g)=true:=by simpa using k
 have n:cs.toArray.toList.all Value.oneCell'=true:=by simpa using l
 simp only [j,m,n];exact DD cs 0 f oM i
theorem az {cs:List Value} (d:gP h g cs=true) (e:b.heap[a]? =some (.cells r q (0,0))) (f:cs.length=r.size)
  (i:∀c,ak (·=a) b c->c.heap.size=b.heap.size->c.heap[a]? =some (.cells cs.toArray q (0,0))->y c):xu h g (.pointer (some ⟨a,0,none⟩)) (.agg cs.toArray) b y:=
 Ta d e oM λc j k l=>i c j k (by rw [l,DB f])
end Go.au
namespace Go.Proofs
open Go.Shelf
def Tryz.MS:Go.Shelf.Ren:=⟨λ|6=>142|15=>202|14=>201|28=>271|29=>272|20=>263|21=>264|22=>265|23=>266|24=>267|25=>268|26=>269|27=>270|46=>302|47=>303|48=>304|49=>305|50=>306|57=>333|n=>n,λ|22=>40|24=>60|25=>237|3=>3|39=>305|0=>0|53=>351|55=>353|4=>4|46=>345|45=>344|50=>216|5=>5|9=>9|66=>380|70=>368|76=>405|77=>406|n=>n,λ|n=>n⟩
theorem Tryz.RO:Go.Proofs.SlLaysF0.n6 Tryz.prog Tryz.MS:={
 mixed:=by kernel_rfl
 f6:=⟨Tryz.f142.name,by decide,Tryz.func142.trans (congrArg some (by kernel_rfl))⟩
 f14:=⟨Tryz.f201.name,by decide,Tryz.func201.trans (congrArg some (by kernel_rfl))⟩
 f15:=Tryz.func202.trans (congrArg some (by kernel_rfl))
 f20:=⟨Tryz.f263.name,by decide,Tryz.func263.trans (congrArg some (by kernel_rfl))⟩
 f21:=⟨Tryz.f264.name,by decide,Tryz.func264.trans (congrArg some (by kernel_rfl))⟩
 f22:=⟨Tryz.f265.name,by decide,Tryz.func265.trans (congrArg some (by kernel_rfl))⟩
 f23:=⟨Tryz.f266.name,by decide,Tryz.func266.trans (congrArg some (by kernel_rfl))⟩
 f24:=⟨Tryz.f267.name,by decide,Tryz.func267.trans (congrArg some (by kernel_rfl))⟩
 f25:=⟨Tryz.f268.name,by decide,Tryz.func268.trans (congrArg some (by kernel_rfl))⟩
 f26:=⟨Tryz.f269.name,by decide,Tryz.func269.trans (congrArg some (by kernel_rfl))⟩
 f27:=⟨Tryz.f270.name,by decide,Tryz.func270.trans (congrArg some (by kernel_rfl))⟩
 f28:=Tryz.func271.trans (congrArg some (by kernel_rfl))
 f29:=Tryz.func272.trans (congrArg some (by kernel_rfl))
 f46:=⟨Tryz.f302.name,by decide,Tryz.func302.trans (congrArg some (by kernel_rfl))⟩
 f47:=Tryz.func303.trans (congrArg some (by kernel_rfl))
 f48:=Tryz.func304.trans (congrArg some (by kernel_rfl))
 f49:=⟨Tryz.f305.name,by decide,Tryz.func305.trans (congrArg some (by kernel_rfl))⟩
 f50:=⟨Tryz.f306.name,by decide,Tryz.func306.trans (congrArg some (by kernel_rfl))⟩
 f57:=⟨Tryz.f333.name,by decide,Tryz.func333.trans (congrArg some (by kernel_rfl))⟩
 t0:=Tryz.underlying0
 a0:=Tryz.isAgg0
 z0:=Tryz.sizeOf0
 v0:=Tryz.zeroValue0
 t3:=Tryz.underlying3
 a3:=Tryz.isAgg3
 z3:=Tryz.sizeOf3
 v3:=Tryz.zeroValue3
 t4:=Tryz.underlying4
 a4:=Tryz.isAgg4
 z4:=Tryz.sizeOf4
 v4:=Tryz.zeroValue4
 t5:=Tryz.underlying5
 a5:=Tryz.isAgg5
 z5:=Tryz.sizeOf5
 v5:=Tryz.zeroValue5
 t9:=Tryz.underlying9
 a9:=Tryz.isAgg9
 z9:=Tryz.sizeOf9
 v9:=Tryz.zeroValue9
 t22:=Tryz.underlying40
 a22:=Tryz.isAgg40
 z22:=Tryz.sizeOf40
 v22:=Tryz.zeroValue40
 t25:=Tryz.underlying237
 a25:=Tryz.isAgg237
 z25:=Tryz.sizeOf237
 v25:=Tryz.zeroValue237
 t39:=Tryz.underlying305
 a39:=Tryz.isAgg305
 z39:=Tryz.sizeOf305
 v39:=Tryz.zeroValue305
 t45:=Tryz.underlying344
 a45:=Tryz.isAgg344
 z45:=Tryz.sizeOf344
 v45:=Tryz.zeroValue344
 t46:=Tryz.underlying345
 a46:=Tryz.isAgg345
 z46:=Tryz.sizeOf345
 v46:=Tryz.zeroValue345
 t50:=Tryz.underlying216
 a50:=Tryz.isAgg216
 z50:=Tryz.sizeOf216
 v50:=Tryz.zeroValue216
 t53:=Tryz.underlying351
 a53:=Tryz.isAgg351
 z53:=Tryz.sizeOf351
 v53:=Tryz.zeroValue351
 t55:=Tryz.underlying353
 a55:=Tryz.isAgg353
 z55:=Tryz.sizeOf353
 v55:=Tryz.zeroValue353
 t66:=Tryz.underlying380
 a66:=Tryz.isAgg380
 z66:=Tryz.sizeOf380
 v66:=Tryz.zeroValue380
 t70:=Tryz.underlying368
 a70:=Tryz.isAgg368
 z70:=Tryz.sizeOf368
 v70:=Tryz.zeroValue368
 t76:=Tryz.underlying405
 a76:=Tryz.isAgg405
 z76:=Tryz.sizeOf405
 v76:=Tryz.zeroValue405
 t77:=Tryz.underlying406
 a77:=Tryz.isAgg406
 z77:=Tryz.sizeOf406
 v77:=Tryz.zeroValue406}
def Tryz.MT:Go.Shelf.Ren:=⟨λ|6=>390|15=>202|14=>392|28=>271|29=>272|20=>393|21=>394|22=>395|23=>396|24=>397|25=>398|26=>399|27=>400|46=>401|47=>303|48=>304|49=>402|50=>403|57=>404|n=>n,λ|22=>53|24=>262|25=>445|3=>3|39=>305|0=>0|53=>351|55=>353|4=>4|46=>345|45=>344|50=>216|5=>5|9=>9|66=>380|70=>368|76=>405|77=>406|n=>n,λ|n=>n⟩
theorem Tryz.RP:Go.Proofs.SlLaysF0.n6 Tryz.prog Tryz.MT:={
 mixed:=by kernel_rfl
 f6:=⟨Tryz.f390.name,by decide,Tryz.func390.trans (congrArg some (by kernel_rfl))⟩
 f14:=⟨Tryz.f392.name,by decide,Tryz.func392.trans (congrArg some (by kernel_rfl))⟩
 f15:=Tryz.func202.trans (congrArg some (by kernel_rfl))
 f20:=⟨Tryz.f393.name,by decide,Tryz.func393.trans (congrArg some (by kernel_rfl))⟩
 f21:=⟨Tryz.f394.name,by decide,Tryz.func394.trans (congrArg some (by kernel_rfl))⟩
 f22:=⟨Tryz.f395.name,by decide,Tryz.func395.trans (congrArg some (by kernel_rfl))⟩
 f23:=⟨Tryz.f396.name,by decide,Tryz.func396.trans (congrArg some (by kernel_rfl))⟩
 f24:=⟨Tryz.f397.name,by decide,Tryz.func397.trans (congrArg some (by kernel_rfl))⟩
 f25:=⟨Tryz.f398.name,by decide,Tryz.func398.trans (congrArg some (by kernel_rfl))⟩
 f26:=⟨Tryz.f399.name,by decide,Tryz.func399.trans (congrArg some (by kernel_rfl))⟩
 f27:=⟨Tryz.f400.name,by decide,Tryz.func400.trans (congrArg some (by kernel_rfl))⟩
 f28:=Tryz.func271.trans (congrArg some (by kernel_rfl))
 f29:=Tryz.func272.trans (congrArg some (by kernel_rfl))
 f46:=⟨Tryz.f401.name,by decide,Tryz.func401.trans (congrArg some (by kernel_rfl))⟩
 f47:=Tryz.func303.trans (congrArg some (by kernel_rfl))
 f48:=Tryz.func304.trans (congrArg some (by kernel_rfl))
 f49:=⟨Tryz.f402.name,by decide,Tryz.func402.trans (congrArg some (by kernel_rfl))⟩
 f50:=⟨Tryz.f403.name,by decide,Tryz.func403.trans (congrArg some (by kernel_rfl))⟩
 f57:=⟨Tryz.f404.name,by decide,Tryz.func404.trans (congrArg some (by kernel_rfl))⟩
 t0:=Tryz.underlying0
 a0:=Tryz.isAgg0
 z0:=Tryz.sizeOf0
 v0:=Tryz.zeroValue0
 t3:=Tryz.underlying3
 a3:=Tryz.isAgg3
 z3:=Tryz.sizeOf3
 v3:=Tryz.zeroValue3
 t4:=Tryz.underlying4
 a4:=Tryz.isAgg4
 z4:=Tryz.sizeOf4
 v4:=Tryz.zeroValue4
 t5:=Tryz.underlying5
 a5:=Tryz.isAgg5
 z5:=Tryz.sizeOf5
 v5:=Tryz.zeroValue5
 t9:=Tryz.underlying9
 a9:=Tryz.isAgg9
 z9:=Tryz.sizeOf9
 v9:=Tryz.zeroValue9
 t22:=Tryz.underlying53
 a22:=Tryz.isAgg53
 z22:=Tryz.sizeOf53
 v22:=Tryz.zeroValue53
 t25:=Tryz.underlying445
 a25:=Tryz.isAgg445
 z25:=Tryz.sizeOf445
 v25:=Tryz.zeroValue445
 t39:=Tryz.underlying305
 a39:=Tryz.isAgg305
 z39:=Tryz.sizeOf305
 v39:=Tryz.zeroValue305
 t45:=Tryz.underlying344
 a45:=Tryz.isAgg344
 z45:=Tryz.sizeOf344
 v45:=Tryz.zeroValue344
 t46:=Tryz.underlying345
 a46:=Tryz.isAgg345
 z46:=Tryz.sizeOf345
 v46:=Tryz.zeroValue345
 t50:=Tryz.underlying216
 a50:=Tryz.isAgg216
 z50:=Tryz.sizeOf216
 v50:=Tryz.zeroValue216
 t53:=Tryz.underlying351
 a53:=Tryz.isAgg351
 z53:=Tryz.sizeOf351
 v53:=Tryz.zeroValue351
 t55:=Tryz.underlying353
 a55:=Tryz.isAgg353
 z55:=Tryz.sizeOf353
 v55:=Tryz.zeroValue353
 t66:=Tryz.underlying380
 a66:=Tryz.isAgg380
 z66:=Tryz.sizeOf380
 v66:=Tryz.zeroValue380
 t70:=Tryz.underlying368
 a70:=Tryz.isAgg368
 z70:=Tryz.sizeOf368
 v70:=Tryz.zeroValue368
 t76:=Tryz.underlying405
 a76:=Tryz.isAgg405
 z76:=Tryz.sizeOf405
 v76:=Tryz.zeroValue405
 t77:=Tryz.underlying406
 a77:=Tryz.isAgg406
 z77:=Tryz.sizeOf406
 v77:=Tryz.zeroValue406}
def Tryz.Kh:Go.Shelf.Ren:=⟨λ|5=>283|7=>314|n=>n,λ|23=>271|25=>3|3=>262|4=>4|20=>20|n=>n,λ|n=>n⟩
theorem Tryz.SN:Go.Proofs.SlLaysW.n5 Tryz.prog Tryz.Kh:={
 mixed:=by kernel_rfl
 f5:=⟨Tryz.f283.name,by decide,Tryz.func283.trans (congrArg some (by kernel_rfl))⟩
 f7:=Tryz.func314.trans (congrArg some (by kernel_rfl))
 t4:=Tryz.underlying4
 a4:=Tryz.isAgg4
 z4:=Tryz.sizeOf4
 v4:=Tryz.zeroValue4
 t20:=Tryz.underlying20
 a20:=Tryz.isAgg20
 z20:=Tryz.sizeOf20
 v20:=Tryz.zeroValue20
 t23:=Tryz.underlying271
 a23:=Tryz.isAgg271
 z23:=Tryz.sizeOf271
 v23:=Tryz.zeroValue271}
end Go.Proofs
namespace Go.Proofs.YthnilpgpacdmnaaGreatDoor
open Go.au Go.Sort
set_option linter.unusedVariables false
set_option maxRecDepth 20000
theorem aV (a:aj) (b:Option Addr) (c d:Nat):gP Tryz.prog 60 (aB a b c d)=true:=kR
theorem qB (a:aj) (b:Option Addr) (c d:Nat):Pw (dT Tryz.prog 60) (.agg (aB a b c d).toArray)=true:=kR
def G (a b:World):Prop:=∃c d,b=grow (a.drewN c) d
variable{E e n:Int}{d7:Int×Int}{h6:List ((Int×Int)×aj)}{H e5:List aj}{a c i l:Nat}{f:Nat->Prop}{d0:Obj}{d p:Option Addr}{g:TypeId}{a8 b k:World}{y:World->Prop}{N m:aj}{B:aw}
theorem G.then (f:G b k) (g:G k a8):G b a8:=by
 obtain⟨a,c,rfl⟩:=f;obtain⟨d,e,rfl⟩:=g;exact⟨a+d,c++e,by show grow (grow ((b.drewN a).drewN d) c) e=_;rw [grow_grow,World.drewN_drewN]⟩
theorem G.af {S:Nat->Prop} (a:G b k):ak S b k:=by
 obtain⟨f,c,rfl⟩:=a;refine⟨rfl,rfl,rfl,by simp [grow],λd e _=>?_⟩;show(b.heap++c)[d]? =_;rw [Array.getElem?_append_left e]
theorem G.drew (a:bd b k):G b k:=by obtain⟨c,rfl⟩:=a;exact⟨c,#[],sM⟩
theorem PA.Uc (c:∀a,G b a->a.heap.size=b.heap.size+1->a.heap[b.heap.size]? =some d0->y a):PA b d0 y:=
 c (b.alloc d0) ⟨0,#[d0],by rw [alloc_eq_grow];rfl⟩ sM (heap_alloc_new b d0)
theorem isNaN :Calls Tryz.prog 273 #[.int .i64 e] b (Ok λa c=>a= .bool false/\b=c):=xV (Ok.mk ⟨sM,rfl⟩)
def Ia (a b:Int):Int:=if a<b then-1 else if b<a then 1 else 0
theorem fN :Calls Tryz.prog 204 #[.int .i64 e,.int .i64 n] b (Ok λd f=>d= .int .i64 (Ia e n)/\b=f):=by
 refine tJ (PC.ok isNaN ?_);rintro _ _ ⟨rfl,rfl⟩;refine⟨_,rfl,PC.ok isNaN ?_⟩;rintro _ _ ⟨rfl,rfl⟩;refine⟨_,rfl,al.ff rfl (al.ff rfl (al.dec (λa=>Ok.mk ⟨by unfold Ia;rw [if_pos a],rfl⟩) (λa=>al.dec (λc=>Ok.mk ⟨by unfold Ia;rw [if_neg a,if_pos c],rfl⟩) (λc=>Ok.mk ⟨by unfold Ia;rw [if_neg a,if_neg c],rfl⟩))))⟩
def Li:List Int->Int
 |[]=>0
 |x::a=>if x≠0 then x else Li a
theorem Nr (s:b.heap[a]? =some (.cells #[.int .i64 e,.int .i64 n,.int .i64 E] g (0,0))):
  Calls Tryz.prog 203 #[.slice (some ⟨a,0,none⟩) 3 3] b (Ok λj h=>j= .int .i64 (Li [e,n,E])/\b=h):=by
 refine Em ⟨λm f h=>∃c:Nat,f=c/\c<=3/\m=3-c/\Li [e,n,E]=Li ([e,n,E].drop c)/\b=h,⟨_,0,rfl,oM,rfl,rfl,rfl⟩,?_⟩;rintro m f _ _ ⟨c,rfl,x,rfl,k,rfl⟩;refine al.dec (λt=>?_) (λt=>?_)
 ·have u:∀i:Int,[e,n,E][c]? =some i->∃o p,(some ⟨a,0,none⟩:Option Addr)=some ⟨o,p,none⟩/\(0:Int)<=c/\(c:Int)<((3:Nat):Int)/\∃l:Int,b.cell? ⟨o,p+Int.toNat c,none⟩=some (.int .i64 l)/\al (l !=0) (Ok (λj h=>j= .int .i64 (Li [e,n,E])/\b=h) (.returned (.int .i64 l)) b) (∃q,q<3-c/\∃f:Nat,IntKind.wrap .i64 ((c:Int)+1)=f/\f<=3/\q=3-f/\Li [e,n,E]=Li ([e,n,E].drop f)/\b=b):=by
   intro i d;have r:[e,n,E].drop c=i::[e,n,E].drop (c+1):=by
    rw [X4 (by simp;omega)];congr 1;simpa using(Qv.1 d).2
   refine⟨a,0,rfl,oM,oM,i,ae s ?_,al.df (λv=>Ok.mk ⟨?_,rfl⟩) (λw=>⟨_,oM,c+1,aq oM,oM,rfl,?_,rfl⟩)⟩
   ·rw [Xz]
    match c,d with
    |0,d=>simp at d;simp [d]
    |1,d=>simp at d;simp [d]
    |2,d=>simp at d;simp [d]
    |c+3,d=>simp at d
   ·rw [k,r,Li,if_pos v]
   ·rw [k,r,Li,if_neg (by simpa using w)]
  have d:c<[e,n,E].length:=by simp;omega
  exact u [e,n,E][c] (by simp [d])
 ·obtain rfl:c=3:=oM
  exact Ok.mk ⟨by rw [k];rfl,rfl⟩
theorem Gg (a b:aj):Li [Ia a.ax b.ax,Ia a.origin b.origin,Ia a.seq b.seq]=rf a b:=by
 unfold rf dP Ia Li Li Li Li
 by_cases f:a.ax<b.ax
 ·simp [f]
 by_cases i:b.ax<a.ax
 ·simp [f,i];omega
 have c:a.ax=b.ax:=oM
 by_cases g:a.origin<b.origin
 ·simp [c,g]
 by_cases j:b.origin<a.origin
 ·simp [c,g,j];omega
 have d:a.origin=b.origin:=oM
 by_cases e:a.seq<b.seq
 ·simp [c,d,e]
 by_cases h:b.seq<a.seq
 ·simp [c,d,e,h]
 ·simp [c,d,e,h]
theorem Bj :Calls Tryz.prog 143 #[.agg (aB m d a c).toArray,.agg (aB N p i l).toArray] b (Ok λk n=>k= .int .i64 (rf m N)/\G b n):=by
 refine vy (PA.Uc λu o v q=>PA.Uc λw h x r=>λy s=>⟨λ_=>False,?_⟩);have e:=G.drew s;have f:=(e.af (S:=λ_=>False)).get ((h.af (S:=λ_=>False)).get q id) id;have g:=(e.af (S:=λ_=>False)).get r id;refine⟨_,ae f rfl,_,ae g rfl,id,_,ae f rfl,id,_,ae g rfl,id,_,ae f rfl,id,_,ae g rfl,PC.ok fN ?_⟩;rintro _ _ ⟨rfl,rfl⟩;refine⟨_,rfl,ak.refl _,PC.ok fN ?_⟩;rintro _ _ ⟨rfl,rfl⟩;refine⟨_,rfl,ak.refl _,PC.ok fN ?_⟩;rintro _ _ ⟨rfl,rfl⟩;refine⟨_,rfl,ak.refl _,PA.Uc λz j A t=>⟨j.af,PC.ok (Nr t) ?_⟩⟩;rintro _ _ ⟨rfl,rfl⟩;exact⟨_,rfl,ak.refl _,Ok.mk ⟨by rw [Gg],((o.then h).then e).then j⟩⟩
structure Pe where
 e:aj
 a:Option Addr
 n:Nat
 c:Nat
instance:Inhabited Pe:=⟨⟨⟨0,0,0,[],0,0,0,0,0,0⟩,none,0,0⟩⟩
def encS (a:Pe):List Value:=aB a.e a.a a.n a.c
theorem Pf (b:Pe):∀c∈encS b,c.oneCell'=true:=by
 intro d a;simp only [encS,aB,Q2,List.not_mem_nil,or_false]at a;rcases a with rfl|rfl|rfl|rfl|rfl|rfl|rfl|rfl|rfl|rfl<;>rfl
theorem yB (a b:Pe):ltOf (λa b:Pe=>rf a.e b.e) a b=dP a.e b.e:=by
 unfold ltOf rf
 cases c:dP a.e b.e
 ·cases d:dP b.e a.e<;>simp [c,d]
 ·simp [c]
theorem iB :dP m N=true↔m.ax<N.ax\/m.ax=N.ax/\(m.origin<N.origin\/m.origin=N.origin/\m.seq<N.seq):=by simp [dP]
theorem sZ :dP m N=false↔¬(m.ax<N.ax\/m.ax=N.ax/\(m.origin<N.origin\/m.origin=N.origin/\m.seq<N.seq)):=by rw [<-iB];simp
theorem Ud:SWO (ltOf λa b:Pe=>rf a.e b.e) where
 irrefl a:=by rw [yB,sZ];omega
 trans a b z h1 h2:=by rw [yB,iB]at*;omega
 ntrans a b z h1 h2:=by rw [yB,sZ]at*;omega
theorem _root_.Go.au.bu.evs {f:World} {D:Nat->Prop}:∀{c:List aj} {cs:List Value},bu f_ f D c cs->∃b:List Pe,b.map (·.e)=c/\cs=b.flatMap encS/\∀a∈b,Row aG 8 f D a.a a.n a.e.aN/\a.e.Ok
 |[],_,g=>⟨[],rfl,g,sM⟩
 |e::c,_,⟨s,t,h,⟨i,j,k,l,m,n⟩,o⟩=>by
  obtain⟨b,p,q,r⟩:=Go.au.bu.evs o;refine⟨⟨e,i,j,k⟩::b,by simp [p],by rw [h,l,q];rfl,?_⟩;intro a d;rcases Q2.1 d with rfl|d
  ·exact⟨m,n⟩
  ·exact r a d
theorem _root_.Go.au.bu.Pg {c:World} {D:Nat->Prop}:∀{a:List Pe},(∀x∈a,Row aG 8 c D x.a x.n x.e.aN/\x.e.Ok)->bu f_ c D (a.map (·.e)) (a.flatMap encS)
 |[],_=>rfl
 |x::a,b=>⟨encS x,a.flatMap encS,rfl,⟨x.a,x.n,x.c,rfl,(b x (QV ..)).1,(b x (QV ..)).2⟩,Go.au.bu.Pg λd e=>b d (QJ _ e)⟩
theorem qi {b:List Pe} (c:a<b.length*10):(b.flatMap encS)[a]? =(encS b[a/10]!)[a % 10]? :=by
 induction b generalizing a with
 |nil=>simp at c
 |cons f b g=>
  have h:(encS f).length=10:=rfl;rw [List.flatMap_cons]
  by_cases d:a<10
  ·rw [XW oM,Nat.div_eq_of_lt d,Nat.mod_eq_of_lt d];rfl
  ·rw [X8 oM,h,g (by simp at c;omega)]
   obtain⟨e,rfl⟩:∃e,a=e+10:=⟨a-10,oM⟩
   rw [Nat.add_sub_cancel,Nat.add_div_right _ dC,Nat.add_mod_right];simp
theorem fT (a:List Pe):(a.flatMap encS).length=a.length*10:=by
 induction a with
 |nil=>rfl
 |cons b a c=>rw [List.flatMap_cons,QX,c];have d:(encS b).length=10:=rfl;rw [d];simp;omega
theorem Bk (a:List Pe):(flatK encS 10 a.toArray).toList=a.flatMap encS:=by
 apply X3;intro b
 by_cases c:b<a.length*10
 ·rw [qi c]
  have f:b<(flatK encS 10 a.toArray).size:=by simpa using c
  have d:=get_flatK encS 10 a.toArray b (by simpa using c);rw [getElem!_pos _ b f]at d;have g:(encS a[b/10]!).length=10:=rfl;have e:b % 10<(encS a[b/10]!).length:=by rw [g];omega
  rw [Qq (by simpa using c),Qq e]
  congr 1
  rw [Array.getElem_toList,d];rw [getElem!_pos _ _ (by simpa using e)]
  congr 1
  simp
 ·rw [Q7 (by simpa using c),Q7 (by rw [fT];omega)]
def Bi (a:List aj):Prop:=a.Pairwise λb c=>dP c b=false
theorem HY (n:aO f_ 60 f b d a c H) (u:H.length<=20000000):
  Calls Tryz.prog 142 #[.slice d a c,.func (.func 143) #[] #[]] b (Ok λN v=>N= .tuple #[]/\∃B,B.Perm H/\Bi B/\aO f_ 60 f v d a c B/\ak (λo=>aF d=some o) b v):=by
 obtain⟨cs,D,C,Z,O⟩:=n.body;obtain⟨g,E,rfl,a4⟩:=Z.evs;have F:=n.len dC;have w:g.length=a:=by rw [F,<-E];simp
 rcases C.cases with⟨rfl,rfl,rfl,h0⟩|⟨i,k,rfl,x,P,I,Q⟩
 ·have hd:g=[]:=QW w
  refine(AnyF.slices_SortFunc_none Tryz.RO none 0 _ b).mono ?_;rintro q v ⟨rfl,rfl⟩;exact Ok.mk ⟨rfl,H,List.Perm.refl _,by rw [<-E,hd];exact List.Pairwise.nil,n,ak.refl _⟩
 ·have R:f_.k=10:=rfl
  rw [R]at Q I;have a5:flatK encS 10 g.toArray=(g.flatMap encS).toArray:=by rw [<-Bk]
  have hH:HoldsK encS 10 b i 0 g.toArray:=by
   intro l r;rw [size_flatK]at r;simp only [List.size_toArray]at r;have S:l<(g.flatMap encS).length:=by rw [fT];exact r
   refine⟨?_,by simp [World.frozen?,x]⟩;have m:(flatK encS 10 g.toArray)[l]! =(g.flatMap encS)[l]:=by
    rw [a5,getElem!_pos _ l (by simpa using S)];simp
   rw [m,Xz];refine ae x ?_;have j:(k.toList.take (a*10))[l]? =some (g.flatMap encS)[l]:=by rw [Q];exact Qq S
   rw [Xw,if_pos oM]at j;simpa using j
  have u:=C.row;have J:c<=maxLen:=by
   obtain⟨_,a0,_,T,_,_,_,J,_⟩:=C.row.2.resolve_left (by rintro⟨n,_⟩;cases n);simp only [XX]at T;rw [T.2.2];exact J
  have a6:g.toArray.size<4611686018427387904:=by
   simp only [List.size_toArray,w];omega
  have U:=AnyQ.slices_SortFunc Tryz.RO 10 (λb=>cK _ _ _ kR ⟨_,Tryz.underlying60⟩ b) (λb=>Tryz.sizeOf60 b) encS (λ_=>rfl) Pf (λy V=>rf y.e V.e) Ud 143 #[] i 0 c g.toArray b
   (enters_of Tryz.func143 kR rfl) (λb0 s dk b1 y V=>(Bj).mono ?_) hH (ay x) a6
  ·rw [show g.toArray.size=a by simpa using w]at U
   refine U.mono ?_;rintro q v ⟨rfl,h,z,s,hp,hs,rfl⟩;obtain⟨p1,p2,W⟩:=hp;have e:h.size=a:=p1.trans (by simpa using w);have X:h.toList.Perm g:=by
    have m:h.extract 0 a=h:=by rw [<-e];exact Array.extract_size
    have j:g.toArray.extract 0 a=g.toArray:=by rw [show a=g.toArray.size by simpa using w.symm];exact Array.extract_size
    rw [m,j]at W;exact W
   have a1:flatK encS 10 h=(h.toList.flatMap encS).toArray:=by rw [<-Bk]
   have K:(sortWorldK encS 10 b i 0 z h s).heap[i]? =some (.cells (putCells id 0 (flatK encS 10 h) k) 60 (0,0)):=by
    have a7:=ay x;show((Sort.ahead b z).heap.modify i _++s)[i]? =_;rw [Array.getElem?_append_left (by simpa [Sort.ahead]using a7),Array.getElem?_modify,if_pos rfl];show Option.map _ b.heap[i]? =_;rw [x];rfl
   have A:ak (λo=>aF (some ⟨i,0,none⟩)=some o) b (sortWorldK encS 10 b i 0 z h s):=by
    refine⟨rfl,rfl,rfl,?_,λa2 A F=>?_⟩
    ·show b.heap.size<=((Sort.ahead b z).heap.modify i _++s).size
     simp [Sort.ahead]
    ·show((Sort.ahead b z).heap.modify i _++s)[a2]? =_
     rw [Array.getElem?_append_left (by simpa [Sort.ahead]using A),Array.getElem?_modify,if_neg (λq=>F (by rw [q];rfl))]
     rfl
   have a3:(putCells id 0 (flatK encS 10 h) k).size=c*10:=by unfold putCells;rw [Array.size_mapIdx];exact I
   refine Ok.mk ⟨rfl,h.toList.map (·.e),by rw [<-E];exact X.map _,?_,⟨⟨h.toList.flatMap encS,D,⟨⟨?_,.inr ⟨i,c,_,rfl,Qj _,K,P,J,a3,?_⟩⟩⟩,bu.Pg λy hx=>?_,O⟩,n.self,λo u=>Qk (n.aC o u) A.size⟩,A⟩
   ·unfold Bi
    rw [List.pairwise_map,List.pairwise_iff_getElem];intro Y l hi r a8;have m:=hs Y l (Qj _) a8 (by simpa [e]using r);rw [yB,getElem!_pos _ l (by simpa using r),getElem!_pos _ Y (by simpa using hi)]at m;simpa using m
   ·rw [fT,XK,e];rfl
   ·apply X3
    intro t;rw [R,Xw];split
    ·rename_i p
     rw [qi (by rw [XK,e];exact p),<-qi (by rw [XK,e];exact p)];unfold putCells;have a9:t<k.size:=by rw [I];exact Qk p (Q0 _ P)
     rw [Array.getElem?_toList,Array.getElem?_mapIdx,X6 a9];simp only [Option.map_some];have L:t<(flatK encS 10 h).size:=by rw [size_flatK,e];exact p
     rw [if_pos ⟨Qj _,by rw [Xz];exact L⟩,Nat.sub_zero,getElem!_pos _ t L];have:(flatK encS 10 h)[t]=(h.toList.flatMap encS)[t]'(by rw [fT,XK,e];exact p):=by
      have j:=congrArg (·[t]?) a1;simp only [List.getElem?_toArray]at j;rw [X6 L,Qq (by rw [fT,XK,e];exact p)]at j;exact XJ j
     rw [this];exact(Qq _).symm
    ·rename_i p
     rw [Q7 (by rw [fT,XK,e];omega)]
   ·have M:y∈g:=X.mem_iff.1 hx
    obtain⟨m,j⟩:=a4 y M;exact⟨m.af A λo u q=>(O o u).2 q,j⟩
  ·rintro q v ⟨N,rfl,rfl,hG⟩
   exact⟨rfl,hG⟩
open Go.au
abbrev RV (a:List aj):Prop:=a.Pairwise λb c=>dP b c=true
structure aw.OK (S:aw):Prop where
 n:S.n<=64
 Ns:RV S.l
 ids:(S.l.map aR).Nodup
 Ul:∀e∈S.l,cD e S.n=0
 ok:∀e∈S.l,e.Ok
theorem DQ (b:aR m≠aR N):dP m N=true\/dP N m=true:=by
 rw [iB,iB];have:¬(m.origin=N.origin/\m.seq=N.seq):=λa=>b (by unfold aR;rw [a.1,a.2]);omega
theorem rY {a b c:aj} (d:dP a b=true) (e:dP b c=true):dP a c=true:=by rw [iB]at*;omega
theorem lI (a:dP m N=true):dP N m=false:=by rw [iB]at a;rw [sZ];omega
theorem cW (b:aj):∀a,(de b a).Perm (b::a)
 |[]=>List.Perm.refl _
 |x::a=>by
  unfold de;split
  ·exact List.Perm.refl _
  ·exact(List.Perm.cons x (cW b a)).trans (List.Perm.swap b x a)
theorem vd {e:aj}:∀{b},RV b->(∀x∈b,aR x≠aR e)->RV (de e b)
 |[],_,_=>by unfold de;exact List.pairwise_singleton ..
 |x::b,f,g=>by
  obtain⟨h,i⟩:=List.pairwise_cons.1 f;unfold de;split
  ·rename_i d
   exact List.pairwise_cons.2 ⟨λc a=>by
    rcases Q2.1 a with rfl|a
    ·exact d
    ·exact rY d (h c a),f⟩
  ·rename_i d
   refine List.pairwise_cons.2 ⟨λc a=>?_,vd i λc a=>g c (QJ _ a)⟩;rcases Q2.1 ((cW e b).mem_iff.1 a)with rfl|a
   ·exact(DQ (g x (QV ..))).resolve_right (by simpa using d)
   ·exact h c a
theorem Kg (i:Bi H) (j:RV e5) (d:H.Perm e5) (k:(H.map aR).Nodup):H=e5:=by
 refine d.eq_of_pairwise (le:=λb a=>dP a b=false) (λb a l m e f=>?_) i (j.imp λh=>lI h)
 by_cases g:aR b=aR a
 ·have c:a∈H:=d.mem_iff.2 m
  obtain⟨p,n,rfl⟩:=List.getElem_of_mem l;obtain⟨q,o,rfl⟩:=List.getElem_of_mem c;have:=(List.getElem_inj (xs:=H.map aR) (h₀:=by simpa using n) (h₁:=by simpa using o) k).1 (by simpa using g);subst this;rfl
 ·rcases DQ g with h|h
  ·rw [h]at f;cases f
  ·rw [h]at e;cases e
theorem Rg (b:(H.map aR).Nodup) (a:m∈H):H.find? (λc=>aR c==aR m)=some m:=by
 induction H with
 |nil=>cases a
 |cons c H d=>
  simp only [QY,List.nodup_cons]at b;rcases Q2.1 a with rfl|a
  ·simp
  ·have e:aR c≠aR m:=λf=>b.1 (f▸Xk.2 ⟨m,a,rfl⟩)
   rw [List.find?_cons_of_neg (by simpa using e)];exact d b.2 a
theorem aw.get_some (a:B.get d7=some m):m∈B.l/\aR m=d7:=
 ⟨List.mem_of_find?_eq_some a,by simpa using List.find?_some a⟩
theorem aw.get_none (b:B.get d7=none):∀a∈B.l,aR a≠d7:=λa c=>by
 have:=List.find?_eq_none.1 b a c;simpa using this
theorem aw.OK.get (a:B.OK) (b:m∈B.l):B.get (aR m)=some m:=Rg a.ids b
theorem HX (i:B.OK) (e:∀a∈h6,a.1=aR a.2) (f:(h6.map (·.2)).Perm B.l) (m:Tidy h6) (b:Int×Int):aD h6 b=B.get b:=by
 cases c:aD h6 b with
 |none=>
  rw [qu]at c
  symm
  refine List.find?_eq_none.2 λd j=>?_;obtain⟨a,g,rfl⟩:=Xk.1 (f.mem_iff.2 j);intro k;exact c (Xk.2 ⟨a,g,by rw [e a g];simpa using k⟩)
 |some d=>
  have h:=bQ c;have l:b=aR d:=e _ h;have:d∈B.l:=f.mem_iff.1 (Xk.2 ⟨_,h,rfl⟩);rw [l,i.get this]
theorem wv (b:List aj) (a:Int):b.foldl (λa c=>max a c.ax) a=max a (b.foldl (λa c=>max a c.ax) 0)\/a<0:=by
 induction b generalizing a with
 |nil=>simp;omega
 |cons d b e=>
  rw [List.foldl_cons,List.foldl_cons]
  by_cases g:a<0
  ·exact .inr g
  ·rcases e (max a d.ax)with h|h
   ·rcases e (max 0 d.ax)with f|f
    ·left;rw [h,f];omega
    ·omega
   ·omega
theorem aw.Rb (a:aw) (b:aj):aw.top ⟨a.n,de b a.l⟩=max a.top b.ax:=by
 show(de b a.l).foldl _ _=_;rw [(cW b a.l).foldl_eq' (λc _ d _ e=>oM),List.foldl_cons];rcases wv a.l (max 0 b.ax)with h|h
 ·rw [h]
  show max (max 0 b.ax) a.top=_;have:0<=a.top:=by
   rcases wv a.l 0 with h|h
   ·unfold aw.top;omega
   ·omega
  omega
 ·omega
theorem aw.Al (a:aw):0<=a.top:=by
 rcases wv a.l 0 with h|h
 ·unfold aw.top;omega
 ·omega
theorem lN (b:cD m a=0):0<=m.origin/\m.origin<a/\1<=m.seq/\1<=m.ax/\0<=m.agg/\0<=m.key/\m.aN.length=a/\(∀c∈m.aN,0<=c)/\m.aN.getD m.origin.toNat 0=nE (m.seq-1)/\1<=m.op/\m.op<=5/\0<=m.aT/\m.aT<8/\0<=m.field/\m.field<8:=by
 unfold cD at b;split at b
 ·simp at b
 ·rename_i d
  split at b
  ·simp at b
  ·rename_i e
   split at b
   ·simp at b
   ·rename_i i
    split at b
    ·simp at b
    ·rename_i j
     simp only [not_or,List.any_eq_true,decide_eq_true_eq,not_exists,not_and]at d;obtain⟨k,l,n,c,o,f⟩:=d;refine⟨oM,oM,oM,oM,oM,oM,oM,λg h=>by have:=f g h;omega,by simpa using e,oM,oM,oM,oM,oM,oM⟩
theorem aw.DX (a:aw) (b:aj) (c:Nat):aw.s_ ⟨a.n,de b a.l⟩ c=a.s_ c+if b.origin=(c:Int)then 1 else 0:=by
 unfold aw.s_;show(de b a.l).countP _=_;rw [(cW b a.l).countP_eq,List.countP_cons]
 congr 1
 simp
theorem aw.EG (a:aw) (b:Nat):a.s_ b<=a.l.length:=List.countP_le_length
theorem aw.br (a:aw):a.vec.length=a.n:=by simp [aw.vec]
theorem aw.jv (b:aw) (c:a<b.n):b.vec[a]? =some (b.s_ a:Int):=by simp [aw.vec,c]
theorem aw.iA (S:aw) (b:a<S.n):S.vec.getD a 0=(S.s_ a:Int):=by rw [QQ,S.jv b];rfl
theorem aw.Re (b:aw) (d:aj) (g:d.origin=(a:Int)):aw.vec ⟨b.n,de d b.l⟩=b.vec.set a (b.s_ a+1:Int):=by
 apply X3;intro e
 by_cases c:e<b.n
 ·rw [aw.jv ⟨b.n,de d b.l⟩ c,aw.DX,Xj,b.jv c,b.br]
  by_cases f:a=e
  ·subst f;simp [g,c]
  ·rw [if_neg f,if_neg oM];simp
 ·rw [Q7 (by rw [aw.br];exact Nat.le_of_not_lt c),Q7 (by rw [List.length_set,b.br];omega)]
theorem aw.add_def (a:aw) (b:aj):a.add b=if cD b a.n≠0 then(cD b a.n,a)else if(a.get (aR b)).isSome then(16,a)else
 if b.seq≠(a.vec.getD b.origin.toNat 0)+1 then(9,a)else if(List.range a.n).any λc=>!a.iz b c then(9,a)else(0,⟨a.n,de b a.l⟩):=rfl
theorem aw.yI (a:B.OK) (h:m.Ok):(B.add m).2.OK/\(B.add m).2.n=B.n:=by
 rw [aw.add_def]
 by_cases d:cD m B.n=0
 rotate_left
 ·rw [if_pos d];exact⟨a,rfl⟩
 rw [if_neg (by simpa using d)]
 by_cases e:(B.get (aR m)).isSome=true
 ·rw [if_pos e];exact⟨a,rfl⟩
 rw [if_neg e];split
 ·exact⟨a,rfl⟩
 split
 ·exact⟨a,rfl⟩
 have g:B.get (aR m)=none:=by simpa using e
 have f:=cW m B.l;refine⟨⟨a.n,vd a.Ns (aw.get_none g),?_,?_,?_⟩,rfl⟩
 ·refine(f.map aR).nodup_iff.2 ?_
  rw [QY,List.nodup_cons];exact⟨λi=>by obtain⟨c,b,j⟩:=Xk.1 i;exact aw.get_none g c b j,a.ids⟩
 ·intro c b
  rcases Q2.1 (f.mem_iff.1 b)with rfl|b
  ·exact d
  ·exact a.Ul c b
 ·intro c b
  rcases Q2.1 (f.mem_iff.1 b)with rfl|b
  ·exact h
  ·exact a.ok c b
theorem aw.rV (b:a<=64):aw.OK ⟨a,[]⟩:=⟨b,List.Pairwise.nil,sM,sM,sM⟩
end Go.Proofs.YthnilpgpacdmnaaGreatDoor
namespace Go.au
open Go
set_option linter.unusedVariables false
def wj (a:List Int):List UInt8:=bJ ((a.length:Int)::a)
def qs (a:List Int):List UInt8:=fE 2 (wj a)
def ns (a:List UInt8):List Int×ki:=bf (bW 64 ⟨a,0,0⟩).1.toNat (bW 64 ⟨a,0,0⟩).2
def iW (a:List UInt8):Option (List Int):=
 if(bk a).no≠0\/(bk a).n≠a.length\/(bk a).kind≠2 then none else if jO (ns (bk a).body).2≠0 then none else some (ns (bk a).body).1
theorem Dg (a:List UInt8):(∀b∈(ns a).1,aK b)/\(ns a).1.length<=64/\(ns a).2.Fit:=by
 obtain⟨c,g,h,i⟩:=ki.Fit.count (r:=⟨a,0,0⟩) ⟨Qj _,.inl rfl⟩ (m:=64) oM;obtain⟨d,e,f,j⟩:=c.ints (bW 64 ⟨a,0,0⟩).1.toNat;exact⟨e,by show(bf _ _).1.length<=64;rw [f];omega,d⟩
variable{u:List Int}{x:List UInt8}
theorem Mu (a:iW x=some u):(∀b∈u,aK b)/\u.length<=64:=by
 unfold iW at a;split at a
 ·cases a
 split at a
 ·cases a
 ·cases a
  exact⟨(Dg _).1,(Dg _).2.1⟩
theorem Df (c:∀a∈u,aK a) (d:u.length<=64):(wj u).length<=585:=by
 have:=eV (l:=(u.length:Int)::u) (by
  intro a b;rcases Q2.1 b with rfl|b
  ·unfold aK;omega
  ·exact c a b)
 unfold wj;rw [Xq]at this;omega
theorem AO (a:List Int):(qs a).length=(wj a).length+9:=jS _ _
end Go.au
namespace Go.Proofs.YthnilpgpacdmnaaGreatDoor
open Go.au
set_option maxRecDepth 100000
set_option linter.unusedVariables false
def qW:fq:=⟨[(2,[])],[],[],[],[(4,⟨[0,0,2,4,8,0,0,64,128,256,512,0,2048,4096,8192,17408,32800,65536,131088,262145],[1048575,1048575,1048573,1048571,1048567,1048575,1048575,1048511,1048447,1048319,1048063,1048575,1046527,1044479,1040383,1031167,1015775,983039,917487,786430],[0,0,0,0,1,0,0,0,0,1,0,0,0,0,1,0,0,0,0,2]⟩)]⟩
variable{w:ByteArray}{t:Ending->World->Prop}{e:Int}{a:Nat}{f:Nat->Prop}{d:Option Addr}{j:Type}{b:World}
theorem qX 
  (M:(∃m n,d=some ⟨m,n,none⟩/\(∃(o:Option Nat),b.cell? ⟨m,n+1,none⟩=some (.map o)/\PC Tryz.prog 131 #[.map o,.func (.func 132) #[] #[]] b (λN p=>
   N= .tuple #[]/\(∃q r,d=some ⟨q,r,none⟩/\(∃(s:Option Nat),p.cell? ⟨q,r+1,none⟩=some (.map s)/\aE Tryz.prog (Instr.range 122 (.map s)) p (λu O=>
   (∃j:Nat->World->Prop,(∃i,j i O)/\∀(i:Nat) (c0:Nat->Value) (v:World),j i v->aE Tryz.prog (Instr.next u false 0) v (λw x=>
   (w= .tuple #[.bool false]/\(∃y z,d=some ⟨y,z,none⟩/\PS x ⟨y,z+2,none⟩ (.bool false) λP=>(∃A B,d=some ⟨A,B,none⟩/\
   PS P ⟨A,B+4,none⟩ (.bool false) λQ=>t (.returned (.tuple #[])) Q)))\/(∃R S,w= .tuple #[.bool true,R,S]/\aE Tryz.prog (Instr.entry u) x (λT U=>
   ∃(V:Value),∃(a:Option Addr),T= .tuple #[V,.pointer a]/\(∀c,bd U c->(∃C E,a=some ⟨C,E,none⟩/\(∃(F:Int),c.cell? ⟨C,E+1,none⟩=some (.int .i64 F)/\
   (∃H I,a=some ⟨H,I,none⟩/\(∃(W:Option Addr) (f:Nat) (X:Nat),c.cell? ⟨H,I,none⟩=some (.slice W f X)/\
   (∃J K,a=some ⟨J,K,none⟩/\(∃(g:Int),c.cell? ⟨J,K+1,none⟩=some (.int .i64 g)/\PC Tryz.prog 133 #[.pointer a,.int .i64 (IntKind.wrap .i64 (F+(if(if(IntKind.wrap .i64 (((f:Nat):Int)-g))<e then(IntKind.wrap .i64 (((f:Nat):Int)-g))else e)>0 then(if(IntKind.wrap .i64 (((f:Nat):Int)-g))<e then(IntKind.wrap .i64 (((f:Nat):Int)-g))else e)else 0)))] c (λY Z=>
   Y= .tuple #[]/\(∃L,L<i/\j L Z)) (λk l=>∀(_:bK) (_:cG),t (.panicked k) l))))))))) (λh b=>t (.panicked [{v:=h,recovered:=false}]) b))) (λh b=>
   t (.panicked [{v:=h,recovered:=false}]) b))) (λh b=>t (.panicked [{v:=h,recovered:=false}]) b)))) (λk b=>t (.panicked k) b)))):
  Calls Tryz.prog 71 #[.pointer d,.int .i64 e] b t:=
 ks qW mixed Tryz.func71 rfl (Nat.le_of_ble_eq_true kR) kR (Eq.mp kR M)
set_option maxRecDepth 20000
def Se (b:Int) (a:cI):Int:=a.synced+max 0 (min b ((a.bytes.length:Int)-a.synced))
def Ev (b:Int) (a:cI):cI:=a.cut (Se b a)
def an.z_ (D:an) (b:Int):an:={D with files:=(D.files.filter λa=>a.2.lj).map (λa=>(a.1,Ev b a.2)),lZ:=false,dead:=false}
def an.GO (D:an) (a:List (ByteArray×cI)):an:=⟨D.most,a,D.lZ,D.left,D.dead⟩
def an.fO (D:an):an:={D with files:=D.files.filter λa=>a.2.lj}
theorem BV (a:List (ByteArray×cI)) (b:ByteArray×cI->Bool):dW (a.filter b)<=dW a:=by
 unfold dW
 induction a with
 |nil=>simp
 |cons c a d=>
  rw [List.filter_cons];split
  ·simp;omega
  ·simp;omega
theorem wN {a:List (ByteArray×j)} (b:Tidy a) (c:ByteArray×j->Bool):Tidy (a.filter c):=List.Nodup.sublist (List.Sublist.map _ List.filter_sublist) b
theorem an.Ok.fO {D:an} (a:D.Ok):D.fO.Ok:=by
 have e:=BV D.files λb=>b.2.lj;have d:=a.fits;have f:=List.length_filter_le (λb:ByteArray×cI=>b.2.lj) D.files;have g:=a.many;unfold an.used at d;exact⟨a.most,by show dW (D.files.filter _)<=D.most;omega,by show(D.files.filter _).length<=64;omega,wN a.tidy _,λb c=>a.names b (List.mem_filter.1 c).1,λb c=>a.Pu b (List.mem_filter.1 c).1,a.zU,a.zV⟩
theorem NP {b:List (ByteArray×j)} (d:Tidy b) {m g:ByteArray×j->j} {u n:j} (i:(w,u)∈b) (k:∀c∈b,c.1≠w->g c=m c) (q:g (w,u)=n):
  aH (b.map λa=>(a.1,m a)) w n=b.map λa=>(a.1,g a):=by
 induction b with
 |nil=>cases i
 |cons r b o=>
  obtain⟨a,c⟩:=r;unfold Tidy at d o;simp only [QY,List.nodup_cons]at d;simp only [QY];unfold aH
  by_cases h:(w==a)=true
  ·have s:w=a:=eq_of_beq h
   subst s;have t:c=u:=by
    rcases Q2.1 i with h|h
    ·cases h;rfl
    ·exact absurd (Xk.2 ⟨_,h,rfl⟩) d.1
   subst t;rw [if_pos h,q]
   congr 1
   refine List.map_congr_left λe f=>?_;rw [k e (QJ _ f) λl=>d.1 (Xk.2 ⟨e,f,l⟩)]
  ·have p:a≠w:=λl=>h (by rw [l];simp)
   rw [if_neg h,k (a,c) (QV ..) p]
   congr 1
   refine o d.2 ?_ λe f=>k e (QJ _ f);rcases Q2.1 i with H|H
   ·cases H;exact absurd rfl p
   ·exact H
def q_ (b:Int) (left:List (ByteArray×l_)) (a:ByteArray×cI):cI:=if left.any (λc=>c.1==a.1)then a.2 else Ev b a.2
theorem I_ {D:an} (h:aP b a f D) (e4:aK e):
  Calls Tryz.prog 71 #[.pointer (some ⟨a,0,none⟩),.int .i64 e] b (Ok λS u=>∃r,S= .tuple #[]/\aP u a r (D.z_ e)/\cz f b r u):=by
 obtain⟨v,y,l⟩:=h.open;have e5:y.filter (λc=>c.2.f.lj)=y.filter (λc=>c.2.f.lj):=rfl;refine qX ⟨a,0,rfl,some v,ae l.head rfl,PC.ok (ye l.map l.each λc m d k=>(l.GI c m d k).2.2) ?_⟩;rintro _ w ⟨rfl,c0,C⟩;have c1:∀d,d=v->f d:=λd o=>o▸l.Fr;have s:eE w a f D.fO v (y.filter λc=>c.2.f.lj):=by
  have E:∀c∈y.filter (λc=>c.2.f.lj),c∈y:=λc m=>(List.mem_filter.1 m).1;refine⟨C.get l.head (λo=>l.pr o),c0,?_,⟨λc m=>(l.each.each c (E c m)).af C λd k=>(l.GI c (E c m) d k).2.2,λc m g p=>l.each.apart c (E c m) g (E g p),wN l.each.tidy _⟩,λc m=>l.GI c (E c m),l.Fr,l.pr,l.self,λd k=>Qk (l.aC d k) C.size,l.ok.fO⟩;show D.files.filter _=_;rw [l.files,List.filter_map]
  rfl
 generalize e6:y.filter (λc=>c.2.f.lj)=q at s;have c2:∀c∈q,∀d,c.2.G d->d<w.heap.size:=λc m d k=>(s.each.each c m).aC d k;refine⟨rfl,a,0,rfl,some v,ae s.head rfl,mapRange mF s.map λw2 hR T s2=>?_⟩;have c3:Tidy D.fO.files:=s.ok.tidy;have c4:∀g∈q,tW g∈D.fO.files:=λg p=>by rw [s.files];exact Xk.2 ⟨g,p,rfl⟩
 have a5:cz f b f w2:=⟨((C.mono λd _ k=>c1 d k)).ah T,λ_ h=>.inl h⟩
 refine⟨λU u=>∃(left t:List (ByteArray×l_)) (r:Nat->Prop),cE u w.heap.size v Value.string (q.map dG) (left.map dG)/\U=left.length/\eE u a r (D.fO.GO (D.fO.files.map λj=>(j.1,q_ e left j))) v t/\t.map dG=q.map dG/\
   cz f b r u/\(∀c∈left,c∈q/\aD t c.1=some c.2)/\Tidy left/\w.heap.size<u.heap.size/\¬r w.heap.size,
  ⟨_,q,q,f,hR,rfl,?_,rfl,a5,λc m=>⟨m,pk s.each.tidy m⟩,s.each.tidy,oM,λk=>by have:=s.aC _ k;omega⟩,?_⟩
 ·have o:(D.fO.files.map λc=>(c.1,q_ e q c))=D.fO.files:=by
   have:∀c∈D.fO.files,(c.1,q_ e q c)=c:=λc m=>by
    rw [s.files]at m;obtain⟨g,p,rfl⟩:=Xk.1 m;have:q.any (λj=>j.1==(tW g).1)=true:=List.any_eq_true.2 ⟨g,p,by simp [tW]⟩;unfold q_;rw [if_pos this]
   have J:=List.map_congr_left (f:=λc=>(c.1,q_ e q c)) (g:=id) this;rw [J,List.map_id]
  rw [o];exact s.ah T
 ·rintro U a1 w3 ⟨left,t,r,c5,rfl,V,a7,K,W,z,e1,X⟩
  refine mf c5 (λL=>.inl ⟨rfl,?_⟩) λi S l1 l2 Y c6 c7 c8 Z s4=>.inr ⟨_,_,rfl,pt c8 ?_⟩
  ·have c9:left=[]:=by simpa using L
   subst c9;refine⟨a,0,rfl,V.at.GH λw5 h5 k5 s5=>⟨a,0,rfl,h5.yq λw6 h6 k6 s6=>Ok.mk ⟨r,rfl,?_,K.trans ⟨k5.then k6,λ_ h=>.inl h⟩⟩⟩⟩;have o:(D.fO.files.map λc=>(c.1,q_ e [] c))=(D.files.filter λc=>c.2.lj).map (λc=>(c.1,Ev e c.2)):=List.map_congr_left λc _=>by simp [q_]
   rw [o]at h6;exact h6
  ·obtain⟨n,c,d,rfl,rfl,rfl,rfl⟩:=vU c6
   obtain⟨a8,F⟩:=W (i,c) sM;have F:aD t i=some c:=F;have a9:∀d,d=w.heap.size->¬r d:=λd o=>o▸X;have x:=V.af Z λd k o=>a9 d o k;have M:=x.get F;have N:=bQ F;have d0:dL Y c.q c.G c.f:=x.each.each _ N;have d1:∀d,c.G d->d<w.heap.size:=c2 _ a8;have b0:∀d,c.G d->r d/\d≠a/\d≠v:=x.GI _ N;have b1:c.f.bytes.length<=262144:=x.ok.len (bQ M);have e2:c.f.synced<=c.f.bytes.length:=x.ok.Pu _ (bQ M);have e7:c.f=(tW (i,c)).2:=rfl;refine⟨_,_,rfl,λw5 A=>?_⟩;have b2:=d0.af (A.af (S:=λ_=>False)) λ_ _ h=>h;have b3:=x.ah A.af;obtain⟨fa,B,fc,F0,H,J,h3,h4⟩:=b2.body;have b4:B=c.f.bytes.length:=J.len dC;have I:(if(if(IntKind.wrap .i64 (((B:Nat):Int)-(c.f.synced:Int)))<e then(IntKind.wrap .i64 (((B:Nat):Int)-(c.f.synced:Int)))else e)>0 then(if(IntKind.wrap .i64 (((B:Nat):Int)-(c.f.synced:Int)))<e then(IntKind.wrap .i64 (((B:Nat):Int)-(c.f.synced:Int)))else e)else 0)=max 0 (min e ((c.f.bytes.length:Int)-c.f.synced)):=by
    rw [wrap_i64 (by unfold aK;omega),b4];omega
   refine⟨c.q,0,rfl,_,ae H rfl,c.q,0,rfl,fa,B,fc,ae H rfl,c.q,0,rfl,_,ae H rfl,?_⟩;rw [I,wrap_i64 (by unfold aK at*;omega)];refine PC.ok (zZ b2 b1) ?_;rintro _ w6 ⟨O,rfl,P,Q⟩
   replace P:dL w6 c.q O (Ev e c.f):=P
   have d2:((D.fO.GO (D.fO.files.map λj=>(j.1,q_ e (n++(i,c)::d) j))).gU i (Ev e c.f)).Ok:=b3.ok.cut M _;obtain⟨F6,b5,a0⟩:=b3.dZ F P Q d2;have d3:=c7.af (A.af (S:=λ_=>False)) id id;have d4:=d3.af Q.af (λk=>by have:=d1 _ k;omega) (λk=>(b0 _ k).2.2 rfl);have b6:i∉(n++d).map (·.1):=by
    unfold Tidy at z;rw [Q3,QY]at z;rw [Q3];intro b7;have hp:=(List.perm_middle (a:=i) (l₁:=n.map (·.1)) (l₂:=d.map (·.1))).nodup_iff.1 z;exact(List.nodup_cons.1 hp).1 b7
   have b8:Tidy (n++d):=by
    unfold Tidy at z⊢;rw [Q3,QY]at z;rw [Q3];exact(List.nodup_cons.1 ((List.perm_middle (a:=i) (l₁:=n.map (·.1)) (l₂:=d.map (·.1))).nodup_iff.1 z)).2
   have b9:(n++d).any (λg=>g.1==i)=false:=by
    rw [List.any_eq_false];intro g p L;exact b6 (Xk.2 ⟨g,p,eq_of_beq L⟩)
   have eR:aH (D.fO.files.map λj=>(j.1,q_ e (n++(i,c)::d) j)) i (Ev e c.f)=D.fO.files.map λj=>(j.1,q_ e (n++d) j):=by
    refine NP (u:=c.f) c3 (c4 _ a8) (λg p R=>?_) ?_
    ·have d5:(i==g.1)=false:=beq_false_of_ne (Ne.symm R)
     have o:(n++(i,c)::d).any (λj=>j.1==g.1)=(n++d).any (λj=>j.1==g.1):=by
      rw [List.any_append,List.any_cons,List.any_append,d5,Bool.false_or]
     show q_ e (n++d) g=q_ e (n++(i,c)::d) g;unfold q_;rw [o]
    ·unfold q_
     rw [if_neg (by show¬((n++d).any (λg=>g.1==i)=true);rw [b9];simp)]
   have d6:(D.fO.GO (D.fO.files.map λj=>(j.1,q_ e (n++(i,c)::d) j))).gU i (Ev e c.f)=D.fO.GO (D.fO.files.map λj=>(j.1,q_ e (n++d) j)):=by
    unfold an.gU an.GO;simp only [eR]
   rw [d6]at b5;have a4:(aH t i (⟨c.q,O,Ev e c.f⟩:l_)).map dG=q.map dG:=by
    have H:(aH t i (⟨c.q,O,Ev e c.f⟩:l_)).map dG=aH (t.map dG) i (ptr c.q):=ph (λc:l_=>ptr c.q) t i _;rw [H,pq (k:=i) (v:=ptr c.q) (l:=t.map dG) (Xk.2 ⟨(i,c),N,rfl⟩) x.map.tidy,a7]
   refine⟨rfl,_,?_,n++d,_,F6,by rw [Q3];exact d4,rfl,b5,a4,?_,λg p=>?_,b8,?_,?_⟩
   ·simp
   ·have e3:=C.size
    have d7:cz f b r Y:=⟨K.af.new Z λd k=>.inr oM,K.new⟩
    exact(d7.trans ⟨A.af,λ_ h=>.inl h⟩).trans a0
   ·have d8:g∈n++(i,c)::d:=by simp only [Q6,Q2]at p⊢;exact p.imp id .inr
    obtain⟨d9,e0⟩:=W g d8;have R:g.1≠i:=λo=>b6 (Xk.2 ⟨g,p,o⟩);refine⟨d9,?_⟩;rw [qm,if_neg (by simpa using R)];exact e0
   ·have:=Q.af.size;have:=(A.af (S:=λ_=>False)).size;omega
   ·intro k
    rcases a0.new _ k with h|h
    ·exact X h
    ·have:=(A.af (S:=λ_=>False)).size;omega
end Go.Proofs.YthnilpgpacdmnaaGreatDoor

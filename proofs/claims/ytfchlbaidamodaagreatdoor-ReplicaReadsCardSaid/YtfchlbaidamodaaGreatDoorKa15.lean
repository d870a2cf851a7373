import Derived.Shelf.SlSortCmp.WholeK
import Derived.Shelf.SlMaps.Clone
import Derived.Ground.SlsfProg
import Derived.Ground.SlmcProg
import Derived.Shelf.SlGeneric
import Derived.Test.YtfchlbaidamodaaGreatDoorKa14
import Derived.Shelf.SlSortCmp.NoneTotal
set_option linter.all false
set_option maxRecDepth 100000
namespace Go.ax
open Go
def Yx (b a:Value):Bool:=match b with
 | .int c _=>match a with
  | .int d _=>decide (d=c)
  |_=>false
 | .bool _=>match a with
  | .bool _=>true
  |_=>false
 | .string _=>match a with
  | .string _=>true
  |_=>false
 | .slice _ _ _=>match a with
  | .slice _ _ _=>true
  |_=>false
 | .pointer _=>match a with
  | .pointer _=>true
  |_=>false
 | .map _=>match a with
  | .map _=>true
  |_=>false
 |_=>true
def WR:List Value->List Value->Bool
 |[],[]=>true
 |z::a,b::c=>Yx z b&&WR a c
 |_,_=>false
def TF (z a:Value):Bool:=match z with
 | .agg b=>match a with
  | .agg cs=>WR b.toList cs.toList
  |_=>false
 |z=>Yx z a
variable{r:Array Value}{a c:Nat}{H:Nat×Nat}{h:Program}{g q:TypeId}{c0 v:Value}{R:Value->Prop}{b:World}{y:World->Prop}
theorem Tl {φ:Value->Prop} (b:Yx v c0=true) (a:φ c0):Rj v φ:=by
 unfold Rj
 cases v<;>cases c0<;>simp [Yx]at b<;>first
  |exact⟨_,a⟩
  |exact⟨_,_,_,a⟩
  |(subst b;exact⟨_,a⟩)
theorem NH:∀{b cs:List Value} {φ:List Value->Prop},WR b cs=true->φ cs->Sw b φ
 |[],[],φ,_,c=>c
 |[],_::_,φ,a,_=>by simp [WR]at a
 |_::_,[],φ,a,_=>by simp [WR]at a
 |z::b,d::f,φ,a,c=>by
  simp only [WR,QK]at a;exact Tl (φ:=λd=>Sw b λe=>φ (d::e)) a.1 (NH (φ:=λe=>φ (d::e)) a.2 c)
theorem cu (a:TF v c0=true) (b:R c0):yY v R:=by
 unfold yY;split
 ·rename_i e
  cases c0<;>simp [TF]at a
  rename_i cs;exact NH (φ:=λc=>R (.agg c.toArray)) a (by simpa using b)
 ·rename_i d
  refine Tl ?_ b
  cases v<;>first|exact a|exact absurd rfl (d _)
theorem zV {d:World} {e:Addr} {f:Prop}:∀{cs:List Value} {a:Nat},(∀b v,cs[b]? =some v->d.cell? (e.add (a+b))=some v)->f->iU d e a cs f
 |[],a,_,c=>c
 |v::j,a,g,c=>⟨g 0 v rfl,zV (λb h i=>by have:=g (b+1) h (by simpa using i);rwa [show a+1+b=a+(b+1) by omega]) c⟩
def jg (a:Program) (b:TypeId) (cs:List Value):Bool:=vg a b&&(match fe a b with
 | .agg c=>Nat.beq (mB a b) c.size&&WR c.toList cs
 |_=>false)&&Nat.beq cs.length (mB a b)&&cs.all Value.oneCell'
theorem NI {cs:List Value} (i:jg h g cs=true) (k:∀e f,cs[e]? =some f->b.cell? ⟨a,c+e,none⟩=some f) (l:R (.agg cs.toArray)):
  ow h g (.pointer (some ⟨a,c,none⟩)) b R:=by
 simp only [jg,QK]at i;obtain⟨⟨⟨m,d⟩,o⟩,p⟩:=i;unfold ow;simp only [m]
 revert d
 cases fe h g<;>simp only [Bool.false_eq_true,false_implies]
 rename_i q;intro d;simp only [QK]at d;simp only [d.1];exact NH (φ:=λj=>iU b ⟨a,c,none⟩ 0 j (R (.agg j.toArray))) d.2 (zV (λe f n=>by rw [Xz,Addr.add_lit];exact k e f n) l)
theorem aw {cs:List Value} (c:jg h g cs=true) (d:b.heap[a]? =some (.cells cs.toArray q H)) (e:R (.agg cs.toArray)):
  ow h g (.pointer (some ⟨a,0,none⟩)) b R:=NI c (λi j f=>ae d (by rw [Xz];simpa using f)) e
theorem Wr {cs:List Value} (f:jg h g cs=true) (i:b.heap[a]? =some (.cells r q H)) (j:∀d e,cs[d]? =some e->r[c+d]? =some e) (k:R (.agg cs.toArray)):
  ow h g (.pointer (some ⟨a,c,none⟩)) b R:=NI f (λd e l=>ae i (j d e l)) k
theorem br {c d k:Nat} {es:List Value} (f:jg h g es=true) (i:es.length=k) (j:∀a,a<k->b.cell? ⟨c,d+a,none⟩=es[a]?) (l:R (.agg es.toArray)):
  ow h g (.pointer (some ⟨c,d,none⟩)) b R:=NI f (λa m e=>by rw [j a (by rw [<-i];exact(Qv.1 e).1)];exact e) l
theorem GI {d f:Nat} {i:TypeId} {j:World->Prop}:∀(c:List Value) (b:Nat) {a:World} {cs:Array Value},a.heap[d]? =some (.cells cs i (0,0))->f+b+c.length<=cs.size->
  (∀e,aj (·=d) a e->e.heap.size=a.heap.size->e.heap[d]? =some (.cells (DX cs (f+b) c) i (0,0))->j e)->jG ⟨d,f,none⟩ b c a j
 |[],b,a,cs,g,k,h=>h a (aj.refl _) rfl g
 |v::c,b,a,cs,g,k,h=>by
  unfold jG;rw [Addr.add_lit];rw [Xq]at k;exact PS.mk g oM λs l m n=>GI c (b+1) n (by simp;omega) λo p q r=>h o (l.then p) (q.trans m) r
theorem WS {cs:List Value} (e:jg h g cs=true) (f:b.heap[a]? =some (.cells r q (0,0))) (o:c+cs.length<=r.size)
  (i:∀d,aj (·=a) b d->d.heap.size=b.heap.size->d.heap[a]? =some (.cells (DX r c cs) q (0,0))->y d):xJ h g (.pointer (some ⟨a,c,none⟩)) (.agg cs.toArray) b y:=by
 simp only [jg,QK]at e;obtain⟨⟨⟨j,p⟩,k⟩,l⟩:=e;unfold xJ;have m:Nat.beq cs.toArray.size (mB h g)=true:=by simpa using k
 have n:cs.toArray.toList.all Value.oneCell'=true:=by simpa using l
 simp only [j,m,n];exact GI cs 0 f oM i
theorem aD {cs:List Value} (d:jg h g cs=true) (e:b.heap[a]? =some (.cells r q (0,0))) (f:cs.length=r.size)
  (i:∀c,aj (·=a) b c->c.heap.size=b.heap.size->c.heap[a]? =some (.cells cs.toArray q (0,0))->y c):xJ h g (.pointer (some ⟨a,0,none⟩)) (.agg cs.toArray) b y:=
 WS d e oM λc j k l=>i c j k (by rw [l,GH f])
end Go.ax
namespace Go.Proofs
open Go.Shelf
def Tryz.QP:Go.Shelf.Ren:=⟨λ|6=>149|15=>207|14=>206|28=>275|29=>276|20=>267|21=>268|22=>269|23=>270|24=>271|25=>272|26=>273|27=>274|46=>306|47=>307|48=>308|49=>309|50=>310|57=>330|n=>n,λ|22=>50|24=>59|25=>249|3=>3|39=>311|0=>0|53=>357|55=>359|4=>4|46=>351|45=>350|50=>193|5=>5|9=>9|66=>386|70=>379|76=>406|77=>407|n=>n,λ|n=>n⟩
theorem Tryz.Vz:Go.Proofs.SlLaysF0.n6 Tryz.prog Tryz.QP:={
 mixed:=by kernel_rfl
 f6:=⟨Tryz.f149.name,by decide,Tryz.func149.trans (congrArg some (by kernel_rfl))⟩
 f14:=⟨Tryz.f206.name,by decide,Tryz.func206.trans (congrArg some (by kernel_rfl))⟩
 f15:=Tryz.func207.trans (congrArg some (by kernel_rfl))
 f20:=⟨Tryz.f267.name,by decide,Tryz.func267.trans (congrArg some (by kernel_rfl))⟩
 f21:=⟨Tryz.f268.name,by decide,Tryz.func268.trans (congrArg some (by kernel_rfl))⟩
 f22:=⟨Tryz.f269.name,by decide,Tryz.func269.trans (congrArg some (by kernel_rfl))⟩
 f23:=⟨Tryz.f270.name,by decide,Tryz.func270.trans (congrArg some (by kernel_rfl))⟩
 f24:=⟨Tryz.f271.name,by decide,Tryz.func271.trans (congrArg some (by kernel_rfl))⟩
 f25:=⟨Tryz.f272.name,by decide,Tryz.func272.trans (congrArg some (by kernel_rfl))⟩
 f26:=⟨Tryz.f273.name,by decide,Tryz.func273.trans (congrArg some (by kernel_rfl))⟩
 f27:=⟨Tryz.f274.name,by decide,Tryz.func274.trans (congrArg some (by kernel_rfl))⟩
 f28:=Tryz.func275.trans (congrArg some (by kernel_rfl))
 f29:=Tryz.func276.trans (congrArg some (by kernel_rfl))
 f46:=⟨Tryz.f306.name,by decide,Tryz.func306.trans (congrArg some (by kernel_rfl))⟩
 f47:=Tryz.func307.trans (congrArg some (by kernel_rfl))
 f48:=Tryz.func308.trans (congrArg some (by kernel_rfl))
 f49:=⟨Tryz.f309.name,by decide,Tryz.func309.trans (congrArg some (by kernel_rfl))⟩
 f50:=⟨Tryz.f310.name,by decide,Tryz.func310.trans (congrArg some (by kernel_rfl))⟩
 f57:=⟨Tryz.f330.name,by decide,Tryz.func330.trans (congrArg some (by kernel_rfl))⟩
 t0:=Tryz.underlying0
 a0:=Tryz.isAgg0
 z0:=Tryz.sizeOf0
 v0:=Tryz.zeroValue0
 t3:=Tryz.underlying3
 a3:=Tryz.isAgg3
 z3:=Tryz.sizeOf3
 v3:=Tryz.zeroValue3
 t4:=Tryz.underlying4
 a4:=Tryz.isAgg4
 z4:=Tryz.sizeOf4
 v4:=Tryz.zeroValue4
 t5:=Tryz.underlying5
 a5:=Tryz.isAgg5
 z5:=Tryz.sizeOf5
 v5:=Tryz.zeroValue5
 t9:=Tryz.underlying9
 a9:=Tryz.isAgg9
 z9:=Tryz.sizeOf9
 v9:=Tryz.zeroValue9
 t22:=Tryz.underlying50
 a22:=Tryz.isAgg50
 z22:=Tryz.sizeOf50
 v22:=Tryz.zeroValue50
 t25:=Tryz.underlying249
 a25:=Tryz.isAgg249
 z25:=Tryz.sizeOf249
 v25:=Tryz.zeroValue249
 t39:=Tryz.underlying311
 a39:=Tryz.isAgg311
 z39:=Tryz.sizeOf311
 v39:=Tryz.zeroValue311
 t45:=Tryz.underlying350
 a45:=Tryz.isAgg350
 z45:=Tryz.sizeOf350
 v45:=Tryz.zeroValue350
 t46:=Tryz.underlying351
 a46:=Tryz.isAgg351
 z46:=Tryz.sizeOf351
 v46:=Tryz.zeroValue351
 t50:=Tryz.underlying193
 a50:=Tryz.isAgg193
 z50:=Tryz.sizeOf193
 v50:=Tryz.zeroValue193
 t53:=Tryz.underlying357
 a53:=Tryz.isAgg357
 z53:=Tryz.sizeOf357
 v53:=Tryz.zeroValue357
 t55:=Tryz.underlying359
 a55:=Tryz.isAgg359
 z55:=Tryz.sizeOf359
 v55:=Tryz.zeroValue359
 t66:=Tryz.underlying386
 a66:=Tryz.isAgg386
 z66:=Tryz.sizeOf386
 v66:=Tryz.zeroValue386
 t70:=Tryz.underlying379
 a70:=Tryz.isAgg379
 z70:=Tryz.sizeOf379
 v70:=Tryz.zeroValue379
 t76:=Tryz.underlying406
 a76:=Tryz.isAgg406
 z76:=Tryz.sizeOf406
 v76:=Tryz.zeroValue406
 t77:=Tryz.underlying407
 a77:=Tryz.isAgg407
 z77:=Tryz.sizeOf407
 v77:=Tryz.zeroValue407}
def Tryz.QR:Go.Shelf.Ren:=⟨λ|6=>395|15=>207|14=>397|28=>275|29=>276|20=>398|21=>399|22=>400|23=>401|24=>402|25=>403|26=>404|27=>405|46=>406|47=>307|48=>308|49=>407|50=>408|57=>409|n=>n,λ|22=>44|24=>268|25=>451|3=>3|39=>311|0=>0|53=>357|55=>359|4=>4|46=>351|45=>350|50=>193|5=>5|9=>9|66=>386|70=>379|76=>406|77=>407|n=>n,λ|n=>n⟩
theorem Tryz.VA:Go.Proofs.SlLaysF0.n6 Tryz.prog Tryz.QR:={
 mixed:=by kernel_rfl
 f6:=⟨Tryz.f395.name,by decide,Tryz.func395.trans (congrArg some (by kernel_rfl))⟩
 f14:=⟨Tryz.f397.name,by decide,Tryz.func397.trans (congrArg some (by kernel_rfl))⟩
 f15:=Tryz.func207.trans (congrArg some (by kernel_rfl))
 f20:=⟨Tryz.f398.name,by decide,Tryz.func398.trans (congrArg some (by kernel_rfl))⟩
 f21:=⟨Tryz.f399.name,by decide,Tryz.func399.trans (congrArg some (by kernel_rfl))⟩
 f22:=⟨Tryz.f400.name,by decide,Tryz.func400.trans (congrArg some (by kernel_rfl))⟩
 f23:=⟨Tryz.f401.name,by decide,Tryz.func401.trans (congrArg some (by kernel_rfl))⟩
 f24:=⟨Tryz.f402.name,by decide,Tryz.func402.trans (congrArg some (by kernel_rfl))⟩
 f25:=⟨Tryz.f403.name,by decide,Tryz.func403.trans (congrArg some (by kernel_rfl))⟩
 f26:=⟨Tryz.f404.name,by decide,Tryz.func404.trans (congrArg some (by kernel_rfl))⟩
 f27:=⟨Tryz.f405.name,by decide,Tryz.func405.trans (congrArg some (by kernel_rfl))⟩
 f28:=Tryz.func275.trans (congrArg some (by kernel_rfl))
 f29:=Tryz.func276.trans (congrArg some (by kernel_rfl))
 f46:=⟨Tryz.f406.name,by decide,Tryz.func406.trans (congrArg some (by kernel_rfl))⟩
 f47:=Tryz.func307.trans (congrArg some (by kernel_rfl))
 f48:=Tryz.func308.trans (congrArg some (by kernel_rfl))
 f49:=⟨Tryz.f407.name,by decide,Tryz.func407.trans (congrArg some (by kernel_rfl))⟩
 f50:=⟨Tryz.f408.name,by decide,Tryz.func408.trans (congrArg some (by kernel_rfl))⟩
 f57:=⟨Tryz.f409.name,by decide,Tryz.func409.trans (congrArg some (by kernel_rfl))⟩
 t0:=Tryz.underlying0
 a0:=Tryz.isAgg0
 z0:=Tryz.sizeOf0
 v0:=Tryz.zeroValue0
 t3:=Tryz.underlying3
 a3:=Tryz.isAgg3
 z3:=Tryz.sizeOf3
 v3:=Tryz.zeroValue3
 t4:=Tryz.underlying4
 a4:=Tryz.isAgg4
 z4:=Tryz.sizeOf4
 v4:=Tryz.zeroValue4
 t5:=Tryz.underlying5
 a5:=Tryz.isAgg5
 z5:=Tryz.sizeOf5
 v5:=Tryz.zeroValue5
 t9:=Tryz.underlying9
 a9:=Tryz.isAgg9
 z9:=Tryz.sizeOf9
 v9:=Tryz.zeroValue9
 t22:=Tryz.underlying44
 a22:=Tryz.isAgg44
 z22:=Tryz.sizeOf44
 v22:=Tryz.zeroValue44
 t25:=Tryz.underlying451
 a25:=Tryz.isAgg451
 z25:=Tryz.sizeOf451
 v25:=Tryz.zeroValue451
 t39:=Tryz.underlying311
 a39:=Tryz.isAgg311
 z39:=Tryz.sizeOf311
 v39:=Tryz.zeroValue311
 t45:=Tryz.underlying350
 a45:=Tryz.isAgg350
 z45:=Tryz.sizeOf350
 v45:=Tryz.zeroValue350
 t46:=Tryz.underlying351
 a46:=Tryz.isAgg351
 z46:=Tryz.sizeOf351
 v46:=Tryz.zeroValue351
 t50:=Tryz.underlying193
 a50:=Tryz.isAgg193
 z50:=Tryz.sizeOf193
 v50:=Tryz.zeroValue193
 t53:=Tryz.underlying357
 a53:=Tryz.isAgg357
 z53:=Tryz.sizeOf357
 v53:=Tryz.zeroValue357
 t55:=Tryz.underlying359
 a55:=Tryz.isAgg359
 z55:=Tryz.sizeOf359
 v55:=Tryz.zeroValue359
 t66:=Tryz.underlying386
 a66:=Tryz.isAgg386
 z66:=Tryz.sizeOf386
 v66:=Tryz.zeroValue386
 t70:=Tryz.underlying379
 a70:=Tryz.isAgg379
 z70:=Tryz.sizeOf379
 v70:=Tryz.zeroValue379
 t76:=Tryz.underlying406
 a76:=Tryz.isAgg406
 z76:=Tryz.sizeOf406
 v76:=Tryz.zeroValue406
 t77:=Tryz.underlying407
 a77:=Tryz.isAgg407
 z77:=Tryz.sizeOf407
 v77:=Tryz.zeroValue407}
def Tryz.NG:Go.Shelf.Ren:=⟨λ|5=>298|7=>329|n=>n,λ|23=>286|25=>3|3=>268|4=>4|20=>20|n=>n,λ|n=>n⟩
theorem Tryz.Ws:Go.Proofs.SlLaysW.n5 Tryz.prog Tryz.NG:={
 mixed:=by kernel_rfl
 f5:=⟨Tryz.f298.name,by decide,Tryz.func298.trans (congrArg some (by kernel_rfl))⟩
 f7:=Tryz.func329.trans (congrArg some (by kernel_rfl))
 t4:=Tryz.underlying4
 a4:=Tryz.isAgg4
 z4:=Tryz.sizeOf4
 v4:=Tryz.zeroValue4
 t20:=Tryz.underlying20
 a20:=Tryz.isAgg20
 z20:=Tryz.sizeOf20
 v20:=Tryz.zeroValue20
 t23:=Tryz.underlying286
 a23:=Tryz.isAgg286
 z23:=Tryz.sizeOf286
 v23:=Tryz.zeroValue286}
end Go.Proofs
namespace Go.Proofs.YtfchlbaidamodaaGreatDoor
open Go.ax Go.Sort
theorem bg (a:ah) (b:Option Addr) (c d:Nat):jg ZQ 59 (aE a b c d)=true:=kR
theorem sW (a:ah) (b:Option Addr) (c d:Nat):TF (fe ZQ 59) (.agg (aE a b c d).toArray)=true:=kR
def G (a b:World):Prop:=∃c d,b=grow (a.drewN c) d
variable{F e m:Int}{d8:Int×Int}{h4:List ((Int×Int)×ah)}{C e6:List ah}{a c i l:Nat}{f:Nat->Prop}{d1:Obj}{d p:Option Addr}{g:TypeId}{a8 b k:World}{y:World->Prop}{N n:ah}{A:aq}
theorem G.then (f:G b k) (g:G k a8):G b a8:=by
 obtain⟨a,c,rfl⟩:=f;obtain⟨d,e,rfl⟩:=g;exact⟨a+d,c++e,by show grow (grow ((b.drewN a).drewN d) c) e=_;rw [grow_grow,World.drewN_drewN]⟩
theorem G.keep {S:Nat->Prop} (a:G b k):aj S b k:=by
 obtain⟨f,c,rfl⟩:=a;refine⟨rfl,rfl,rfl,by simp [grow],λd e _=>?_⟩;show(b.heap++c)[d]? =_;rw [Array.getElem?_append_left e]
theorem G.drew (a:bE b k):G b k:=by obtain⟨c,rfl⟩:=a;exact⟨c,#[],sM⟩
theorem PA.Yg (c:∀a,G b a->a.heap.size=b.heap.size+1->a.heap[b.heap.size]? =some d1->y a):PA b d1 y:=
 c (b.alloc d1) ⟨0,#[d1],by rw [alloc_eq_grow];rfl⟩ sM (heap_alloc_new b d1)
theorem isNaN :Calls ZQ 277 #[QH e] b (Ok λa c=>a= .bool false/\b=c):=AD (Ok.mk ⟨sM,rfl⟩)
def KV (a b:Int):Int:=if a<b then-1 else if b<a then 1 else 0
theorem il :Calls ZQ 209 #[QH e,QH m] b (Ok λd f=>d= QH (KV e m)/\b=f):=by
 refine vZ (PC.ok isNaN ?_);rintro _ _ ⟨rfl,rfl⟩;refine⟨_,rfl,PC.ok isNaN ?_⟩;rintro _ _ ⟨rfl,rfl⟩;refine⟨_,rfl,al.ff rfl (al.ff rfl (al.dec (λa=>Ok.mk ⟨by unfold KV;rw [if_pos a],rfl⟩) (λa=>al.dec (λc=>Ok.mk ⟨by unfold KV;rw [if_neg a,if_pos c],rfl⟩) (λc=>Ok.mk ⟨by unfold KV;rw [if_neg a,if_neg c],rfl⟩))))⟩
def OQ:List Int->Int
 |[]=>0
 |x::a=>if x≠0 then x else OQ a
theorem Ry (s:b.heap[a]? =some (.cells #[QH e,QH m,QH F] g (0,0))):
  Calls ZQ 208 #[.slice (some ⟨a,0,none⟩) 3 3] b (Ok λj h=>j= QH (OQ [e,m,F])/\b=h):=by
 refine Hu ⟨λn f h=>∃c:Nat,f=c/\c<=3/\n=3-c/\OQ [e,m,F]=OQ ([e,m,F].drop c)/\b=h,⟨_,0,rfl,oM,rfl,rfl,rfl⟩,?_⟩;rintro n f _ _ ⟨c,rfl,x,rfl,k,rfl⟩;refine al.dec (λt=>?_) (λt=>?_)
 ·have u:∀i:Int,[e,m,F][c]? =some i->∃o p,(some ⟨a,0,none⟩:Option Addr)=some ⟨o,p,none⟩/\(0:Int)<=c/\(c:Int)<((3:Nat):Int)/\∃l:Int,b.cell? ⟨o,p+Int.toNat c,none⟩=some (QH l)/\al (l !=0) (Ok (λj h=>j= QH (OQ [e,m,F])/\b=h) (.returned (QH l)) b) (∃q,q<3-c/\∃f:Nat,IntKind.wrap .i64 ((c:Int)+1)=f/\f<=3/\q=3-f/\OQ [e,m,F]=OQ ([e,m,F].drop f)/\b=b):=by
   intro i d;have r:[e,m,F].drop c=i::[e,m,F].drop (c+1):=by
    rw [X4 (by simp;omega)];congr 1;simpa using(Qv.1 d).2
   refine⟨a,0,rfl,oM,oM,i,ae s ?_,al.dw (λv=>Ok.mk ⟨?_,rfl⟩) (λw=>⟨_,oM,c+1,an oM,oM,rfl,?_,rfl⟩)⟩
   ·rw [Xz]
    match c,d with
    |0,d=>simp at d;simp [d]
    |1,d=>simp at d;simp [d]
    |2,d=>simp at d;simp [d]
    |c+3,d=>simp at d
   ·rw [k,r,OQ,if_pos v]
   ·rw [k,r,OQ,if_neg (by simpa using w)]
  have d:c<[e,m,F].length:=by simp;omega
  exact u [e,m,F][c] (by simp [d])
 ·obtain rfl:c=3:=oM
  exact Ok.mk ⟨by rw [k];rfl,rfl⟩
theorem IX (a b:ah):OQ [KV a.aA b.aA,KV a.origin b.origin,KV a.seq b.seq]=tJ a b:=by
 unfold tJ fg KV OQ OQ OQ OQ
 by_cases f:a.aA<b.aA
 ·simp [f]
 by_cases i:b.aA<a.aA
 ·simp [f,i];omega
 have c:a.aA=b.aA:=oM
 by_cases g:a.origin<b.origin
 ·simp [c,g]
 by_cases j:b.origin<a.origin
 ·simp [c,g,j];omega
 have d:a.origin=b.origin:=oM
 by_cases e:a.seq<b.seq
 ·simp [c,d,e]
 by_cases h:b.seq<a.seq
 ·simp [c,d,e,h]
 ·simp [c,d,e,h]
theorem DU :Calls ZQ 150 #[.agg (aE n d a c).toArray,.agg (aE N p i l).toArray] b (Ok λk m=>k= QH (tJ n N)/\G b m):=by
 refine yd (PA.Yg λu o v q=>PA.Yg λw h x r=>λy s=>⟨λ_=>False,?_⟩);have e:=G.drew s;have f:=(e.keep (S:=λ_=>False)).get ((h.keep (S:=λ_=>False)).get q id) id;have g:=(e.keep (S:=λ_=>False)).get r id;refine⟨_,ae f rfl,_,ae g rfl,id,_,ae f rfl,id,_,ae g rfl,id,_,ae f rfl,id,_,ae g rfl,PC.ok il ?_⟩;rintro _ _ ⟨rfl,rfl⟩;refine⟨_,rfl,aj.refl _,PC.ok il ?_⟩;rintro _ _ ⟨rfl,rfl⟩;refine⟨_,rfl,aj.refl _,PC.ok il ?_⟩;rintro _ _ ⟨rfl,rfl⟩;refine⟨_,rfl,aj.refl _,PA.Yg λz j A t=>⟨j.keep,PC.ok (Ry t) ?_⟩⟩;rintro _ _ ⟨rfl,rfl⟩;exact⟨_,rfl,aj.refl _,Ok.mk ⟨by rw [IX],((o.then h).then e).then j⟩⟩
structure Ti where
 e:ah
 a:Option Addr
 n:Nat
 c:Nat
instance:Inhabited Ti:=⟨⟨⟨0,0,0,[],0,0,0,0,0,0⟩,none,0,0⟩⟩
def encS (a:Ti):List Value:=aE a.e a.a a.n a.c
theorem Tj (b:Ti):∀c∈encS b,c.oneCell'=true:=by
 intro d a;simp only [encS,aE,Q2,List.not_mem_nil,or_false]at a;rcases a with rfl|rfl|rfl|rfl|rfl|rfl|rfl|rfl|rfl|rfl<;>rfl
theorem Bg (a b:Ti):ltOf (λa b:Ti=>tJ a.e b.e) a b=fg a.e b.e:=by
 unfold ltOf tJ
 cases c:fg a.e b.e
 ·cases d:fg b.e a.e<;>simp [c,d]
 ·simp [c]
theorem jR :fg n N=true↔n.aA<N.aA\/n.aA=N.aA/\(n.origin<N.origin\/n.origin=N.origin/\n.seq<N.seq):=by simp [fg]
theorem vB :fg n N=false↔¬(n.aA<N.aA\/n.aA=N.aA/\(n.origin<N.origin\/n.origin=N.origin/\n.seq<N.seq)):=by rw [<-jR];simp
theorem Yh:SWO (ltOf λa b:Ti=>tJ a.e b.e) where
 irrefl a:=by rw [Bg,vB];omega
 trans a b z h1 h2:=by rw [Bg,jR]at*;omega
 ntrans a b z h1 h2:=by rw [Bg,vB]at*;omega
theorem _root_.Go.ax.bT.evs {f:World} {D:Nat->Prop}:∀{c:List ah} {cs:List Value},bT fZ f D c cs->∃b:List Ti,b.map (·.e)=c/\cs=b.flatMap encS/\∀a∈b,Row aP 8 f D a.a a.n a.e.aK/\a.e.Ok
 |[],_,g=>⟨[],rfl,g,sM⟩
 |e::c,_,⟨s,t,h,⟨i,j,k,l,m,n⟩,o⟩=>by
  obtain⟨b,p,q,r⟩:=Go.ax.bT.evs o;refine⟨⟨e,i,j,k⟩::b,by simp [p],by rw [h,l,q];rfl,?_⟩;intro a d;rcases Q2.1 d with rfl|d
  ·exact⟨m,n⟩
  ·exact r a d
theorem _root_.Go.ax.bT.Tk {c:World} {D:Nat->Prop}:∀{a:List Ti},(∀x∈a,Row aP 8 c D x.a x.n x.e.aK/\x.e.Ok)->bT fZ c D (a.map (·.e)) (a.flatMap encS)
 |[],_=>rfl
 |x::a,b=>⟨encS x,a.flatMap encS,rfl,⟨x.a,x.n,x.c,rfl,(b x (QV ..)).1,(b x (QV ..)).2⟩,Go.ax.bT.Tk λd e=>b d (QJ _ e)⟩
theorem sC {b:List Ti} (c:a<b.length*10):(b.flatMap encS)[a]? =(encS b[a/10]!)[a % 10]? :=by
 induction b generalizing a with
 |nil=>simp at c
 |cons f b g=>
  have h:(encS f).length=10:=rfl;rw [List.flatMap_cons]
  by_cases d:a<10
  ·rw [XW oM,Nat.div_eq_of_lt d,Nat.mod_eq_of_lt d];rfl
  ·rw [X8 oM,h,g (by simp at c;omega)]
   obtain⟨e,rfl⟩:∃e,a=e+10:=⟨a-10,oM⟩
   rw [Nat.add_sub_cancel,Nat.add_div_right _ dC,Nat.add_mod_right];simp
theorem iz (a:List Ti):(a.flatMap encS).length=a.length*10:=by
 induction a with
 |nil=>rfl
 |cons b a c=>rw [List.flatMap_cons,QX,c];have d:(encS b).length=10:=rfl;rw [d];simp;omega
theorem DV (a:List Ti):(flatK encS 10 a.toArray).toList=a.flatMap encS:=by
 apply X3;intro b
 by_cases c:b<a.length*10
 ·rw [sC c]
  have f:b<(flatK encS 10 a.toArray).size:=by simpa using c
  have d:=get_flatK encS 10 a.toArray b (by simpa using c);rw [getElem!_pos _ b f]at d;have g:(encS a[b/10]!).length=10:=rfl;have e:b % 10<(encS a[b/10]!).length:=by rw [g];omega
  rw [Qq (by simpa using c),Qq e]
  congr 1
  rw [Array.getElem_toList,d];rw [getElem!_pos _ _ (by simpa using e)]
  congr 1
  simp
 ·rw [Q7 (by simpa using c),Q7 (by rw [iz];omega)]
def DT (a:List ah):Prop:=a.Pairwise λb c=>fg c b=false
theorem KS (n:aV fZ 59 f b d a c C) (u:C.length<=20000000):
  Calls ZQ 149 #[.slice d a c,.func (.func 150) #[] #[]] b (Ok λN v=>N= .tuple #[]/\∃B,B.Perm C/\DT B/\aV fZ 59 f v d a c B/\aj (λo=>aI d=some o) b v):=by
 obtain⟨cs,D,E,Z,O⟩:=n.body;obtain⟨g,F,rfl,a4⟩:=Z.evs;have H:=n.len dC;have w:g.length=a:=by rw [H,<-F];simp
 rcases E.cases with⟨rfl,rfl,rfl,h0⟩|⟨i,k,rfl,x,P,I,Q⟩
 ·have hd:g=[]:=QW w
  refine(AnyF.slices_SortFunc_none Tryz.Vz none 0 _ b).mono ?_;rintro q v ⟨rfl,rfl⟩;exact Ok.mk ⟨rfl,C,List.Perm.refl _,by rw [<-F,hd];exact List.Pairwise.nil,n,aj.refl _⟩
 ·have R:fZ.k=10:=rfl
  rw [R]at Q I;have a5:flatK encS 10 g.toArray=(g.flatMap encS).toArray:=by rw [<-DV]
  have hH:HoldsK encS 10 b i 0 g.toArray:=by
   intro l r;rw [size_flatK]at r;simp only [List.size_toArray]at r;have S:l<(g.flatMap encS).length:=by rw [iz];exact r
   refine⟨?_,by simp [World.frozen?,x]⟩;have m:(flatK encS 10 g.toArray)[l]! =(g.flatMap encS)[l]:=by
    rw [a5,getElem!_pos _ l (by simpa using S)];simp
   rw [m,Xz];refine ae x ?_;have j:(k.toList.take (a*10))[l]? =some (g.flatMap encS)[l]:=by rw [Q];exact Qq S
   rw [Xw,if_pos oM]at j;simpa using j
  have u:=E.row;have J:c<=maxLen:=by
   obtain⟨_,a0,_,T,_,_,_,J,_⟩:=E.row.2.resolve_left (by rintro⟨n,_⟩;cases n);simp only [XX]at T;rw [T.2.2];exact J
  have a6:g.toArray.size<4611686018427387904:=by
   simp only [List.size_toArray,w];omega
  have U:=AnyQ.slices_SortFunc Tryz.Vz 10 (λb=>dA _ _ _ kR ⟨_,Tryz.underlying59⟩ b) (λb=>Tryz.sizeOf59 b) encS (λ_=>rfl) Tj (λy V=>tJ y.e V.e) Yh 150 #[] i 0 c g.toArray b
   (enters_of Tryz.func150 kR rfl) (λb0 s dk b1 y V=>(DU).mono ?_) hH (aC x) a6
  ·rw [show g.toArray.size=a by simpa using w]at U
   refine U.mono ?_;rintro q v ⟨rfl,h,z,s,hp,hs,rfl⟩;obtain⟨p1,p2,W⟩:=hp;have e:h.size=a:=p1.trans (by simpa using w);have X:h.toList.Perm g:=by
    have m:h.extract 0 a=h:=by rw [<-e];exact Array.extract_size
    have j:g.toArray.extract 0 a=g.toArray:=by rw [show a=g.toArray.size by simpa using w.symm];exact Array.extract_size
    rw [m,j]at W;exact W
   have a1:flatK encS 10 h=(h.toList.flatMap encS).toArray:=by rw [<-DV]
   have K:(sortWorldK encS 10 b i 0 z h s).heap[i]? =some (.cells (putCells id 0 (flatK encS 10 h) k) 59 (0,0)):=by
    have a7:=aC x;show((Sort.ahead b z).heap.modify i _++s)[i]? =_;rw [Array.getElem?_append_left (by simpa [Sort.ahead]using a7),Array.getElem?_modify,if_pos rfl];show Option.map _ b.heap[i]? =_;rw [x];rfl
   have A:aj (λo=>aI (some ⟨i,0,none⟩)=some o) b (sortWorldK encS 10 b i 0 z h s):=by
    refine⟨rfl,rfl,rfl,?_,λa2 A H=>?_⟩
    ·show b.heap.size<=((Sort.ahead b z).heap.modify i _++s).size
     simp [Sort.ahead]
    ·show((Sort.ahead b z).heap.modify i _++s)[a2]? =_
     rw [Array.getElem?_append_left (by simpa [Sort.ahead]using A),Array.getElem?_modify,if_neg (λq=>H (by rw [q];rfl))]
     rfl
   have a3:(putCells id 0 (flatK encS 10 h) k).size=c*10:=by unfold putCells;rw [Array.size_mapIdx];exact I
   refine Ok.mk ⟨rfl,h.toList.map (·.e),by rw [<-F];exact X.map _,?_,⟨⟨h.toList.flatMap encS,D,⟨⟨?_,.inr ⟨i,c,_,rfl,Qj _,K,P,J,a3,?_⟩⟩⟩,bT.Tk λy hx=>?_,O⟩,n.self,λo u=>Qk (n.aF o u) A.size⟩,A⟩
   ·unfold DT
    rw [List.pairwise_map,List.pairwise_iff_getElem];intro Y l hi r a8;have m:=hs Y l (Qj _) a8 (by simpa [e]using r);rw [Bg,getElem!_pos _ l (by simpa using r),getElem!_pos _ Y (by simpa using hi)]at m;simpa using m
   ·rw [iz,XK,e];rfl
   ·apply X3
    intro t;rw [R,Xw];split
    ·rename_i p
     rw [sC (by rw [XK,e];exact p),<-sC (by rw [XK,e];exact p)];unfold putCells;have a9:t<k.size:=by rw [I];exact Qk p (Q0 _ P)
     rw [Array.getElem?_toList,Array.getElem?_mapIdx,X6 a9];simp only [Option.map_some];have L:t<(flatK encS 10 h).size:=by rw [size_flatK,e];exact p
     rw [if_pos ⟨Qj _,by rw [Xz];exact L⟩,Nat.sub_zero,getElem!_pos _ t L];have:(flatK encS 10 h)[t]=(h.toList.flatMap encS)[t]'(by rw [iz,XK,e];exact p):=by
      have j:=congrArg (·[t]?) a1;simp only [List.getElem?_toArray]at j;rw [X6 L,Qq (by rw [iz,XK,e];exact p)]at j;exact XJ j
     rw [this];exact(Qq _).symm
    ·rename_i p
     rw [Q7 (by rw [iz,XK,e];omega)]
   ·have M:y∈g:=X.mem_iff.1 hx
    obtain⟨m,j⟩:=a4 y M;exact⟨m.keep A λo u q=>(O o u).2 q,j⟩
  ·rintro q v ⟨N,rfl,rfl,hG⟩
   exact⟨rfl,hG⟩
open Go.ax
abbrev VF (a:List ah):Prop:=a.Pairwise λb c=>fg b c=true
structure aq.OK (S:aq):Prop where
 n:S.n<=64
 Rz:VF S.l
 ids:(S.l.map aO).Nodup
 TC:∀e∈S.l,dh e S.n=0
 ok:∀e∈S.l,e.Ok
theorem GY (b:aO n≠aO N):fg n N=true\/fg N n=true:=by
 rw [jR,jR];have:¬(n.origin=N.origin/\n.seq=N.seq):=λa=>b (by unfold aO;rw [a.1,a.2]);omega
theorem uq {a b c:ah} (d:fg a b=true) (e:fg b c=true):fg a c=true:=by rw [jR]at*;omega
theorem ns (a:fg n N=true):fg N n=false:=by rw [jR]at a;rw [vB];omega
theorem cX (b:ah):∀a,(dO b a).Perm (b::a)
 |[]=>List.Perm.refl _
 |x::a=>by
  unfold dO;split
  ·exact List.Perm.refl _
  ·exact(List.Perm.cons x (cX b a)).trans (List.Perm.swap b x a)
theorem xK {e:ah}:∀{b},VF b->(∀x∈b,aO x≠aO e)->VF (dO e b)
 |[],_,_=>by unfold dO;exact List.pairwise_singleton ..
 |x::b,f,g=>by
  obtain⟨h,i⟩:=List.pairwise_cons.1 f;unfold dO;split
  ·rename_i d
   exact List.pairwise_cons.2 ⟨λc a=>by
    rcases Q2.1 a with rfl|a
    ·exact d
    ·exact uq d (h c a),f⟩
  ·rename_i d
   refine List.pairwise_cons.2 ⟨λc a=>?_,xK i λc a=>g c (QJ _ a)⟩;rcases Q2.1 ((cX e b).mem_iff.1 a)with rfl|a
   ·exact(GY (g x (QV ..))).resolve_right (by simpa using d)
   ·exact h c a
theorem NF (i:DT C) (j:VF e6) (d:C.Perm e6) (k:(C.map aO).Nodup):C=e6:=by
 refine d.eq_of_pairwise (le:=λb a=>fg a b=false) (λb a l m e f=>?_) i (j.imp λh=>ns h)
 by_cases g:aO b=aO a
 ·have c:a∈C:=d.mem_iff.2 m
  obtain⟨p,n,rfl⟩:=List.getElem_of_mem l;obtain⟨q,o,rfl⟩:=List.getElem_of_mem c;have:=(List.getElem_inj (xs:=C.map aO) (h₀:=by simpa using n) (h₁:=by simpa using o) k).1 (by simpa using g);subst this;rfl
 ·rcases GY g with h|h
  ·rw [h]at f;cases f
  ·rw [h]at e;cases e
theorem UX (b:(C.map aO).Nodup) (a:n∈C):C.find? (λc=>aO c==aO n)=some n:=by
 induction C with
 |nil=>cases a
 |cons c C d=>
  simp only [QY,List.nodup_cons]at b;rcases Q2.1 a with rfl|a
  ·simp
  ·have e:aO c≠aO n:=λf=>b.1 (f▸Xk.2 ⟨n,a,rfl⟩)
   rw [List.find?_cons_of_neg (by simpa using e)];exact d b.2 a
theorem aq.get_some (a:A.get d8=some n):n∈A.l/\aO n=d8:=
 ⟨List.mem_of_find?_eq_some a,by simpa using List.find?_some a⟩
theorem aq.get_none (b:A.get d8=none):∀a∈A.l,aO a≠d8:=λa c=>by
 have:=List.find?_eq_none.1 b a c;simpa using this
theorem aq.OK.get (a:A.OK) (b:n∈A.l):A.get (aO n)=some n:=UX a.ids b
theorem KR (i:A.OK) (e:∀a∈h4,a.1=aO a.2) (f:(h4.map (·.2)).Perm A.l) (m:Tidy h4) (b:Int×Int):ay h4 b=A.get b:=by
 cases c:ay h4 b with
 |none=>
  rw [nU]at c
  symm
  refine List.find?_eq_none.2 λd j=>?_;obtain⟨a,g,rfl⟩:=Xk.1 (f.mem_iff.2 j);intro k;exact c (Xk.2 ⟨a,g,by rw [e a g];simpa using k⟩)
 |some d=>
  have h:=cF c;have l:b=aO d:=e _ h;have:d∈A.l:=f.mem_iff.1 (Xk.2 ⟨_,h,rfl⟩);rw [l,i.get this]
theorem yS (b:List ah) (a:Int):b.foldl (λa c=>max a c.aA) a=max a (b.foldl (λa c=>max a c.aA) 0)\/a<0:=by
 induction b generalizing a with
 |nil=>simp;omega
 |cons d b e=>
  rw [List.foldl_cons,List.foldl_cons]
  by_cases g:a<0
  ·exact .inr g
  ·rcases e (max a d.aA)with h|h
   ·rcases e (max 0 d.aA)with f|f
    ·left;rw [h,f];omega
    ·omega
   ·omega
theorem aq.UT (a:aq) (b:ah):aq.top ⟨a.n,dO b a.l⟩=max a.top b.aA:=by
 show(dO b a.l).foldl _ _=_;rw [(cX b a.l).foldl_eq' (λc _ d _ e=>oM),List.foldl_cons];rcases yS a.l (max 0 b.aA)with h|h
 ·rw [h]
  show max (max 0 b.aA) a.top=_;have:0<=a.top:=by
   rcases yS a.l 0 with h|h
   ·unfold aq.top;omega
   ·omega
  omega
 ·omega
theorem aq.CL (a:aq):0<=a.top:=by
 rcases yS a.l 0 with h|h
 ·unfold aq.top;omega
 ·omega
theorem im (b:dh n a=0):0<=n.origin/\n.origin<a/\1<=n.seq/\1<=n.aA/\0<=n.agg/\0<=n.key/\n.aK.length=a/\(∀c∈n.aK,0<=c)/\n.aK.getD n.origin.toNat 0=pH (n.seq-1)/\1<=n.op/\n.op<=5/\0<=n.bd/\n.bd<8/\0<=n.field/\n.field<8:=by
 unfold dh at b;split at b
 ·simp at b
 ·rename_i d
  split at b
  ·simp at b
  ·rename_i e
   split at b
   ·simp at b
   ·rename_i i
    split at b
    ·simp at b
    ·rename_i j
     simp only [not_or,List.any_eq_true,decide_eq_true_eq,not_exists,not_and]at d;obtain⟨k,l,m,c,o,f⟩:=d;refine⟨oM,oM,oM,oM,oM,oM,oM,λg h=>by have:=f g h;omega,by simpa using e,oM,oM,oM,oM,oM,oM⟩
theorem aq.Hd (a:aq) (b:ah) (c:Nat):aq.sX ⟨a.n,dO b a.l⟩ c=a.sX c+if b.origin=(c:Int)then 1 else 0:=by
 unfold aq.sX;show(dO b a.l).countP _=_;rw [(cX b a.l).countP_eq,List.countP_cons]
 congr 1
 simp
theorem aq.Mq (a:aq) (b:Nat):a.sX b<=a.l.length:=List.countP_le_length
theorem aq.b_ (a:aq):a.vec.length=a.n:=by simp [aq.vec]
theorem aq.my (b:aq) (c:a<b.n):b.vec[a]? =some (b.sX a:Int):=by simp [aq.vec,c]
theorem aq.iJ (S:aq) (b:a<S.n):S.vec.getD a 0=(S.sX a:Int):=by rw [QQ,S.my b];rfl
theorem aq.UU (b:aq) (d:ah) (g:d.origin=(a:Int)):aq.vec ⟨b.n,dO d b.l⟩=b.vec.set a (b.sX a+1:Int):=by
 apply X3;intro e
 by_cases c:e<b.n
 ·rw [aq.my ⟨b.n,dO d b.l⟩ c,aq.Hd,Xj,b.my c,b.b_]
  by_cases f:a=e
  ·subst f;simp [g,c]
  ·rw [if_neg f,if_neg oM];simp
 ·rw [Q7 (by rw [aq.b_];exact Nat.le_of_not_lt c),Q7 (by rw [List.length_set,b.b_];omega)]
theorem aq.add_def (a:aq) (b:ah):a.add b=if dh b a.n≠0 then(dh b a.n,a)else if(a.get (aO b)).isSome then(16,a)else
 if b.seq≠(a.vec.getD b.origin.toNat 0)+1 then(9,a)else if(List.range a.n).any λc=>!a.ly b c then(9,a)else(0,⟨a.n,dO b a.l⟩):=rfl
theorem aq.Bn (a:A.OK) (h:n.Ok):(A.add n).2.OK/\(A.add n).2.n=A.n:=by
 rw [aq.add_def]
 by_cases d:dh n A.n=0
 rotate_left
 ·rw [if_pos d];exact⟨a,rfl⟩
 rw [if_neg (by simpa using d)]
 by_cases e:(A.get (aO n)).isSome=true
 ·rw [if_pos e];exact⟨a,rfl⟩
 rw [if_neg e];split
 ·exact⟨a,rfl⟩
 split
 ·exact⟨a,rfl⟩
 have g:A.get (aO n)=none:=by simpa using e
 have f:=cX n A.l;refine⟨⟨a.n,xK a.Rz (aq.get_none g),?_,?_,?_⟩,rfl⟩
 ·refine(f.map aO).nodup_iff.2 ?_
  rw [QY,List.nodup_cons];exact⟨λi=>by obtain⟨c,b,j⟩:=Xk.1 i;exact aq.get_none g c b j,a.ids⟩
 ·intro c b
  rcases Q2.1 (f.mem_iff.1 b)with rfl|b
  ·exact d
  ·exact a.TC c b
 ·intro c b
  rcases Q2.1 (f.mem_iff.1 b)with rfl|b
  ·exact h
  ·exact a.ok c b
theorem aq.uk (b:a<=64):aq.OK ⟨a,[]⟩:=⟨b,List.Pairwise.nil,sM,sM,sM⟩
end Go.Proofs.YtfchlbaidamodaaGreatDoor
namespace Go.ax
open Go
def ie (a:List Int):List UInt8:=bt ((a.length:Int)::a)
def bW (a:List Int):List UInt8:=cN 2 (ie a)
def kJ (a:List UInt8):List Int×g_:=aY (bM 64 ⟨a,0,0⟩).1.toNat (bM 64 ⟨a,0,0⟩).2
def iK (a:List UInt8):Option (List Int):=
 if(bC a).no≠0\/(bC a).n≠a.length\/(bC a).kind≠2 then none else if h_ (kJ (bC a).body).2≠0 then none else some (kJ (bC a).body).1
theorem Gn (a:List UInt8):(∀b∈(kJ a).1,aN b)/\(kJ a).1.length<=64/\(kJ a).2.Fit:=by
 obtain⟨c,g,h,i⟩:=g_.Fit.count (r:=⟨a,0,0⟩) ⟨Qj _,.inl rfl⟩ (m:=64) oM;obtain⟨d,e,f,j⟩:=c.ints (bM 64 ⟨a,0,0⟩).1.toNat;exact⟨e,by show(aY _ _).1.length<=64;rw [f];omega,d⟩
variable{u:List Int}{x:List UInt8}
theorem Qc (a:iK x=some u):(∀b∈u,aN b)/\u.length<=64:=by
 unfold iK at a;split at a
 ·cases a
 split at a
 ·cases a
 ·cases a
  exact⟨(Gn _).1,(Gn _).2.1⟩
theorem yM (c:∀a∈u,aN a) (d:u.length<=64):(ie u).length<=585:=by
 have:=fT (l:=(u.length:Int)::u) (by
  intro a b;rcases Q2.1 b with rfl|b
  ·unfold aN;omega
  ·exact c a b)
 unfold ie;rw [Xq]at this;omega
theorem sg (a:List Int):(bW a).length=(ie a).length+9:=fp _ _
end Go.ax
namespace Go.Proofs.YtfchlbaidamodaaGreatDoor
open Go.ax
def tC:fS:=⟨[(2,[])],[],[],[],[(4,⟨[0,0,2,4,8,0,0,64,128,256,512,0,2048,4096,8192,17408,32800,65536,131088,262145],[1048575,1048575,1048573,1048571,1048567,1048575,1048575,1048511,1048447,1048319,1048063,1048575,1046527,1044479,1040383,1031167,1015775,983039,917487,786430],[0,0,0,0,1,0,0,0,0,1,0,0,0,0,1,0,0,0,0,2]⟩)]⟩
variable{w:ByteArray}{s:Ending->World->Prop}{e:Int}{a:Nat}{f:Nat->Prop}{d:Option Addr}{j:Type}{b:World}
theorem tD 
  (M:(∃m n,d=some ⟨m,n,none⟩/\(∃(o:Option Nat),b.cell? ⟨m,n+1,none⟩=some (.map o)/\PC ZQ 121 #[.map o,.func (.func 122) #[] #[]] b (λN p=>
   N= .tuple #[]/\(∃q r,d=some ⟨q,r,none⟩/\(∃(t:Option Nat),p.cell? ⟨q,r+1,none⟩=some (.map t)/\aH ZQ (Instr.range 140 (.map t)) p (λu O=>
   (∃j:Nat->World->Prop,(∃i,j i O)/\∀(i:Nat) (c0:Nat->Value) (v:World),j i v->aH ZQ (Instr.next u false 0) v (λw x=>
   (w= .tuple #[.bool false]/\(∃y z,d=some ⟨y,z,none⟩/\PS x ⟨y,z+2,none⟩ (.bool false) λP=>(∃A B,d=some ⟨A,B,none⟩/\
   PS P ⟨A,B+4,none⟩ (.bool false) λQ=>s (.returned (.tuple #[])) Q)))\/(∃R S,w= .tuple #[.bool true,R,S]/\aH ZQ (Instr.entry u) x (λT U=>
   ∃(V:Value),∃(a:Option Addr),T= .tuple #[V,.pointer a]/\(∀c,bE U c->(∃C E,a=some ⟨C,E,none⟩/\(∃(F:Int),c.cell? ⟨C,E+1,none⟩=some (QH F)/\
   (∃H I,a=some ⟨H,I,none⟩/\(∃(W:Option Addr) (f:Nat) (X:Nat),c.cell? ⟨H,I,none⟩=some (.slice W f X)/\
   (∃J K,a=some ⟨J,K,none⟩/\(∃(g:Int),c.cell? ⟨J,K+1,none⟩=some (QH g)/\PC ZQ 123 #[.pointer a,QH (IntKind.wrap .i64 (F+(if(if(IntKind.wrap .i64 (((f:Nat):Int)-g))<e then(IntKind.wrap .i64 (((f:Nat):Int)-g))else e)>0 then(if(IntKind.wrap .i64 (((f:Nat):Int)-g))<e then(IntKind.wrap .i64 (((f:Nat):Int)-g))else e)else 0)))] c (λY Z=>
   Y= .tuple #[]/\(∃L,L<i/\j L Z)) (λk l=>∀(_:cy) (_:dq),s (.panicked k) l))))))))) (λh b=>s (.panicked [{v:=h,recovered:=false}]) b))) (λh b=>
   s (.panicked [{v:=h,recovered:=false}]) b))) (λh b=>s (.panicked [{v:=h,recovered:=false}]) b)))) (λk b=>s (.panicked k) b)))):
  Calls ZQ 61 #[.pointer d,QH e] b s:=
 gl tC mixed Tryz.func61 rfl (Nat.le_of_ble_eq_true kR) kR (Eq.mp kR M)
def HB (a:Int) (b:bQ):Int:=b.synced+max 0 (min a ((b.bytes.length:Int)-b.synced))
def tG (a:Int) (b:bQ):bQ:=b.cut (HB a b)
def ak.eA (D:ak) (a:Int):ak:={D with files:=(D.files.filter λb=>b.2.jk).map (λb=>(b.1,tG a b.2)),js:=false,dead:=false}
def ak.JC (D:ak) (a:List (ByteArray×bQ)):ak:=⟨D.most,a,D.js,D.left,D.dead⟩
def ak.ir (D:ak):ak:={D with files:=D.files.filter λa=>a.2.jk}
theorem EI (a:List (ByteArray×bQ)) (b:ByteArray×bQ->Bool):eL (a.filter b)<=eL a:=by
 unfold eL
 induction a with
 |nil=>simp
 |cons c a d=>
  rw [List.filter_cons];split
  ·simp;omega
  ·simp;omega
theorem rl {a:List (ByteArray×j)} (b:Tidy a) (c:ByteArray×j->Bool):Tidy (a.filter c):=List.Nodup.sublist (List.Sublist.map _ List.filter_sublist) b
theorem ak.Ok.ir {D:ak} (a:D.Ok):D.ir.Ok:=by
 have e:=EI D.files λb=>b.2.jk;have d:=a.fits;have f:=List.length_filter_le (λb:ByteArray×bQ=>b.2.jk) D.files;have g:=a.many;unfold ak.used at d;exact⟨a.most,by show eL (D.files.filter _)<=D.most;omega,by show(D.files.filter _).length<=64;omega,rl a.tidy _,λb c=>a.names b (List.mem_filter.1 c).1,λb c=>a.TD b (List.mem_filter.1 c).1,a.Cs,a.Ct⟩
theorem RV {b:List (ByteArray×j)} (d:Tidy b) {m g:ByteArray×j->j} {u n:j} (i:(w,u)∈b) (k:∀c∈b,c.1≠w->g c=m c) (q:g (w,u)=n):
  aJ (b.map λa=>(a.1,m a)) w n=b.map λa=>(a.1,g a):=by
 induction b with
 |nil=>cases i
 |cons r b o=>
  obtain⟨a,c⟩:=r;unfold Tidy at d o;simp only [QY,List.nodup_cons]at d;simp only [QY];unfold aJ
  by_cases h:(w==a)=true
  ·have s:w=a:=eq_of_beq h
   subst s;have t:c=u:=by
    rcases Q2.1 i with h|h
    ·cases h;rfl
    ·exact absurd (Xk.2 ⟨_,h,rfl⟩) d.1
   subst t;rw [if_pos h,q]
   congr 1
   refine List.map_congr_left λe f=>?_;rw [k e (QJ _ f) λl=>d.1 (Xk.2 ⟨e,f,l⟩)]
  ·have p:a≠w:=λl=>h (by rw [l];simp)
   rw [if_neg h,k (a,c) (QV ..) p]
   congr 1
   refine o d.2 ?_ λe f=>k e (QJ _ f);rcases Q2.1 i with H|H
   ·cases H;exact absurd rfl p
   ·exact H
def tH (a:Int) (left:List (ByteArray×nW)) (b:ByteArray×bQ):bQ:=if left.any (λc=>c.1==b.1)then b.2 else tG a b.2
theorem Md {D:ak} (h:aW b a f D) (e4:aN e):
  Calls ZQ 61 #[.pointer (some ⟨a,0,none⟩),QH e] b (Ok λS u=>∃r,S= .tuple #[]/\aW u a r (D.eA e)/\de f b r u):=by
 obtain⟨v,y,l⟩:=h.open;have e5:y.filter (λc=>c.2.f.jk)=y.filter (λc=>c.2.f.jk):=rfl;refine tD ⟨a,0,rfl,some v,ae l.head rfl,PC.ok (AL l.map l.each λc m d k=>(l.Jy c m d k).2.2) ?_⟩;rintro _ w ⟨rfl,c0,C⟩;have c1:∀d,d=v->f d:=λd o=>o▸l.Fr;have s:fE w a f D.ir v (y.filter λc=>c.2.f.jk):=by
  have E:∀c∈y.filter (λc=>c.2.f.jk),c∈y:=λc m=>(List.mem_filter.1 m).1;refine⟨C.get l.head (λo=>l.pr o),c0,?_,⟨λc m=>(l.each.each c (E c m)).keep C λd k=>(l.Jy c (E c m) d k).2.2,λc m g p=>l.each.apart c (E c m) g (E g p),rl l.each.tidy _⟩,λc m=>l.Jy c (E c m),l.Fr,l.pr,l.self,λd k=>Qk (l.aF d k) C.size,l.ok.ir⟩;show D.files.filter _=_;rw [l.files,List.filter_map]
  rfl
 generalize e6:y.filter (λc=>c.2.f.jk)=q at s;have c2:∀c∈q,∀d,c.2.G d->d<w.heap.size:=λc m d k=>(s.each.each c m).aF d k;refine⟨rfl,a,0,rfl,some v,ae s.head rfl,mapRange mF s.map λw2 hR T s2=>?_⟩;have c3:Tidy D.ir.files:=s.ok.tidy;have c4:∀g∈q,wC g∈D.ir.files:=λg p=>by rw [s.files];exact Xk.2 ⟨g,p,rfl⟩
 have a5:de f b f w2:=⟨((C.mono λd _ k=>c1 d k)).af T,λ_ h=>.inl h⟩
 refine⟨λU u=>∃(left t:List (ByteArray×nW)) (r:Nat->Prop),dj u w.heap.size v Value.string (q.map eQ) (left.map eQ)/\U=left.length/\fE u a r (D.ir.JC (D.ir.files.map λj=>(j.1,tH e left j))) v t/\t.map eQ=q.map eQ/\
   de f b r u/\(∀c∈left,c∈q/\ay t c.1=some c.2)/\Tidy left/\w.heap.size<u.heap.size/\¬r w.heap.size,
  ⟨_,q,q,f,hR,rfl,?_,rfl,a5,λc m=>⟨m,rp s.each.tidy m⟩,s.each.tidy,oM,λk=>by have:=s.aF _ k;omega⟩,?_⟩
 ·have o:(D.ir.files.map λc=>(c.1,tH e q c))=D.ir.files:=by
   have:∀c∈D.ir.files,(c.1,tH e q c)=c:=λc m=>by
    rw [s.files]at m;obtain⟨g,p,rfl⟩:=Xk.1 m;have:q.any (λj=>j.1==(wC g).1)=true:=List.any_eq_true.2 ⟨g,p,by simp [wC]⟩;unfold tH;rw [if_pos this]
   have J:=List.map_congr_left (f:=λc=>(c.1,tH e q c)) (g:=id) this;rw [J,List.map_id]
  rw [o];exact s.af T
 ·rintro U a1 w3 ⟨left,t,r,c5,rfl,V,a7,K,W,z,e1,X⟩
  refine nX c5 (λL=>.inl ⟨rfl,?_⟩) λi S l1 l2 Y c6 c7 c8 Z s4=>.inr ⟨_,_,rfl,ry c8 ?_⟩
  ·have c9:left=[]:=by simpa using L
   subst c9;refine⟨a,0,rfl,V.at.Jw λw5 h5 k5 s5=>⟨a,0,rfl,h5.AX λw6 h6 k6 s6=>Ok.mk ⟨r,rfl,?_,K.trans ⟨k5.then k6,λ_ h=>.inl h⟩⟩⟩⟩;have o:(D.ir.files.map λc=>(c.1,tH e [] c))=(D.files.filter λc=>c.2.jk).map (λc=>(c.1,tG e c.2)):=List.map_congr_left λc _=>by simp [tH]
   rw [o]at h6;exact h6
  ·obtain⟨n,c,d,rfl,rfl,rfl,rfl⟩:=yz c6
   obtain⟨a8,F⟩:=W (i,c) sM;have F:ay t i=some c:=F;have a9:∀d,d=w.heap.size->¬r d:=λd o=>o▸X;have x:=V.keep Z λd k o=>a9 d o k;have M:=x.get F;have N:=cF F;have d0:eX Y c.q c.G c.f:=x.each.each _ N;have d1:∀d,c.G d->d<w.heap.size:=c2 _ a8;have b0:∀d,c.G d->r d/\d≠a/\d≠v:=x.Jy _ N;have b1:c.f.bytes.length<=262144:=x.ok.len (cF M);have e2:c.f.synced<=c.f.bytes.length:=x.ok.TD _ (cF M);have e7:c.f=(wC (i,c)).2:=rfl;refine⟨_,_,rfl,λw5 A=>?_⟩;have b2:=d0.keep (A.keep (S:=λ_=>False)) λ_ _ h=>h;have b3:=x.af A.keep;obtain⟨fa,B,fc,F0,H,J,h3,h4⟩:=b2.body;have b4:B=c.f.bytes.length:=J.len dC;have I:(if(if(IntKind.wrap .i64 (((B:Nat):Int)-(c.f.synced:Int)))<e then(IntKind.wrap .i64 (((B:Nat):Int)-(c.f.synced:Int)))else e)>0 then(if(IntKind.wrap .i64 (((B:Nat):Int)-(c.f.synced:Int)))<e then(IntKind.wrap .i64 (((B:Nat):Int)-(c.f.synced:Int)))else e)else 0)=max 0 (min e ((c.f.bytes.length:Int)-c.f.synced)):=by
    rw [wrap_i64 (by unfold aN;omega),b4];omega
   refine⟨c.q,0,rfl,_,ae H rfl,c.q,0,rfl,fa,B,fc,ae H rfl,c.q,0,rfl,_,ae H rfl,?_⟩;rw [I,wrap_i64 (by unfold aN at*;omega)];refine PC.ok (Cw b2 b1) ?_;rintro _ w6 ⟨O,rfl,P,Q⟩
   replace P:eX w6 c.q O (tG e c.f):=P
   have d2:((D.ir.JC (D.ir.files.map λj=>(j.1,tH e (n++(i,c)::d) j))).eJ i (tG e c.f)).Ok:=b3.ok.cut M _;obtain⟨F6,b5,a0⟩:=b3.fr F P Q d2;have d3:=c7.keep (A.keep (S:=λ_=>False)) id id;have d4:=d3.keep Q.keep (λk=>by have:=d1 _ k;omega) (λk=>(b0 _ k).2.2 rfl);have b6:i∉(n++d).map (·.1):=by
    unfold Tidy at z;rw [Q3,QY]at z;rw [Q3];intro b7;have hp:=(List.perm_middle (a:=i) (l₁:=n.map (·.1)) (l₂:=d.map (·.1))).nodup_iff.1 z;exact(List.nodup_cons.1 hp).1 b7
   have b8:Tidy (n++d):=by
    unfold Tidy at z⊢;rw [Q3,QY]at z;rw [Q3];exact(List.nodup_cons.1 ((List.perm_middle (a:=i) (l₁:=n.map (·.1)) (l₂:=d.map (·.1))).nodup_iff.1 z)).2
   have b9:(n++d).any (λg=>g.1==i)=false:=by
    rw [List.any_eq_false];intro g p L;exact b6 (Xk.2 ⟨g,p,eq_of_beq L⟩)
   have fz:aJ (D.ir.files.map λj=>(j.1,tH e (n++(i,c)::d) j)) i (tG e c.f)=D.ir.files.map λj=>(j.1,tH e (n++d) j):=by
    refine RV (u:=c.f) c3 (c4 _ a8) (λg p R=>?_) ?_
    ·have d5:(i==g.1)=false:=beq_false_of_ne (Ne.symm R)
     have o:(n++(i,c)::d).any (λj=>j.1==g.1)=(n++d).any (λj=>j.1==g.1):=by
      rw [List.any_append,List.any_cons,List.any_append,d5,Bool.false_or]
     show tH e (n++d) g=tH e (n++(i,c)::d) g;unfold tH;rw [o]
    ·unfold tH
     rw [if_neg (by show¬((n++d).any (λg=>g.1==i)=true);rw [b9];simp)]
   have d6:(D.ir.JC (D.ir.files.map λj=>(j.1,tH e (n++(i,c)::d) j))).eJ i (tG e c.f)=D.ir.JC (D.ir.files.map λj=>(j.1,tH e (n++d) j)):=by
    unfold ak.eJ ak.JC;simp only [fz]
   rw [d6]at b5;have a4:(aJ t i (⟨c.q,O,tG e c.f⟩:nW)).map eQ=q.map eQ:=by
    have H:(aJ t i (⟨c.q,O,tG e c.f⟩:nW)).map eQ=aJ (t.map eQ) i (ptr c.q):=rm (λc:nW=>ptr c.q) t i _;rw [H,ru (k:=i) (v:=ptr c.q) (l:=t.map eQ) (Xk.2 ⟨(i,c),N,rfl⟩) x.map.tidy,a7]
   refine⟨rfl,_,?_,n++d,_,F6,by rw [Q3];exact d4,rfl,b5,a4,?_,λg p=>?_,b8,?_,?_⟩
   ·simp
   ·have e3:=C.size
    have d7:de f b r Y:=⟨K.keep.new Z λd k=>.inr oM,K.new⟩
    exact(d7.trans ⟨A.keep,λ_ h=>.inl h⟩).trans a0
   ·have d8:g∈n++(i,c)::d:=by simp only [Q6,Q2]at p⊢;exact p.imp id .inr
    obtain⟨d9,e0⟩:=W g d8;have R:g.1≠i:=λo=>b6 (Xk.2 ⟨g,p,o⟩);refine⟨d9,?_⟩;rw [bu,if_neg (by simpa using R)];exact e0
   ·have:=Q.keep.size;have:=(A.keep (S:=λ_=>False)).size;omega
   ·intro k
    rcases a0.new _ k with h|h
    ·exact X h
    ·have:=(A.keep (S:=λ_=>False)).size;omega
end Go.Proofs.YtfchlbaidamodaaGreatDoor

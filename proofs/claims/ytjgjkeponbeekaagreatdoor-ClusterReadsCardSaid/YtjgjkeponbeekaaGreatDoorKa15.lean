import Derived.Shelf.SlSortCmp.WholeK
import Derived.Shelf.SlMaps.Clone
import Derived.Ground.SlsfProg
import Derived.Ground.SlmcProg
import Derived.Shelf.SlGeneric
import Derived.Test.YtjgjkeponbeekaaGreatDoorKa14
import Derived.Shelf.SlSortCmp.NoneTotal
set_option linter.all false
set_option maxHeartbeats 4000000
set_option maxRecDepth 100000
namespace Go.ar
open Go
def VL(b a:Value):Bool:=match b with
 | .int c _=>match a with
  | .int d _=>decide (d=c)
  |_=>false
 | .bool _=>match a with
  | .bool _=>true
  |_=>false
 | .string _=>match a with
  | .string _=>true
  |_=>false
 | .slice _ _ _=>match a with
  | .slice _ _ _=>true
  |_=>false
 | .pointer _=>match a with
  | .pointer _=>true
  |_=>false
 | .map _=>match a with
  | .map _=>true
  |_=>false
 |_=>true
def Ut:List Value->List Value->Bool
 |[],[]=>true
 |z::a,b::c=>VL z b&&Ut a c
 |_,_=>false
def RY(z a:Value):Bool:=match z with
 | .agg b=>match a with
  | .agg cs=>Ut b.toList cs.toList
  |_=>false
 |z=>VL z a
variable{n:Array Value}{a c:Nat}{E:Nat×Nat}{h:Program}{g q:TypeId}{b9 v:Value}{M:Value->Prop}{b:World}{y:World->Prop}
def QO{φ:Value->Prop}(b:VL v b9=true)(a:φ b9):Og v φ:=by
 unfold Og
 cases v<;>cases b9<;>simp[VL]at b<;>first
  |exact⟨_,a⟩
  |exact⟨_,_,_,a⟩
  |(subst b;exact⟨_,a⟩)
def Lf:∀{b cs:List Value} {φ:List Value->Prop},Ut b cs=true->φ cs->PQ b φ
 |[],[],φ,_,c=>c
 |[],_::_,φ,a,_=>by simp[Ut]at a
 |_::_,[],φ,a,_=>by simp[Ut]at a
 |z::b,d::f,φ,a,c=>by
  simp only[Ut,QK]at a;exact QO (φ:=λd=>PQ b λe=>φ (d::e)) a.1 (Lf (φ:=λe=>φ (d::e)) a.2 c)
def bN(a:RY v b9=true)(b:M b9):pI v M:=by
 unfold pI;split
 ·rename_i e
  cases b9<;>simp[RY]at a
  rename_i cs;exact Lf (φ:=λc=>M (.agg c.toArray)) a (by simpa using b)
 ·rename_i d
  refine QO ?_ b
  cases v<;>first|exact a|exact absurd rfl (d _)
def xU{d:World}{e:Addr}{f:Prop}:∀{cs:List Value} {a:Nat},(∀b v,cs[b]? =some v->d.cell? (e.add (a+b))=some v)->f->gV d e a cs f
 |[],a,_,c=>c
 |v::j,a,g,c=>⟨g 0 v rfl,xU (λb h i=>by have:=g (b+1) h (by simpa using i);rwa [show a+1+b=a+(b+1) by omega]) c⟩
def gH(a:Program)(b:TypeId)(cs:List Value):Bool:=tC a b&&(match cJ a b with
 | .agg c=>Nat.beq (lq a b) c.size&&Ut c.toList cs
 |_=>false)&&Nat.beq cs.length (lq a b)&&cs.all Value.oneCell'
def Lg{cs:List Value}(i:gH h g cs=true)(k:∀e f,cs[e]? =some f->b.cell? ⟨a,c+e,none⟩=some f)(l:M (.agg cs.toArray)):
  il h g (.pointer (some ⟨a,c,none⟩)) b M:=by
 simp only[gH,QK]at i;obtain⟨⟨⟨m,d⟩,o⟩,p⟩:=i;unfold il;simp only[m]
 revert d
 cases cJ h g<;>simp only[Bool.false_eq_true,false_implies]
 rename_i q;intro d;simp only[QK]at d;simp only[d.1];exact Lf (φ:=λj=>gV b ⟨a,c,none⟩ 0 j (M (.agg j.toArray))) d.2 (xU (λe f n=>by rw[Xz,Addr.add_lit];exact k e f n) l)
def au{cs:List Value}(c:gH h g cs=true)(d:b.heap[a]? =some (.cells cs.toArray q E))(e:M (.agg cs.toArray)):
  il h g (ZQ a) b M:=Lg c (λi j f=>ae d (by rw[Xz];simpa using f)) e
def Uh{cs:List Value}(f:gH h g cs=true)(i:b.heap[a]? =some (.cells n q E))(j:∀d e,cs[d]? =some e->n[c+d]? =some e)(k:M (.agg cs.toArray)):
  il h g (.pointer (some ⟨a,c,none⟩)) b M:=Lg f (λd e l=>ae i (j d e l)) k
def bA{c d k:Nat}{es:List Value}(f:gH h g es=true)(i:es.length=k)(j:∀a,a<k->b.cell? ⟨c,d+a,none⟩=es[a]?)(l:M (.agg es.toArray)):
  il h g (.pointer (some ⟨c,d,none⟩)) b M:=Lg f (λa m e=>by rw[j a (by rw[<-i];exact(Qv.1 e).1)];exact e) l
def Eg{d f:Nat}{i:TypeId}{j:World->Prop}:∀(c:List Value) (b:Nat) {a:World} {cs:Array Value},a.heap[d]? =some (.cells cs i (0,0))->f+b+c.length<=cs.size->
  (∀e,ak (·=d) a e->e.heap.size=a.heap.size->e.heap[d]? =some (.cells (BQ cs (f+b) c) i (0,0))->j e)->iL ⟨d,f,none⟩ b c a j
 |[],b,a,cs,g,k,h=>h a (ak.refl _) rfl g
 |v::c,b,a,cs,g,k,h=>by
  unfold iL;rw[Addr.add_lit];rw[Xq]at k;exact PS.mk g oM λs l m n=>Eg c (b+1) n (by simp;omega) λo p q r=>h o (l.then p) (q.trans m) r
def Uu{cs:List Value}(e:gH h g cs=true)(f:b.heap[a]? =some (.cells n q (0,0)))(p:c+cs.length<=n.size)(i:∀d,ak (·=a) b d->d.heap.size=b.heap.size->d.heap[a]? =some (.cells (BQ n c cs) q (0,0))->y d):mg h g (.pointer (some ⟨a,c,none⟩)) (.agg cs.toArray) b y:=by
 simp only[gH,QK]at e;obtain⟨⟨⟨j,r⟩,k⟩,l⟩:=e;unfold mg;have m:Nat.beq cs.toArray.size (lq h g)=true:=by simpa using k
 have o:cs.toArray.toList.all Value.oneCell'=true:=by simpa using l
 simp only[j,m,o];exact Eg cs 0 f oM i
def az{cs:List Value}(d:gH h g cs=true)(e:b.heap[a]? =some (.cells n q (0,0)))(f:cs.length=n.size)(i:∀c,ak (·=a) b c->c.heap.size=b.heap.size->c.heap[a]? =some (.cells cs.toArray q (0,0))->y c):mg h g (ZQ a) (.agg cs.toArray) b y:=
 Uu d e oM λc j k l=>i c j k (by rw[l,Ef f])
end Go.ar
namespace Go.Proofs
open Go.Shelf
def Tryz.NV:Go.Shelf.Ren:=⟨λ|6=>154|15=>218|14=>217|28=>276|29=>277|20=>268|21=>269|22=>270|23=>271|24=>272|25=>273|26=>274|27=>275|46=>316|47=>317|48=>318|49=>319|50=>320|57=>348|n=>n,λ|22=>59|24=>63|25=>260|3=>3|39=>324|0=>0|53=>365|55=>367|4=>4|46=>359|45=>358|50=>273|5=>5|9=>9|66=>400|70=>375|76=>426|77=>427|n=>n,λ|n=>n⟩
def Tryz.Tl:Go.Proofs.SlLaysF0.n6 Tryz.prog Tryz.NV:={
 mixed:=by kernel_rfl
 f6:=⟨Tryz.f154.name,by decide,Tryz.func154.trans (congrArg some (by kernel_rfl))⟩
 f14:=⟨Tryz.f217.name,by decide,Tryz.func217.trans (congrArg some (by kernel_rfl))⟩
 f15:=Tryz.func218.trans (congrArg some (by kernel_rfl))
 f20:=⟨Tryz.f268.name,by decide,Tryz.func268.trans (congrArg some (by kernel_rfl))⟩
 f21:=⟨Tryz.f269.name,by decide,Tryz.func269.trans (congrArg some (by kernel_rfl))⟩
 f22:=⟨Tryz.f270.name,by decide,Tryz.func270.trans (congrArg some (by kernel_rfl))⟩
 f23:=⟨Tryz.f271.name,by decide,Tryz.func271.trans (congrArg some (by kernel_rfl))⟩
 f24:=⟨Tryz.f272.name,by decide,Tryz.func272.trans (congrArg some (by kernel_rfl))⟩
 f25:=⟨Tryz.f273.name,by decide,Tryz.func273.trans (congrArg some (by kernel_rfl))⟩
 f26:=⟨Tryz.f274.name,by decide,Tryz.func274.trans (congrArg some (by kernel_rfl))⟩
 f27:=⟨Tryz.f275.name,by decide,Tryz.func275.trans (congrArg some (by kernel_rfl))⟩
 f28:=Tryz.func276.trans (congrArg some (by kernel_rfl))
 f29:=Tryz.func277.trans (congrArg some (by kernel_rfl))
 f46:=⟨Tryz.f316.name,by decide,Tryz.func316.trans (congrArg some (by kernel_rfl))⟩
 f47:=Tryz.func317.trans (congrArg some (by kernel_rfl))
 f48:=Tryz.func318.trans (congrArg some (by kernel_rfl))
 f49:=⟨Tryz.f319.name,by decide,Tryz.func319.trans (congrArg some (by kernel_rfl))⟩
 f50:=⟨Tryz.f320.name,by decide,Tryz.func320.trans (congrArg some (by kernel_rfl))⟩
 f57:=⟨Tryz.f348.name,by decide,Tryz.func348.trans (congrArg some (by kernel_rfl))⟩
 t0:=Tryz.underlying0
 a0:=Tryz.isAgg0
 z0:=Tryz.sizeOf0
 v0:=Tryz.zeroValue0
 t3:=Tryz.underlying3
 a3:=Tryz.isAgg3
 z3:=Tryz.sizeOf3
 v3:=Tryz.zeroValue3
 t4:=Tryz.underlying4
 a4:=Tryz.isAgg4
 z4:=Tryz.sizeOf4
 v4:=Tryz.zeroValue4
 t5:=Tryz.underlying5
 a5:=Tryz.isAgg5
 z5:=Tryz.sizeOf5
 v5:=Tryz.zeroValue5
 t9:=Tryz.underlying9
 a9:=Tryz.isAgg9
 z9:=Tryz.sizeOf9
 v9:=Tryz.zeroValue9
 t22:=Tryz.underlying59
 a22:=Tryz.isAgg59
 z22:=Tryz.sizeOf59
 v22:=Tryz.zeroValue59
 t25:=Tryz.underlying260
 a25:=Tryz.isAgg260
 z25:=Tryz.sizeOf260
 v25:=Tryz.zeroValue260
 t39:=Tryz.underlying324
 a39:=Tryz.isAgg324
 z39:=Tryz.sizeOf324
 v39:=Tryz.zeroValue324
 t45:=Tryz.underlying358
 a45:=Tryz.isAgg358
 z45:=Tryz.sizeOf358
 v45:=Tryz.zeroValue358
 t46:=Tryz.underlying359
 a46:=Tryz.isAgg359
 z46:=Tryz.sizeOf359
 v46:=Tryz.zeroValue359
 t50:=Tryz.underlying273
 a50:=Tryz.isAgg273
 z50:=Tryz.sizeOf273
 v50:=Tryz.zeroValue273
 t53:=Tryz.underlying365
 a53:=Tryz.isAgg365
 z53:=Tryz.sizeOf365
 v53:=Tryz.zeroValue365
 t55:=Tryz.underlying367
 a55:=Tryz.isAgg367
 z55:=Tryz.sizeOf367
 v55:=Tryz.zeroValue367
 t66:=Tryz.underlying400
 a66:=Tryz.isAgg400
 z66:=Tryz.sizeOf400
 v66:=Tryz.zeroValue400
 t70:=Tryz.underlying375
 a70:=Tryz.isAgg375
 z70:=Tryz.sizeOf375
 v70:=Tryz.zeroValue375
 t76:=Tryz.underlying426
 a76:=Tryz.isAgg426
 z76:=Tryz.sizeOf426
 v76:=Tryz.zeroValue426
 t77:=Tryz.underlying427
 a77:=Tryz.isAgg427
 z77:=Tryz.sizeOf427
 v77:=Tryz.zeroValue427}
def Tryz.NW:Go.Shelf.Ren:=⟨λ|6=>406|15=>218|14=>408|28=>276|29=>277|20=>409|21=>410|22=>411|23=>412|24=>413|25=>414|26=>415|27=>416|46=>417|47=>317|48=>318|49=>418|50=>419|57=>420|n=>n,λ|22=>51|24=>135|25=>466|3=>3|39=>324|0=>0|53=>365|55=>367|4=>4|46=>359|45=>358|50=>273|5=>5|9=>9|66=>400|70=>375|76=>426|77=>427|n=>n,λ|n=>n⟩
def Tryz.Tm:Go.Proofs.SlLaysF0.n6 Tryz.prog Tryz.NW:={
 mixed:=by kernel_rfl
 f6:=⟨Tryz.f406.name,by decide,Tryz.func406.trans (congrArg some (by kernel_rfl))⟩
 f14:=⟨Tryz.f408.name,by decide,Tryz.func408.trans (congrArg some (by kernel_rfl))⟩
 f15:=Tryz.func218.trans (congrArg some (by kernel_rfl))
 f20:=⟨Tryz.f409.name,by decide,Tryz.func409.trans (congrArg some (by kernel_rfl))⟩
 f21:=⟨Tryz.f410.name,by decide,Tryz.func410.trans (congrArg some (by kernel_rfl))⟩
 f22:=⟨Tryz.f411.name,by decide,Tryz.func411.trans (congrArg some (by kernel_rfl))⟩
 f23:=⟨Tryz.f412.name,by decide,Tryz.func412.trans (congrArg some (by kernel_rfl))⟩
 f24:=⟨Tryz.f413.name,by decide,Tryz.func413.trans (congrArg some (by kernel_rfl))⟩
 f25:=⟨Tryz.f414.name,by decide,Tryz.func414.trans (congrArg some (by kernel_rfl))⟩
 f26:=⟨Tryz.f415.name,by decide,Tryz.func415.trans (congrArg some (by kernel_rfl))⟩
 f27:=⟨Tryz.f416.name,by decide,Tryz.func416.trans (congrArg some (by kernel_rfl))⟩
 f28:=Tryz.func276.trans (congrArg some (by kernel_rfl))
 f29:=Tryz.func277.trans (congrArg some (by kernel_rfl))
 f46:=⟨Tryz.f417.name,by decide,Tryz.func417.trans (congrArg some (by kernel_rfl))⟩
 f47:=Tryz.func317.trans (congrArg some (by kernel_rfl))
 f48:=Tryz.func318.trans (congrArg some (by kernel_rfl))
 f49:=⟨Tryz.f418.name,by decide,Tryz.func418.trans (congrArg some (by kernel_rfl))⟩
 f50:=⟨Tryz.f419.name,by decide,Tryz.func419.trans (congrArg some (by kernel_rfl))⟩
 f57:=⟨Tryz.f420.name,by decide,Tryz.func420.trans (congrArg some (by kernel_rfl))⟩
 t0:=Tryz.underlying0
 a0:=Tryz.isAgg0
 z0:=Tryz.sizeOf0
 v0:=Tryz.zeroValue0
 t3:=Tryz.underlying3
 a3:=Tryz.isAgg3
 z3:=Tryz.sizeOf3
 v3:=Tryz.zeroValue3
 t4:=Tryz.underlying4
 a4:=Tryz.isAgg4
 z4:=Tryz.sizeOf4
 v4:=Tryz.zeroValue4
 t5:=Tryz.underlying5
 a5:=Tryz.isAgg5
 z5:=Tryz.sizeOf5
 v5:=Tryz.zeroValue5
 t9:=Tryz.underlying9
 a9:=Tryz.isAgg9
 z9:=Tryz.sizeOf9
 v9:=Tryz.zeroValue9
 t22:=Tryz.underlying51
 a22:=Tryz.isAgg51
 z22:=Tryz.sizeOf51
 v22:=Tryz.zeroValue51
 t25:=Tryz.underlying466
 a25:=Tryz.isAgg466
 z25:=Tryz.sizeOf466
 v25:=Tryz.zeroValue466
 t39:=Tryz.underlying324
 a39:=Tryz.isAgg324
 z39:=Tryz.sizeOf324
 v39:=Tryz.zeroValue324
 t45:=Tryz.underlying358
 a45:=Tryz.isAgg358
 z45:=Tryz.sizeOf358
 v45:=Tryz.zeroValue358
 t46:=Tryz.underlying359
 a46:=Tryz.isAgg359
 z46:=Tryz.sizeOf359
 v46:=Tryz.zeroValue359
 t50:=Tryz.underlying273
 a50:=Tryz.isAgg273
 z50:=Tryz.sizeOf273
 v50:=Tryz.zeroValue273
 t53:=Tryz.underlying365
 a53:=Tryz.isAgg365
 z53:=Tryz.sizeOf365
 v53:=Tryz.zeroValue365
 t55:=Tryz.underlying367
 a55:=Tryz.isAgg367
 z55:=Tryz.sizeOf367
 v55:=Tryz.zeroValue367
 t66:=Tryz.underlying400
 a66:=Tryz.isAgg400
 z66:=Tryz.sizeOf400
 v66:=Tryz.zeroValue400
 t70:=Tryz.underlying375
 a70:=Tryz.isAgg375
 z70:=Tryz.sizeOf375
 v70:=Tryz.zeroValue375
 t76:=Tryz.underlying426
 a76:=Tryz.isAgg426
 z76:=Tryz.sizeOf426
 v76:=Tryz.zeroValue426
 t77:=Tryz.underlying427
 a77:=Tryz.isAgg427
 z77:=Tryz.sizeOf427
 v77:=Tryz.zeroValue427}
def Tryz.Le:Go.Shelf.Ren:=⟨λ|5=>279|7=>321|n=>n,λ|23=>267|25=>3|3=>135|4=>4|20=>20|n=>n,λ|n=>n⟩
def Tryz.Ui:Go.Proofs.SlLaysW.n5 Tryz.prog Tryz.Le:={
 mixed:=by kernel_rfl
 f5:=⟨Tryz.f279.name,by decide,Tryz.func279.trans (congrArg some (by kernel_rfl))⟩
 f7:=Tryz.func321.trans (congrArg some (by kernel_rfl))
 t4:=Tryz.underlying4
 a4:=Tryz.isAgg4
 z4:=Tryz.sizeOf4
 v4:=Tryz.zeroValue4
 t20:=Tryz.underlying20
 a20:=Tryz.isAgg20
 z20:=Tryz.sizeOf20
 v20:=Tryz.zeroValue20
 t23:=Tryz.underlying267
 a23:=Tryz.isAgg267
 z23:=Tryz.sizeOf267
 v23:=Tryz.zeroValue267}
end Go.Proofs
namespace Go.Proofs.YtjgjkeponbeekaaGreatDoor
open Go.ar Go.Sort
def aV(a:aj)(b:Option Addr)(c d:Nat):gH XP 63 (aC a b c d)=true:=kR
def ri(a:aj)(b:Option Addr)(c d:Nat):RY (cJ XP 63) (.agg (aC a b c d).toArray)=true:=kR
def G(a b:World):Prop:=∃c d,b=grow (a.drewN c) d
variable{A e m:Int}{d6:Int×Int}{h0:List ((Int×Int)×aj)}{K e5:List aj}{a c i k:Nat}{f:Nat->Prop}{c9:Obj}{d r:Option Addr}{g:TypeId}{b b3 l:World}{y:World->Prop}{N o:aj}{F:aw}
def G.then(f:G b l)(g:G l b3):G b b3:=by
 obtain⟨a,c,rfl⟩:=f;obtain⟨d,e,rfl⟩:=g;exact⟨a+d,c++e,by show grow (grow ((b.drewN a).drewN d) c) e=_;rw[grow_grow,World.drewN_drewN]⟩
def G.af{S:Nat->Prop}(a:G b l):ak S b l:=by
 obtain⟨f,c,rfl⟩:=a;refine⟨rfl,rfl,rfl,by simp[grow],λd e _=>?_⟩;show(b.heap++c)[d]? =_;rw[Array.getElem?_append_left e]
def G.drew(a:bd b l):G b l:=by obtain⟨c,rfl⟩:=a;exact⟨c,#[],sM⟩
def PA.Vz(c:∀a,G b a->a.heap.size=b.heap.size+1->a.heap[b.heap.size]? =some c9->y a):PA b c9 y:=
 c (b.alloc c9) ⟨0,#[c9],by rw[alloc_eq_grow];rfl⟩ sM (heap_alloc_new b c9)
def isNaN:Calls XP 278 #[XH e] b (Ok λa c=>a= .bool false/\b=c):=yB (Ok.mk ⟨sM,rfl⟩)
def IK(a b:Int):Int:=if a<b then-1 else if b<a then 1 else 0
def f_:Calls XP 220 #[XH e,XH m] b (Ok λd f=>d= XH (IK e m)/\b=f):=by
 refine uj (PC.ok isNaN ?_);rintro _ _ ⟨rfl,rfl⟩;refine⟨_,rfl,PC.ok isNaN ?_⟩;rintro _ _ ⟨rfl,rfl⟩;refine⟨_,rfl,al.ff rfl (al.ff rfl (al.dec (λa=>Ok.mk ⟨by unfold IK;rw[if_pos a],rfl⟩) (λa=>al.dec (λc=>Ok.mk ⟨by unfold IK;rw[if_neg a,if_pos c],rfl⟩) (λc=>Ok.mk ⟨by unfold IK;rw[if_neg a,if_neg c],rfl⟩))))⟩
def Mf:List Int->Int
 |[]=>0
 |x::a=>if x≠0 then x else Mf a
def Oy(s:b.heap[a]? =some (.cells #[XH e,XH m,XH A] g (0,0))):
  Calls XP 219 #[.slice (ZX a) 3 3] b (Ok λj h=>j= XH (Mf [e,m,A])/\b=h):=by
 refine EU ⟨λn f h=>∃c:Nat,f=c/\c<=3/\n=3-c/\Mf [e,m,A]=Mf ([e,m,A].drop c)/\b=h,⟨_,0,rfl,oM,rfl,rfl,rfl⟩,?_⟩;rintro n f _ _ ⟨c,rfl,x,rfl,k,rfl⟩;refine al.dec (λt=>?_) (λt=>?_)
 ·have u:∀i:Int,[e,m,A][c]? =some i->∃o p,(ZX a:Option Addr)=some ⟨o,p,none⟩/\(0:Int)<=c/\(c:Int)<((3:Nat):Int)/\∃l:Int,b.cell? ⟨o,p+Int.toNat c,none⟩=some (XH l)/\al (l !=0) (Ok (λj h=>j= XH (Mf [e,m,A])/\b=h) (.returned (XH l)) b) (∃q,q<3-c/\∃f:Nat,IntKind.wrap .i64 ((c:Int)+1)=f/\f<=3/\q=3-f/\Mf [e,m,A]=Mf ([e,m,A].drop f)/\b=b):=by
   intro i d;have r:[e,m,A].drop c=i::[e,m,A].drop (c+1):=by
    rw[X4 (by simp;omega)];congr 1;simpa using(Qv.1 d).2
   refine⟨a,0,rfl,oM,oM,i,ae s ?_,al.dB (λv=>Ok.mk ⟨?_,rfl⟩) (λw=>⟨_,oM,c+1,aq oM,oM,rfl,?_,rfl⟩)⟩
   ·rw[Xz]
    match c,d with
    |0,d=>simp at d;simp[d]
    |1,d=>simp at d;simp[d]
    |2,d=>simp at d;simp[d]
    |c+3,d=>simp at d
   ·rw[k,r,Mf,if_pos v]
   ·rw[k,r,Mf,if_neg (by simpa using w)]
  have d:c<[e,m,A].length:=by simp;omega
  exact u [e,m,A][c] (by simp[d])
 ·obtain rfl:c=3:=oM
  exact Ok.mk ⟨by rw[k];rfl,rfl⟩
def GM(a b:aj):Mf [IK a.ay b.ay,IK a.origin b.origin,IK a.seq b.seq]=rX a b:=by
 unfold rX dQ IK Mf Mf Mf Mf
 by_cases f:a.ay<b.ay
 ·simp[f]
 by_cases i:b.ay<a.ay
 ·simp[f,i];omega
 have c:a.ay=b.ay:=oM
 by_cases g:a.origin<b.origin
 ·simp[c,g]
 by_cases j:b.origin<a.origin
 ·simp[c,g,j];omega
 have d:a.origin=b.origin:=oM
 by_cases e:a.seq<b.seq
 ·simp[c,d,e]
 by_cases h:b.seq<a.seq
 ·simp[c,d,e,h]
 ·simp[c,d,e,h]
def BN:Calls XP 155 #[.agg (aC o d a c).toArray,.agg (aC N r i k).toArray] b (Ok λl m=>l= XH (rX o N)/\G b m):=by
 refine wj (PA.Vz λu n v p=>PA.Vz λw h x q=>λy s=>⟨λ_=>False,?_⟩);have e:=G.drew s;have f:=(e.af (S:=λ_=>False)).get ((h.af (S:=λ_=>False)).get p id) id;have g:=(e.af (S:=λ_=>False)).get q id;refine⟨_,ae f rfl,_,ae g rfl,id,_,ae f rfl,id,_,ae g rfl,id,_,ae f rfl,id,_,ae g rfl,PC.ok f_ ?_⟩;rintro _ _ ⟨rfl,rfl⟩;refine⟨_,rfl,ak.refl _,PC.ok f_ ?_⟩;rintro _ _ ⟨rfl,rfl⟩;refine⟨_,rfl,ak.refl _,PC.ok f_ ?_⟩;rintro _ _ ⟨rfl,rfl⟩;refine⟨_,rfl,ak.refl _,PA.Vz λz j A t=>⟨j.af,PC.ok (Oy t) ?_⟩⟩;rintro _ _ ⟨rfl,rfl⟩;exact⟨_,rfl,ak.refl _,Ok.mk ⟨by rw[GM],((n.then h).then e).then j⟩⟩
structure QL where
 e:aj
 a:Option Addr
 n:Nat
 c:Nat
instance:Inhabited QL:=⟨⟨⟨0,0,0,[],0,0,0,0,0,0⟩,none,0,0⟩⟩
def encS(a:QL):List Value:=aC a.e a.a a.n a.c
def QM(b:QL):∀c∈encS b,c.oneCell'=true:=by
 intro d a;simp only[encS,aC,Q2,List.not_mem_nil,or_false]at a;rcases a with rfl|rfl|rfl|rfl|rfl|rfl|rfl|rfl|rfl|rfl<;>rfl
def zl(a b:QL):ltOf (λa b:QL=>rX a.e b.e) a b=dQ a.e b.e:=by
 unfold ltOf rX
 cases c:dQ a.e b.e
 ·cases d:dQ b.e a.e<;>simp[c,d]
 ·simp[c]
def iR:dQ o N=true↔o.ay<N.ay\/o.ay=N.ay/\(o.origin<N.origin\/o.origin=N.origin/\o.seq<N.seq):=by simp[dQ]
def tI:dQ o N=false↔¬(o.ay<N.ay\/o.ay=N.ay/\(o.origin<N.origin\/o.origin=N.origin/\o.seq<N.seq)):=by rw[<-iR];simp
def VA:SWO (ltOf λa b:QL=>rX a.e b.e) where
 irrefl a:=by rw[zl,tI];omega
 trans a b z h1 h2:=by rw[zl,iR]at*;omega
 ntrans a b z h1 h2:=by rw[zl,tI]at*;omega
def _root_.Go.ar.bu.evs{f:World}{D:Nat->Prop}:∀{c:List aj} {cs:List Value},bu jj f D c cs->∃b:List QL,b.map (·.e)=c/\cs=b.flatMap encS/\∀a∈b,Row aJ 8 f D a.a a.n a.e.aP/\a.e.Ok
 |[],_,g=>⟨[],rfl,g,sM⟩
 |e::c,_,⟨s,t,h,⟨i,j,k,l,m,n⟩,o⟩=>by
  obtain⟨b,p,q,r⟩:=Go.ar.bu.evs o;refine⟨⟨e,i,j,k⟩::b,by simp[p],by rw[h,l,q];rfl,?_⟩;intro a d;rcases Q2.1 d with rfl|d
  ·exact⟨m,n⟩
  ·exact r a d
def _root_.Go.ar.bu.QN{c:World}{D:Nat->Prop}:∀{a:List QL},(∀x∈a,Row aJ 8 c D x.a x.n x.e.aP/\x.e.Ok)->bu jj c D (a.map (·.e)) (a.flatMap encS)
 |[],_=>rfl
 |x::a,b=>⟨encS x,a.flatMap encS,rfl,⟨x.a,x.n,x.c,rfl,(b x (QV ..)).1,(b x (QV ..)).2⟩,Go.ar.bu.QN λd e=>b d (QJ _ e)⟩
def qN{b:List QL}(c:a<b.length*10):(b.flatMap encS)[a]? =(encS b[a/10]!)[a % 10]? :=by
 induction b generalizing a with
 |nil=>simp at c
 |cons f b g=>
  have h:(encS f).length=10:=rfl;rw[List.flatMap_cons]
  by_cases d:a<10
  ·rw[XW oM,Nat.div_eq_of_lt d,Nat.mod_eq_of_lt d];rfl
  ·rw[X8 oM,h,g (by simp at c;omega)]
   obtain⟨e,rfl⟩:∃e,a=e+10:=⟨a-10,oM⟩
   rw[Nat.add_sub_cancel,Nat.add_div_right _ dC,Nat.add_mod_right];simp
def gu(a:List QL):(a.flatMap encS).length=a.length*10:=by
 induction a with
 |nil=>rfl
 |cons b a c=>rw[List.flatMap_cons,QX,c];have d:(encS b).length=10:=rfl;rw[d];simp;omega
def BO(a:List QL):(flatK encS 10 a.toArray).toList=a.flatMap encS:=by
 apply X3;intro b
 by_cases c:b<a.length*10
 ·rw[qN c]
  have f:b<(flatK encS 10 a.toArray).size:=by simpa using c
  have d:=get_flatK encS 10 a.toArray b (by simpa using c);rw[getElem!_pos _ b f]at d;have g:(encS a[b/10]!).length=10:=rfl;have e:b % 10<(encS a[b/10]!).length:=by rw[g];omega
  rw[Qq (by simpa using c),Qq e]
  congr 1
  rw[Array.getElem_toList,d];rw[getElem!_pos _ _ (by simpa using e)]
  congr 1
  simp
 ·rw[Q7 (by simpa using c),Q7 (by rw[gu];omega)]
def BM(a:List aj):Prop:=a.Pairwise λb c=>dQ c b=false
def IH(n:aO jj 63 f b d a c K)(u:K.length<=20000000):
  Calls XP 154 #[.slice d a c,.func (.func 155) #[] #[]] b (Ok λN v=>N= .tuple #[]/\∃B,B.Perm K/\BM B/\aO jj 63 f v d a c B/\ak (λo=>aF d=some o) b v):=by
 obtain⟨cs,D,C,Z,O⟩:=n.body;obtain⟨g,E,rfl,a4⟩:=Z.evs;have F:=n.len dC;have w:g.length=a:=by rw[F,<-E];simp
 rcases C.cases with⟨rfl,rfl,rfl,h0⟩|⟨i,k,rfl,x,P,H,Q⟩
 ·have hd:g=[]:=QW w
  refine(AnyF.slices_SortFunc_none Tryz.Tl none 0 _ b).mono ?_;rintro q v ⟨rfl,rfl⟩;exact Ok.mk ⟨rfl,K,List.Perm.refl _,by rw[<-E,hd];exact List.Pairwise.nil,n,ak.refl _⟩
 ·have R:jj.k=10:=rfl
  rw[R]at Q H;have a5:flatK encS 10 g.toArray=(g.flatMap encS).toArray:=by rw[<-BO]
  have hH:HoldsK encS 10 b i 0 g.toArray:=by
   intro l r;rw[size_flatK]at r;simp only[List.size_toArray]at r;have S:l<(g.flatMap encS).length:=by rw[gu];exact r
   refine⟨?_,by simp[World.frozen?,x]⟩;have m:(flatK encS 10 g.toArray)[l]! =(g.flatMap encS)[l]:=by
    rw[a5,getElem!_pos _ l (by simpa using S)];simp
   rw[m,Xz];refine ae x ?_;have j:(k.toList.take (a*10))[l]? =some (g.flatMap encS)[l]:=by rw[Q];exact Qq S
   rw[Xw,if_pos oM]at j;simpa using j
  have u:=C.row;have I:c<=maxLen:=by
   obtain⟨_,a0,_,T,_,_,_,I,_⟩:=C.row.2.resolve_left (by rintro⟨n,_⟩;cases n);simp only[XX]at T;rw[T.2.2];exact I
  have a6:g.toArray.size<4611686018427387904:=by
   simp only[List.size_toArray,w];omega
  have U:=AnyQ.slices_SortFunc Tryz.Tl 10 (λb=>cI _ _ _ kR ⟨_,Tryz.underlying63⟩ b) (λb=>Tryz.sizeOf63 b) encS (λ_=>rfl) QM (λy V=>rX y.e V.e) VA 155 #[] i 0 c g.toArray b
   (enters_of Tryz.func155 kR rfl) (λb0 s dk b1 y V=>(BN).mono ?_) hH (ax x) a6
  ·rw[show g.toArray.size=a by simpa using w]at U
   refine U.mono ?_;rintro q v ⟨rfl,h,z,s,hp,hs,rfl⟩;obtain⟨p1,p2,W⟩:=hp;have e:h.size=a:=p1.trans (by simpa using w);have X:h.toList.Perm g:=by
    have m:h.extract 0 a=h:=by rw[<-e];exact Array.extract_size
    have j:g.toArray.extract 0 a=g.toArray:=by rw[show a=g.toArray.size by simpa using w.symm];exact Array.extract_size
    rw[m,j]at W;exact W
   have a1:flatK encS 10 h=(h.toList.flatMap encS).toArray:=by rw[<-BO]
   have J:(sortWorldK encS 10 b i 0 z h s).heap[i]? =some (.cells (putCells id 0 (flatK encS 10 h) k) 63 (0,0)):=by
    have a7:=ax x;show((Sort.ahead b z).heap.modify i _++s)[i]? =_;rw[Array.getElem?_append_left (by simpa[Sort.ahead]using a7),Array.getElem?_modify,if_pos rfl];show Option.map _ b.heap[i]? =_;rw[x];rfl
   have A:ak (λo=>aF (ZX i)=some o) b (sortWorldK encS 10 b i 0 z h s):=by
    refine⟨rfl,rfl,rfl,?_,λa2 A F=>?_⟩
    ·show b.heap.size<=((Sort.ahead b z).heap.modify i _++s).size
     simp[Sort.ahead]
    ·show((Sort.ahead b z).heap.modify i _++s)[a2]? =_
     rw[Array.getElem?_append_left (by simpa[Sort.ahead]using A),Array.getElem?_modify,if_neg (λq=>F (by rw[q];rfl))]
     rfl
   have a3:(putCells id 0 (flatK encS 10 h) k).size=c*10:=by unfold putCells;rw[Array.size_mapIdx];exact H
   refine Ok.mk ⟨rfl,h.toList.map (·.e),by rw[<-E];exact X.map _,?_,⟨⟨h.toList.flatMap encS,D,⟨⟨?_,.inr ⟨i,c,_,rfl,Qj _,J,P,I,a3,?_⟩⟩⟩,bu.QN λy hx=>?_,O⟩,n.self,λo u=>Qk (n.aB o u) A.size⟩,A⟩
   ·unfold BM
    rw[List.pairwise_map,List.pairwise_iff_getElem];intro Y l hi r a8;have m:=hs Y l (Qj _) a8 (by simpa[e]using r);rw[zl,getElem!_pos _ l (by simpa using r),getElem!_pos _ Y (by simpa using hi)]at m;simpa using m
   ·rw[gu,XK,e];rfl
   ·apply X3
    intro t;rw[R,Xw];split
    ·rename_i p
     rw[qN (by rw[XK,e];exact p),<-qN (by rw[XK,e];exact p)];unfold putCells;have a9:t<k.size:=by rw[H];exact Qk p (Q0 _ P)
     rw[Array.getElem?_toList,Array.getElem?_mapIdx,X6 a9];simp only[Option.map_some];have L:t<(flatK encS 10 h).size:=by rw[size_flatK,e];exact p
     rw[if_pos ⟨Qj _,by rw[Xz];exact L⟩,Nat.sub_zero,getElem!_pos _ t L];have:(flatK encS 10 h)[t]=(h.toList.flatMap encS)[t]'(by rw[gu,XK,e];exact p):=by
      have j:=congrArg (·[t]?) a1;simp only[List.getElem?_toArray]at j;rw[X6 L,Qq (by rw[gu,XK,e];exact p)]at j;exact XJ j
     rw[this];exact(Qq _).symm
    ·rename_i p
     rw[Q7 (by rw[gu,XK,e];omega)]
   ·have M:y∈g:=X.mem_iff.1 hx
    obtain⟨m,j⟩:=a4 y M;exact⟨m.af A λo u q=>(O o u).2 q,j⟩
  ·rintro q v ⟨N,rfl,rfl,hG⟩
   exact⟨rfl,hG⟩
open Go.ar
abbrev Tt(a:List aj):Prop:=a.Pairwise λb c=>dQ b c=true
structure aw.OK (S:aw):Prop where
 n:S.n<=64
 Oz:Tt S.l
 ids:(S.l.map aW).Nodup
 VW:∀e∈S.l,cK e S.n=0
 ok:∀e∈S.l,e.Ok
def Ev(b:aW o≠aW N):dQ o N=true\/dQ N o=true:=by
 rw[iR,iR];have:¬(o.origin=N.origin/\o.seq=N.seq):=λa=>b (by unfold aW;rw[a.1,a.2]);omega
def sJ{a b c:aj}(d:dQ a b=true)(e:dQ b c=true):dQ a c=true:=by rw[iR]at*;omega
def my(a:dQ o N=true):dQ N o=false:=by rw[iR]at a;rw[tI];omega
def cV(b:aj):∀a,(dd b a).Perm (b::a)
 |[]=>List.Perm.refl _
 |x::a=>by
  unfold dd;split
  ·exact List.Perm.refl _
  ·exact(List.Perm.cons x (cV b a)).trans (List.Perm.swap b x a)
def vI{e:aj}:∀{b},Tt b->(∀x∈b,aW x≠aW e)->Tt (dd e b)
 |[],_,_=>by unfold dd;exact List.pairwise_singleton ..
 |x::b,f,g=>by
  obtain⟨h,i⟩:=List.pairwise_cons.1 f;unfold dd;split
  ·rename_i d
   exact List.pairwise_cons.2 ⟨λc a=>by
    rcases Q2.1 a with rfl|a
    ·exact d
    ·exact sJ d (h c a),f⟩
  ·rename_i d
   refine List.pairwise_cons.2 ⟨λc a=>?_,vI i λc a=>g c (QJ _ a)⟩;rcases Q2.1 ((cV e b).mem_iff.1 a)with rfl|a
   ·exact(Ev (g x (QV ..))).resolve_right (by simpa using d)
   ·exact h c a
def Lb(i:BM K)(j:Tt e5)(d:K.Perm e5)(k:(K.map aW).Nodup):K=e5:=by
 refine d.eq_of_pairwise (le:=λb a=>dQ a b=false) (λb a l m e f=>?_) i (j.imp λh=>my h)
 by_cases g:aW b=aW a
 ·have c:a∈K:=d.mem_iff.2 m
  obtain⟨p,n,rfl⟩:=List.getElem_of_mem l;obtain⟨q,o,rfl⟩:=List.getElem_of_mem c;have:=(List.getElem_inj (xs:=K.map aW) (h₀:=by simpa using n) (h₁:=by simpa using o) k).1 (by simpa using g);subst this;rfl
 ·rcases Ev g with h|h
  ·rw[h]at f;cases f
  ·rw[h]at e;cases e
def SD(b:(K.map aW).Nodup)(a:o∈K):K.find? (λc=>aW c==aW o)=some o:=by
 induction K with
 |nil=>cases a
 |cons c K d=>
  simp only[QY,List.nodup_cons]at b;rcases Q2.1 a with rfl|a
  ·simp
  ·have e:aW c≠aW o:=λf=>b.1 (f▸Xk.2 ⟨o,a,rfl⟩)
   rw[List.find?_cons_of_neg (by simpa using e)];exact d b.2 a
def aw.get_some(a:F.get d6=some o):o∈F.l/\aW o=d6:=
 ⟨List.mem_of_find?_eq_some a,by simpa using List.find?_some a⟩
def aw.get_none(b:F.get d6=none):∀a∈F.l,aW a≠d6:=λa c=>by
 have:=List.find?_eq_none.1 b a c;simpa using this
def aw.OK.get(a:F.OK)(b:o∈F.l):F.get (aW o)=some o:=SD a.ids b
def IG(i:F.OK)(e:∀a∈h0,a.1=aW a.2)(f:(h0.map (·.2)).Perm F.l)(m:Tidy h0)(b:Int×Int):aE h0 b=F.get b:=by
 cases c:aE h0 b with
 |none=>
  rw[jP]at c
  symm
  refine List.find?_eq_none.2 λd j=>?_;obtain⟨a,g,rfl⟩:=Xk.1 (f.mem_iff.2 j);intro k;exact c (Xk.2 ⟨a,g,by rw[e a g];simpa using k⟩)
 |some d=>
  have h:=bS c;have l:b=aW d:=e _ h;have:d∈F.l:=f.mem_iff.1 (Xk.2 ⟨_,h,rfl⟩);rw[l,i.get this]
def xg(b:List aj)(a:Int):b.foldl (λa c=>max a c.ay) a=max a (b.foldl (λa c=>max a c.ay) 0)\/a<0:=by
 induction b generalizing a with
 |nil=>simp;omega
 |cons d b e=>
  rw[List.foldl_cons,List.foldl_cons]
  by_cases g:a<0
  ·exact .inr g
  ·rcases e (max a d.ay)with h|h
   ·rcases e (max 0 d.ay)with f|f
    ·left;rw[h,f];omega
    ·omega
   ·omega
def aw.SA(a:aw)(b:aj):aw.top ⟨a.n,dd b a.l⟩=max a.top b.ay:=by
 show(dd b a.l).foldl _ _=_;rw[(cV b a.l).foldl_eq' (λc _ d _ e=>oM),List.foldl_cons];rcases xg a.l (max 0 b.ay)with h|h
 ·rw[h]
  show max (max 0 b.ay) a.top=_;have:0<=a.top:=by
   rcases xg a.l 0 with h|h
   ·unfold aw.top;omega
   ·omega
  omega
 ·omega
def aw.KO(a:aw):0<=a.top:=by
 rcases xg a.l 0 with h|h
 ·unfold aw.top;omega
 ·omega
def qQ(b:cK o a=0):0<=o.origin/\o.origin<a/\1<=o.seq/\1<=o.ay/\0<=o.agg/\0<=o.key/\o.aP.length=a/\(∀c∈o.aP,0<=c)/\o.aP.getD o.origin.toNat 0=oD (o.seq-1)/\1<=o.op/\o.op<=5/\0<=o.aS/\o.aS<8/\0<=o.field/\o.field<8:=by
 unfold cK at b;split at b
 ·simp at b
 ·rename_i d
  split at b
  ·simp at b
  ·rename_i e
   split at b
   ·simp at b
   ·rename_i i
    split at b
    ·simp at b
    ·rename_i j
     simp only[not_or,List.any_eq_true,decide_eq_true_eq,not_exists,not_and]at d;obtain⟨k,l,m,c,n,f⟩:=d;refine⟨oM,oM,oM,oM,oM,oM,oM,λg h=>by have:=f g h;omega,by simpa using e,oM,oM,oM,oM,oM,oM⟩
def aw.EB(a:aw)(b:aj)(c:Nat):aw.EA ⟨a.n,dd b a.l⟩ c=a.EA c+if b.origin=(c:Int)then 1 else 0:=by
 unfold aw.EA;show(dd b a.l).countP _=_;rw[(cV b a.l).countP_eq,List.countP_cons]
 congr 1
 simp
def aw.Qo(a:aw)(b:Nat):a.EA b<=a.l.length:=List.countP_le_length
def aw.bL(a:aw):a.vec.length=a.n:=by simp[aw.vec]
def aw.oh(b:aw)(c:a<b.n):b.vec[a]? =some (b.EA a:Int):=by simp[aw.vec,c]
def aw.tR(S:aw)(b:a<S.n):S.vec.getD a 0=(S.EA a:Int):=by rw[QQ,S.oh b];rfl
def aw.SB(b:aw)(d:aj)(g:d.origin=(a:Int)):aw.vec ⟨b.n,dd d b.l⟩=b.vec.set a (b.EA a+1:Int):=by
 apply X3;intro e
 by_cases c:e<b.n
 ·rw[aw.oh ⟨b.n,dd d b.l⟩ c,aw.EB,Xj,b.oh c,b.bL]
  by_cases f:a=e
  ·subst f;simp[g,c]
  ·rw[if_neg f,if_neg oM];simp
 ·rw[Q7 (by rw[aw.bL];exact Nat.le_of_not_lt c),Q7 (by rw[List.length_set,b.bL];omega)]
def aw.add_def(a:aw)(b:aj):a.add b=if cK b a.n≠0 then(cK b a.n,a)else if(a.get (aW b)).isSome then(16,a)else
 if b.seq≠(a.vec.getD b.origin.toNat 0)+1 then(9,a)else if(List.range a.n).any λc=>!a.ly b c then(9,a)else(0,⟨a.n,dd b a.l⟩):=rfl
def aw.zy(a:F.OK)(h:o.Ok):(F.add o).2.OK/\(F.add o).2.n=F.n:=by
 rw[aw.add_def]
 by_cases d:cK o F.n=0
 rotate_left
 ·rw[if_pos d];exact⟨a,rfl⟩
 rw[if_neg (by simpa using d)]
 by_cases e:(F.get (aW o)).isSome=true
 ·rw[if_pos e];exact⟨a,rfl⟩
 rw[if_neg e];split
 ·exact⟨a,rfl⟩
 split
 ·exact⟨a,rfl⟩
 have g:F.get (aW o)=none:=by simpa using e
 have f:=cV o F.l;refine⟨⟨a.n,vI a.Oz (aw.get_none g),?_,?_,?_⟩,rfl⟩
 ·refine(f.map aW).nodup_iff.2 ?_
  rw[QY,List.nodup_cons];exact⟨λi=>by obtain⟨c,b,j⟩:=Xk.1 i;exact aw.get_none g c b j,a.ids⟩
 ·intro c b
  rcases Q2.1 (f.mem_iff.1 b)with rfl|b
  ·exact d
  ·exact a.VW c b
 ·intro c b
  rcases Q2.1 (f.mem_iff.1 b)with rfl|b
  ·exact h
  ·exact a.ok c b
def aw.sF(b:a<=64):aw.OK ⟨a,[]⟩:=⟨b,List.Pairwise.nil,sM,sM,sM⟩
end Go.Proofs.YtjgjkeponbeekaaGreatDoor
namespace Go.ar
open Go
def wX(a:List Int):List UInt8:=bI ((a.length:Int)::a)
def vi(a:List Int):List UInt8:=fR 2 (wX a)
def od(a:List UInt8):List Int×lP:=bg (bW 64 ⟨a,0,0⟩).1.toNat (bW 64 ⟨a,0,0⟩).2
def js(a:List UInt8):Option (List Int):=
 if(bk a).no≠0\/(bk a).n≠a.length\/(bk a).kind≠2 then none else if kj (od (bk a).body).2≠0 then none else some (od (bk a).body).1
def DQ(a:List UInt8):(∀b∈(od a).1,aH b)/\(od a).1.length<=64/\(od a).2.Fit:=by
 obtain⟨c,g,h,i⟩:=lP.Fit.count (r:=⟨a,0,0⟩) ⟨Qj _,.inl rfl⟩ (m:=64) oM;obtain⟨d,e,f,j⟩:=c.ints (bW 64 ⟨a,0,0⟩).1.toNat;exact⟨e,by show(bg _ _).1.length<=64;rw[f];omega,d⟩
variable{t:List Int}{x:List UInt8}
def Nw(a:js x=some t):(∀b∈t,aH b)/\t.length<=64:=by
 unfold js at a;split at a
 ·cases a
 split at a
 ·cases a
 ·cases a
  exact⟨(DQ _).1,(DQ _).2.1⟩
def DP(c:∀a∈t,aH a)(d:t.length<=64):(wX t).length<=585:=by
 have:=fj (l:=(t.length:Int)::t) (by
  intro a b;rcases Q2.1 b with rfl|b
  ·unfold aH;omega
  ·exact c a b)
 unfold wX;rw[Xq]at this;omega
def Bs(a:List Int):(vi a).length=(wX a).length+9:=kp _ _
end Go.ar
namespace Go.Proofs.YtjgjkeponbeekaaGreatDoor
open Go.ar
def rR:ft:=⟨[(2,[])],[],[],[],[(4,⟨[0,0,2,4,8,0,0,64,128,256,512,0,2048,4096,8192,17408,32800,65536,131088,262145],[1048575,1048575,1048573,1048571,1048567,1048575,1048575,1048511,1048447,1048319,1048063,1048575,1046527,1044479,1040383,1031167,1015775,983039,917487,786430],[0,0,0,0,1,0,0,0,0,1,0,0,0,0,1,0,0,0,0,2]⟩)]⟩
variable{w:ByteArray}{s:Ending->World->Prop}{e:Int}{a:Nat}{f:Nat->Prop}{d:Option Addr}{j:Type}{b:World}
def rU(M:(∃m n,d=some ⟨m,n,none⟩/\(∃(o:Option Nat),b.cell? ⟨m,n+1,none⟩=some (.map o)/\PC XP 137 #[.map o,.func (.func 138) #[] #[]] b (λN p=>
   N= .tuple #[]/\(∃q r,d=some ⟨q,r,none⟩/\(∃(t:Option Nat),p.cell? ⟨q,r+1,none⟩=some (.map t)/\aG XP (Instr.range 141 (.map t)) p (λu O=>
   (∃j:Nat->World->Prop,(∃i,j i O)/\∀(i:Nat) (c1:Nat->Value) (v:World),j i v->aG XP (Instr.next u false 0) v (λw x=>
   (w= .tuple #[.bool false]/\(∃y z,d=some ⟨y,z,none⟩/\PS x ⟨y,z+2,none⟩ (.bool false) λP=>(∃A B,d=some ⟨A,B,none⟩/\
   PS P ⟨A,B+4,none⟩ (.bool false) λQ=>s (.returned (.tuple #[])) Q)))\/(∃R S,w= .tuple #[.bool true,R,S]/\aG XP (Instr.entry u) x (λT U=>
   ∃(V:Value),∃(a:Option Addr),T= .tuple #[V,.pointer a]/\(∀c,bd U c->(∃C E,a=some ⟨C,E,none⟩/\(∃(F:Int),c.cell? ⟨C,E+1,none⟩=some (XH F)/\
   (∃H I,a=some ⟨H,I,none⟩/\(∃(W:Option Addr) (f:Nat) (X:Nat),c.cell? ⟨H,I,none⟩=some (.slice W f X)/\
   (∃J K,a=some ⟨J,K,none⟩/\(∃(g:Int),c.cell? ⟨J,K+1,none⟩=some (XH g)/\PC XP 139 #[.pointer a,XH (IntKind.wrap .i64 (F+(if(if(IntKind.wrap .i64 (((f:Nat):Int)-g))<e then(IntKind.wrap .i64 (((f:Nat):Int)-g))else e)>0 then(if(IntKind.wrap .i64 (((f:Nat):Int)-g))<e then(IntKind.wrap .i64 (((f:Nat):Int)-g))else e)else 0)))] c (λY Z=>
   Y= .tuple #[]/\(∃L,L<i/\j L Z)) (λk l=>∀(_:bG) (_:cC),s (.panicked k) l))))))))) (λh b=>s (.panicked [{v:=h,recovered:=false}]) b))) (λh b=>
   s (.panicked [{v:=h,recovered:=false}]) b))) (λh b=>s (.panicked [{v:=h,recovered:=false}]) b)))) (λk b=>s (.panicked k) b)))):
  Calls XP 83 #[.pointer d,XH e] b s:=
 fu rR mixed Tryz.func83 rfl (Nat.le_of_ble_eq_true kR) kR (Eq.mp kR M)
def TI(b:Int)(a:cH):Int:=a.synced+max 0 (min b ((a.bytes.length:Int)-a.synced))
def Fh(b:Int)(a:cH):cH:=a.cut (TI b a)
def an.AS(D:an)(b:Int):an:={D with files:=(D.files.filter λa=>a.2.lO).map (λa=>(a.1,Fh b a.2)),qf:=false,dead:=false}
def an.HF(D:an)(a:List (ByteArray×cH)):an:=⟨D.most,a,D.qf,D.left,D.dead⟩
def an.gi(D:an):an:={D with files:=D.files.filter λa=>a.2.lO}
def Cx(a:List (ByteArray×cH))(b:ByteArray×cH->Bool):dX (a.filter b)<=dX a:=by
 unfold dX
 induction a with
 |nil=>simp
 |cons c a d=>
  rw[List.filter_cons];split
  ·simp;omega
  ·simp;omega
def xA{a:List (ByteArray×j)}(b:Tidy a)(c:ByteArray×j->Bool):Tidy (a.filter c):=List.Nodup.sublist (List.Sublist.map _ List.filter_sublist) b
def an.Ok.gi{D:an}(a:D.Ok):D.gi.Ok:=by
 have e:=Cx D.files λb=>b.2.lO;have d:=a.fits;have f:=List.length_filter_le (λb:ByteArray×cH=>b.2.lO) D.files;have g:=a.many;unfold an.used at d;exact⟨a.most,by show dX (D.files.filter _)<=D.most;omega,by show(D.files.filter _).length<=64;omega,xA a.tidy _,λb c=>a.names b (List.mem_filter.1 c).1,λb c=>a.Rh b (List.mem_filter.1 c).1,a.AN,a.AO⟩
def Pp{b:List (ByteArray×j)}(d:Tidy b){m g:ByteArray×j->j}{u n:j}(i:(w,u)∈b)(k:∀c∈b,c.1≠w->g c=m c)(q:g (w,u)=n):
  aI (b.map λa=>(a.1,m a)) w n=b.map λa=>(a.1,g a):=by
 induction b with
 |nil=>cases i
 |cons r b o=>
  obtain⟨a,c⟩:=r;unfold Tidy at d o;simp only[QY,List.nodup_cons]at d;simp only[QY];unfold aI
  by_cases h:(w==a)=true
  ·have s:w=a:=eq_of_beq h
   subst s;have t:c=u:=by
    rcases Q2.1 i with h|h
    ·cases h;rfl
    ·exact absurd (Xk.2 ⟨_,h,rfl⟩) d.1
   subst t;rw[if_pos h,q]
   congr 1
   refine List.map_congr_left λe f=>?_;rw[k e (QJ _ f) λl=>d.1 (Xk.2 ⟨e,f,l⟩)]
  ·have p:a≠w:=λl=>h (by rw[l];simp)
   rw[if_neg h,k (a,c) (QV ..) p]
   congr 1
   refine o d.2 ?_ λe f=>k e (QJ _ f);rcases Q2.1 i with H|H
   ·cases H;exact absurd rfl p
   ·exact H
def rV(b:Int)(left:List (ByteArray×mU))(a:ByteArray×cH):cH:=if left.any (λc=>c.1==a.1)then a.2 else Fh b a.2
def Kh{D:an}(h:aN b a f D)(e5:aH e):
  Calls XP 83 #[ZQ a,XH e] b (Ok λS u=>∃r,S= .tuple #[]/\aN u a r (D.AS e)/\bK f b r u):=by
 obtain⟨v,y,l⟩:=h.open;have e6:y.filter (λc=>c.2.f.lO)=y.filter (λc=>c.2.f.lO):=rfl;refine rU ⟨a,0,rfl,some v,ae l.head rfl,PC.ok (yK l.map l.each λc m d k=>(l.HA c m d k).2.2) ?_⟩;rintro _ w ⟨rfl,c1,C⟩;have c2:∀d,d=v->f d:=λd o=>o▸l.Fr;have s:eI w a f D.gi v (y.filter λc=>c.2.f.lO):=by
  have E:∀c∈y.filter (λc=>c.2.f.lO),c∈y:=λc m=>(List.mem_filter.1 m).1;refine⟨C.get l.head (λo=>l.pr o),c1,?_,⟨λc m=>(l.each.each c (E c m)).af C λd k=>(l.HA c (E c m) d k).2.2,λc m g p=>l.each.apart c (E c m) g (E g p),xA l.each.tidy _⟩,λc m=>l.HA c (E c m),l.Fr,l.pr,l.self,λd k=>Qk (l.aB d k) C.size,l.ok.gi⟩;show D.files.filter _=_;rw[l.files,List.filter_map]
  rfl
 generalize e7:y.filter (λc=>c.2.f.lO)=q at s;have c3:∀c∈q,∀d,c.2.G d->d<w.heap.size:=λc m d k=>(s.each.each c m).aB d k;refine⟨rfl,a,0,rfl,some v,ae s.head rfl,mapRange mF s.map λw2 hR T s2=>?_⟩;have c4:Tidy D.gi.files:=s.ok.tidy;have c5:∀g∈q,uB g∈D.gi.files:=λg p=>by rw[s.files];exact Xk.2 ⟨g,p,rfl⟩
 have a5:bK f b f w2:=⟨((C.mono λd _ k=>c2 d k)).ah T,λ_ h=>.inl h⟩
 refine⟨λU u=>∃(left t:List (ByteArray×mU)) (r:Nat->Prop),cA u w.heap.size v Value.string (q.map dF) (left.map dF)/\U=left.length/\eI u a r (D.gi.HF (D.gi.files.map λj=>(j.1,rV e left j))) v t/\t.map dF=q.map dF/\
   bK f b r u/\(∀c∈left,c∈q/\aE t c.1=some c.2)/\Tidy left/\w.heap.size<u.heap.size/\¬r w.heap.size,
  ⟨_,q,q,f,hR,rfl,?_,rfl,a5,λc m=>⟨m,qh s.each.tidy m⟩,s.each.tidy,oM,λk=>by have:=s.aB _ k;omega⟩,?_⟩
 ·have o:(D.gi.files.map λc=>(c.1,rV e q c))=D.gi.files:=by
   have:∀c∈D.gi.files,(c.1,rV e q c)=c:=λc m=>by
    rw[s.files]at m;obtain⟨g,p,rfl⟩:=Xk.1 m;have:q.any (λj=>j.1==(uB g).1)=true:=List.any_eq_true.2 ⟨g,p,by simp[uB]⟩;unfold rV;rw[if_pos this]
   have J:=List.map_congr_left (f:=λc=>(c.1,rV e q c)) (g:=id) this;rw[J,List.map_id]
  rw[o];exact s.ah T
 ·rintro U a1 w3 ⟨left,t,r,c6,rfl,V,a7,K,W,z,e2,X⟩
  refine mV c6 (λL=>.inl ⟨rfl,?_⟩) λi S l1 l2 Y c7 c8 c9 Z s4=>.inr ⟨_,_,rfl,qj c9 ?_⟩
  ·have d0:left=[]:=by simpa using L
   subst d0;refine⟨a,0,rfl,V.at.Hz λw5 h5 k5 s5=>⟨a,0,rfl,h5.yY λw6 h6 k6 s6=>Ok.mk ⟨r,rfl,?_,K.trans ⟨k5.then k6,λ_ h=>.inl h⟩⟩⟩⟩;have o:(D.gi.files.map λc=>(c.1,rV e [] c))=(D.files.filter λc=>c.2.lO).map (λc=>(c.1,Fh e c.2)):=List.map_congr_left λc _=>by simp[rV]
   rw[o]at h6;exact h6
  ·obtain⟨n,c,d,rfl,rfl,rfl,rfl⟩:=wO c7
   obtain⟨a8,F⟩:=W (i,c) sM;have F:aE t i=some c:=F;have a9:∀d,d=w.heap.size->¬r d:=λd o=>o▸X;have x:=V.af Z λd k o=>a9 d o k;have M:=x.get F;have N:=bS F;have d1:dJ Y c.q c.G c.f:=x.each.each _ N;have d2:∀d,c.G d->d<w.heap.size:=c3 _ a8;have b0:∀d,c.G d->r d/\d≠a/\d≠v:=x.HA _ N;have b1:c.f.bytes.length<=262144:=x.ok.len (bS M);have e3:c.f.synced<=c.f.bytes.length:=x.ok.Rh _ (bS M);have e8:c.f=(uB (i,c)).2:=rfl;refine⟨_,_,rfl,λw5 A=>?_⟩;have b2:=d1.af (A.af (S:=λ_=>False)) λ_ _ h=>h;have b3:=x.ah A.af;obtain⟨fa,B,fc,F0,H,J,h3,h4⟩:=b2.body;have b4:B=c.f.bytes.length:=J.len dC;have I:(if(if(IntKind.wrap .i64 (((B:Nat):Int)-(c.f.synced:Int)))<e then(IntKind.wrap .i64 (((B:Nat):Int)-(c.f.synced:Int)))else e)>0 then(if(IntKind.wrap .i64 (((B:Nat):Int)-(c.f.synced:Int)))<e then(IntKind.wrap .i64 (((B:Nat):Int)-(c.f.synced:Int)))else e)else 0)=max 0 (min e ((c.f.bytes.length:Int)-c.f.synced)):=by
    rw[wrap_i64 (by unfold aH;omega),b4];omega
   refine⟨c.q,0,rfl,_,ae H rfl,c.q,0,rfl,fa,B,fc,ae H rfl,c.q,0,rfl,_,ae H rfl,?_⟩;rw[I,wrap_i64 (by unfold aH at*;omega)];refine PC.ok (AR b2 b1) ?_;rintro _ w6 ⟨O,rfl,P,Q⟩
   replace P:dJ w6 c.q O (Fh e c.f):=P
   have d3:((D.gi.HF (D.gi.files.map λj=>(j.1,rV e (n++(i,c)::d) j))).gy i (Fh e c.f)).Ok:=b3.ok.cut M _;obtain⟨F6,b5,a0⟩:=b3.d_ F P Q d3;have d4:=c8.af (A.af (S:=λ_=>False)) id id;have d5:=d4.af Q.af (λk=>by have:=d2 _ k;omega) (λk=>(b0 _ k).2.2 rfl);have b6:i∉(n++d).map (·.1):=by
    unfold Tidy at z;rw[Q3,QY]at z;rw[Q3];intro b7;have hp:=(List.perm_middle (a:=i) (l₁:=n.map (·.1)) (l₂:=d.map (·.1))).nodup_iff.1 z;exact(List.nodup_cons.1 hp).1 b7
   have b8:Tidy (n++d):=by
    unfold Tidy at z⊢;rw[Q3,QY]at z;rw[Q3];exact(List.nodup_cons.1 ((List.perm_middle (a:=i) (l₁:=n.map (·.1)) (l₂:=d.map (·.1))).nodup_iff.1 z)).2
   have b9:(n++d).any (λg=>g.1==i)=false:=by
    rw[List.any_eq_false];intro g p L;exact b6 (Xk.2 ⟨g,p,eq_of_beq L⟩)
   have eX:aI (D.gi.files.map λj=>(j.1,rV e (n++(i,c)::d) j)) i (Fh e c.f)=D.gi.files.map λj=>(j.1,rV e (n++d) j):=by
    refine Pp (u:=c.f) c4 (c5 _ a8) (λg p R=>?_) ?_
    ·have d6:(i==g.1)=false:=beq_false_of_ne (Ne.symm R)
     have o:(n++(i,c)::d).any (λj=>j.1==g.1)=(n++d).any (λj=>j.1==g.1):=by
      rw[List.any_append,List.any_cons,List.any_append,d6,Bool.false_or]
     show rV e (n++d) g=rV e (n++(i,c)::d) g;unfold rV;rw[o]
    ·unfold rV
     rw[if_neg (by show¬((n++d).any (λg=>g.1==i)=true);rw[b9];simp)]
   have d7:(D.gi.HF (D.gi.files.map λj=>(j.1,rV e (n++(i,c)::d) j))).gy i (Fh e c.f)=D.gi.HF (D.gi.files.map λj=>(j.1,rV e (n++d) j)):=by
    unfold an.gy an.HF;simp only[eX]
   rw[d7]at b5;have a4:(aI t i (⟨c.q,O,Fh e c.f⟩:mU)).map dF=q.map dF:=by
    have H:(aI t i (⟨c.q,O,Fh e c.f⟩:mU)).map dF=aI (t.map dF) i (ptr c.q):=qg (λc:mU=>ptr c.q) t i _;rw[H,qi (k:=i) (v:=ptr c.q) (l:=t.map dF) (Xk.2 ⟨(i,c),N,rfl⟩) x.map.tidy,a7]
   refine⟨rfl,_,?_,n++d,_,F6,by rw[Q3];exact d5,rfl,b5,a4,?_,λg p=>?_,b8,?_,?_⟩
   ·simp
   ·have e4:=C.size
    have d8:bK f b r Y:=⟨K.af.new Z λd k=>.inr oM,K.new⟩
    exact(d8.trans ⟨A.af,λ_ h=>.inl h⟩).trans a0
   ·have d9:g∈n++(i,c)::d:=by simp only[Q6,Q2]at p⊢;exact p.imp id .inr
    obtain⟨e0,e1⟩:=W g d9;have R:g.1≠i:=λo=>b6 (Xk.2 ⟨g,p,o⟩);refine⟨e0,?_⟩;rw[qT,if_neg (by simpa using R)];exact e1
   ·have:=Q.af.size;have:=(A.af (S:=λ_=>False)).size;omega
   ·intro k
    rcases a0.new _ k with h|h
    ·exact X h
    ·have:=(A.af (S:=λ_=>False)).size;omega
end Go.Proofs.YtjgjkeponbeekaaGreatDoor

import Derived.Test.YtfchlbaidamodaaGreatDoorKd13
import Derived.Lib.AppendIntMem
import Derived.Laws.Concat
import Derived.Shelf.SlSortCmp.WholeK
import Derived.Shelf.SlMaps.Clone
import Derived.Ground.SlsfProg
import Derived.Ground.SlmcProg
import Derived.Shelf.SlGeneric
import Derived.Shelf.SlSortCmp.NoneTotal
set_option linter.all false
set_option maxRecDepth 20000
namespace Go.ax
open Go
def cR (a:List UInt8):ByteArray:=⟨a.toArray⟩
theorem og (a:List UInt8):(cR a).data.toList=a:=by simp [cR]
theorem WM (a:ByteArray):cR a.data.toList=a:=by simp [cR]
variable{c7 x:List UInt8}{a:Nat}{Q X:Operand}{h:Program}{g:TypeId}{o t:Value->World->Prop}{b:World}
theorem Ox (a:cR x=cR c7):x=c7:=by rw [<-og x,a,og]
theorem jf (a:List UInt8):(cR a).size=a.length:=by simp [cR,ByteArray.size]
def gV (a:ByteArray):Int×Bool:=match jw a.data.toList with
 |some b=>(b,true)
 |none=>(0,false)
theorem Zc {a c:List UInt8} (e:a.length+c.length<=1000000000) (d:o (.string (cR (a++c))) b):
  aH h (do eqGuard .add g Q X (.string (cR a)) (.string (cR c));binOp .add g (.string (cR a)) (.string (cR c))) b o t:=by
 refine aH.mk (v:=.string (cR a++cR c)) (w':=b) ?_ ?_
 ·rw [Sem.run_bind,show(eqGuard .add g Q X (.string (cR a)) (.string (cR c))).run h b= .ok () b from rfl,Result.andThen_ok,binOp_string_add,run_string_add_sum b (cR a) (cR c) (by rw [jf,jf];omega)]
 have:cR a++cR c=cR (a++c):=by
  apply ByteArray.ext;simp [cR]
 rw [this];exact d
theorem ai.UQ {c:Array Obj}:ai b (Sort.grow (b.drewN a) c):=
 ⟨rfl,rfl,rfl,sM,λe d _=>by rw [Sort.heap_grow_old _ _ (by simpa using d)];rfl⟩
end Go.ax
namespace Go.Proofs.YtfchlbaidamodaaGreatDoor
open Go.ax
structure Laid (w:World):Prop where
 oH:qU w
 pow:Lib.TabIs ZX w "internal/strconv.uint64pow10" .u64 Lib.pow10Tab
variable{w:ByteArray}{e:Int}{c7 x:List UInt8}{b l:World}
theorem Laid.af (a:Laid b) (c:ai b l):Laid l:=⟨a.oH.af c,Lib.tabBelow_of_tabIs a.pow l c.below⟩
theorem strconv_Itoa {a:Int} {b:World} (e:Laid b) (c:aN a):Calls ZX 173 #[XG a] b (Ok λf d=>f= .string (cR (Lib.itoa a))/\ai b d):=by
 refine(Any.strconv_Itoa Tryz.Ta a c.1 c.2 b e.pow).mono ?_;rintro g d ⟨rfl,h,i,rfl⟩;exact Ok.mk ⟨rfl,ai.UQ⟩
theorem jV (c:Laid b) (d:aN e):Calls ZX 120 #[XG e] b (Ok λf g=>f= .string (cR (aB e))/\ai b g):=by
 refine BU (al.dec (λa=>?_) (λi=>al.dec (λa=>?_) (λj=>PC.ok (strconv_Itoa c d) ?_)))
 ·exact Ok.mk ⟨by unfold aB;rw [if_pos (.inl a)];rfl,aj.refl _⟩
 ·exact Ok.mk ⟨by unfold aB;rw [if_pos (.inr a)];rfl,aj.refl _⟩
 rintro _ k ⟨rfl,h⟩;refine⟨_,rfl,Zc (a:=dV) ?_ ⟨_,rfl,Ok.mk ⟨?_,h⟩⟩⟩
 ·have:=pC (u:=e.toNat) oM
  unfold Lib.itoa;rw [if_neg oM];show 4+_<=_;omega
 ·rw [mI oM oM]
  unfold Lib.itoa;rw [if_neg oM]
theorem DM :Calls ZX 328 #[.string (cR x),.string (cR c7)] b (Ok λd e=>d= .bool (decide (x.take c7.length=c7))/\b=e):=by
 refine iE ?_;rw [jf,jf];refine al.dec (λa=>⟨oM,oM,Ok.mk ⟨?_,rfl⟩⟩) (λa=>Ok.mk ⟨?_,rfl⟩)
 ·rw [Qx]
  have c:ByteArray.toList (ByteArray.extract (cR x) 0 c7.length)=x.take c7.length:=by
   rw [ByteArray.toList_eq,ByteArray.data_extract];simp [cR]
  have f:ByteArray.toList (cR c7)=c7:=by rw [ByteArray.toList_eq,og]
  rw [c,f]
  congr 1
  by_cases a:x.take c7.length=c7<;>simp [a]
 ·have:x.take c7.length≠c7:=λc=>by have:=congrArg List.length c;simp at this;omega
  rw [Xv this]
theorem Fc :Calls ZX 248 #[.string (cR x),.string (cR c7)] b (Ok λc d=>c= .tuple (if x.take c7.length=c7 then #[.string (cR (x.drop c7.length)),.bool true]else #[.string (cR x),.bool false])/\b=d):=by
 refine rf (PC.ok (φ:=λc d=>c= .tuple (if x.take c7.length=c7 then #[.string (cR (x.drop c7.length)),.bool true]else #[.string (cR x),.bool false])/\b=d) (iC (PC.ok DM ?_)) ?_)
 ·rintro _ _ ⟨rfl,rfl⟩
  refine⟨_,rfl,?_⟩;rw [jf,jf]
  by_cases a:x.take c7.length=c7
  ·rw [if_pos a,decide_eq_true a]
   have g:c7.length<=x.length:=by have:=congrArg List.length a;simp at this;omega
   refine al.ff rfl ⟨oM,oM,Ok.mk ⟨?_,rfl⟩⟩;have e:ByteArray.extract (cR x) (Int.toNat ((c7.length:Nat):Int)) x.length=cR (x.drop c7.length):=by
    apply ByteArray.ext;rw [Qx,ByteArray.data_extract];have f:List.take (x.length-c7.length) (List.drop c7.length x)=List.drop c7.length x:=Qz sM;simp [cR,f]
   rw [e]
  ·rw [if_neg a,Xv a]
   exact al.tt rfl (Ok.mk ⟨rfl,rfl⟩)
 ·rintro _ _ ⟨rfl,rfl⟩
  split
  ·exact⟨_,_,rfl,Ok.mk ⟨rfl,rfl⟩⟩
  ·exact⟨_,_,rfl,Ok.mk ⟨rfl,rfl⟩⟩
theorem BI (z:Laid b):Calls ZX 177 #[.string w] b (Ok λm f=>m= .tuple #[XG (gV w).1,.bool (gV w).2]/\ai b f):=by
 rw [<-WM w];generalize w.data.toList=g;have e:(⟨#[115,101,103,46]⟩:ByteArray)=cR dV:=rfl;unfold gV;rw [og];refine ye ?_;rw [e];refine PC.ok Fc ?_;rintro _ _ ⟨rfl,rfl⟩;have no:∀f,jw g=none->ai b f->Ok (λm f=>m= .tuple #[XG (match jw g with|some n=>((n:Int),true)|none=>(0,false)).1,.bool (match jw g with|some n=>((n:Int),true)|none=>(0,false)).2]/\ai b f) (.returned (.tuple #[XG 0,.bool false])) f:=λf q A=>by
  rw [q];exact Ok.mk ⟨rfl,A⟩
 by_cases h:g.take dV.length=dV
 ·rw [if_pos h]
  refine⟨_,_,rfl,al.ff rfl ?_⟩;have r:g=dV++g.drop 4:=by
   have:=List.take_append_drop 4 g;rw [show g.take 4=dV from h]at this;exact this.symm
  change al (decide (((ByteArray.size (cR (g.drop 4)):Nat):Int)>12)) _ _
  generalize S:g.drop 4=c at r;subst r;rw [jf];refine al.dec (λq=>no _ (NA (by rw [QX];show 16<4+_;omega)) (aj.refl _)) (λT=>?_);refine CI Tryz.underlying9 λU B C V=>⟨λs t f=>∃a,s=c.length-a/\a<=c.length/\t=(fq (c.take a):Int)/\f.heap[b.heap.size]? =some (.stringIter (cR c) a)/\ai b f/\(c.take a).all gQ=true,⟨_,0,rfl,Qj _,rfl,B,C,rfl⟩,?_⟩
  rintro s t W X ⟨a,rfl,Y,rfl,E,i,j⟩;have F:=yR _ j;refine HL E (λH=>.inl ⟨rfl,?_⟩) λe u v k Z=>.inr ⟨_,_,rfl,?_⟩
  ·rw [jf]at H
   rw [Qz oM]at j F⊢;have a0:10 ^ c.length<=10 ^ 12:=Nat.pow_le_pow_right oM oM;have I:(10:Nat) ^ 12=1000000000000:=dC
   refine PC.ok (jV (z.af i) (by unfold aN;omega)) ?_;rintro _ u ⟨rfl,k⟩;have x:=Iu j oM;refine⟨_,rfl,al.Zl (λJ=>no _ ?_ (i.then k)) (λK=>?_)⟩
   ·rw [x,if_neg λL=>J (by rw [L])]
   ·rw [x,if_pos (Ox K)]
    exact Ok.mk ⟨rfl,i.then k⟩
  ·have o:a<c.length:=by rwa [jf]at e
   have l:ai b u:=i.new k λa1 y=>.inr oM;have p:c[a]? =some ((cR c)[a]'e):=by
    rw [Qq o]
    congr 1
   have d:gQ ((cR c)[a]'e)=false->jw (dV++c)=none:=λM=>KO (List.all_eq_false.2 ⟨_,QZ p,by simp [M]⟩)
   by_cases y:((cR c)[a]'e).toNat<128
   ·rw [decode_ascii _ a e y]at v⊢
    simp only;refine al.dec (λN=>no _ (d ?_) l) (λO=>al.dec (λP=>no _ (d ?_) l) (λQ=>?_))
    ·unfold gQ;exact Xv oM
    ·unfold gQ;exact Xv oM
    ·have a2:10 ^(c.take a).length<=10 ^ 12:=Nat.pow_le_pow_right oM (by simp;omega)
     have I:(10:Nat) ^ 12=1000000000000:=dC
     refine⟨_,oM,a+1,rfl,oM,?_,v,l,?_⟩
     ·rw [Qw,p]
      show _=((fq (c.take a++[_]):Nat):Int);rw [fY];have R:IntKind.wrap .i32 ((((cR c)[a]'e).toNat:Int)-48)=(((cR c)[a]'e).toNat:Int)-48:=by
       unfold IntKind.wrap;simp [IntKind.signed,IntKind.bits];omega
      rw [R,wrap_i64 (x:=(((cR c)[a]'e).toNat:Int)-48) (by unfold aN;omega),wrap_i64 (x:=10*_) (by unfold aN;omega),wrap_i64 (by unfold aN;omega)];omega
     ·rw [Qw,p,List.all_append,j]
      simp [gQ];omega
   ·have hh:=(decode_high _ a e oM).1
    refine al.dec (λN=>oM) (λO=>al.dec (λP=>no _ (d ?_) l) (λQ=>oM));unfold gQ;exact Xv oM
 ·rw [if_neg h]
  exact⟨_,_,rfl,al.tt rfl (no _ (QI h) (aj.refl _))⟩
end Go.Proofs.YtfchlbaidamodaaGreatDoor
namespace Go.Proofs.YtfchlbaidamodaaGreatDoor
open Go.ax
theorem Vy:jP ZX 55 3 1 8:=⟨kR,kR,dC⟩
def fH (b:List Int) (a:Int):Int:=if a<0 then 0 else max (b.getD a.toNat 0) 0
theorem HM {xs:List Int} {i:Int} {x:Int} (b:0<=i) (a:xs[i.toNat]? =some x):fH xs i=max x 0:=by
 unfold fH;rw [if_neg oM];simp [List.getD,a]
variable{e m:Int}{b0 u:List Int}{a c i n:Nat}{d p:Option Addr}{b:World}{k:ah}
theorem JF {xs:List Int} (a:(xs.length:Int)<=e):fH xs e=0:=by
 unfold fH;split
 ·rfl
 ·have:xs[e.toNat]? =none:=by simp;omega
  simp [List.getD,this]
theorem oD {i:Int} (h:Ints b d a u):
  Calls ZX 112 #[.slice d a c,XG i] b (Ok λj k=>j= XG (fH u i)/\b=k):=by
 refine Po ?_;refine al.mk (λf=>?_) (λf=>al.mk (λe=>?_) (λe=>?_))
 ·have:=XV f
  exact Ok.mk ⟨by simp [fH,this],rfl⟩
 ·have e:=XV e
  exact Ok.mk ⟨by rw [JF (by rw [<-h.len];exact e)],rfl⟩
 ·have f:=Xy f
  have e:=Xy e;obtain⟨l,g,m,rfl,p,n,q,o⟩:=h.at (i:=i) oM oM;refine⟨l,g,rfl,oM,oM,m,o,Ok.mk ⟨?_,rfl⟩⟩;rw [HM oM n]
  congr 1
  omega
def oC (b c:List Int) (d:Nat):List Int:=(List.range d).map λ(a:Nat)=>max (fH b a) (fH c a)
def jo (a b:List Int):List Int:=oC a b (max a.length b.length)
theorem KW (b c:List Int) (a:Nat):oC b c (a+1)=oC b c a++[max (fH b a) (fH c a)]:=by simp [oC,List.range_succ]
theorem tO (b c:List Int) (a:Nat):(oC b c a).length=a:=by simp [oC]
def Ix (b:World) (g:TypeId) (h:List Int) (i:Value) (c:World):Prop:=
 ∃a d e,i= .slice a d e/\Own c g 1 a d e (ints h)/\ai b c/\∀f,aI a=some f->b.heap.size<=f
theorem U_ :(if m>e then m else e)=max e m:=oM
theorem BG (k:Ints b d a u) (e:Ints b p c b0):
  Calls ZX 108 #[.slice d a i,.slice p c n] b (Ok (Ix b 3 (jo u b0))):=by
 have w:=k.len;have x:=e.len;have y:=k.d_;have z:=e.d_;unfold aQ at y z;refine LM ⟨λq l f r s t=>s=(f:Int)/\f<=max a c/\q=max a c-f/\Own t 3 1 l f r (ints (oC u b0 f))/\ai b t/\∀p,aI l=some p->b.heap.size<=p,
  ⟨_,rfl,oM,rfl,Own.nil _ _ _,aj.refl _,by simp [aI]⟩,?_⟩
 rintro q l f r s _ E ⟨rfl,F,rfl,v,g,m⟩;refine al.mk (λh=>?_) (λh=>?_)
 ·have h:=XV h
  refine PC.ok (oD (k.af g)) ?_;rintro _ _ ⟨rfl,rfl⟩;refine⟨_,rfl,PC.ok (oD (e.af g)) ?_⟩;rintro _ _ ⟨rfl,rfl⟩;refine⟨_,rfl,PA.mk λH o I A=>?_⟩;refine NQ Vy (v.af o) A (by unfold aQ;omega) λJ K L B C j=>?_;refine⟨_,_,_,rfl,_,?_,?_,oM,rfl,?_,(g.af o).new C ?_,?_⟩
  ·omega
  ·rw [wrap_i64 (by unfold aN;omega)];simp
  ·rw [KW,<-U_];exact B
  ·intro p e;exact .inr (m p e.symm)
  ·intro p e
   rcases j with j|j
   ·exact m p (j▸e)
   ·rw [j]at e;cases e;have:=g.size;have:=o.size;omega
 ·have h:=Xy h
  have:f=max a c:=oM
  subst this;refine Ok.mk ⟨_,_,_,rfl,?_,g,m⟩;unfold jo;rw [<-w,<-x];exact v
def zW (a b:List Int):Nat->Int
 |0=>0
 |k+1=>if fH a k<fH b k then Rg .i64 (zW a b k) 1 else if fH a k>fH b k then Rg .i64 (zW a b k) 2 else zW a b k
def sk (a b:List Int):Int:=zW a b (max a.length b.length)
theorem OP (j:Ints b d a u) (k:Ints b p c b0):
  Calls ZX 109 #[.slice d a i,.slice p c n] b (Ok λs l=>s= XG (sk u b0)/\b=l):=by
 have t:=j.len;have v:=k.len;have w:=j.d_;have x:=k.d_;unfold aQ at w x;refine Pn ⟨λo q r l=>∃e:Nat,r=e/\e<=max a c/\o=max a c-e/\q=zW u b0 e/\l=b,
  ⟨_,0,rfl,oM,rfl,rfl,rfl⟩,?_⟩
 rintro o q r _ y ⟨e,rfl,z,rfl,rfl,rfl⟩;refine al.mk (λh=>?_) (λh=>?_)
 ·have h:=XV h
  refine PC.ok (oD j) ?_;rintro _ _ ⟨rfl,rfl⟩;refine⟨_,rfl,PC.ok (oD k) ?_⟩;rintro _ _ ⟨rfl,rfl⟩;have m:IntKind.wrap .i64 ((e:Int)+1)=((e+1:Nat):Int):=by rw [wrap_i64 (by unfold aN;omega)];simp
  refine⟨_,rfl,al.mk (λf=>?_) (λf=>al.mk (λg=>?_) (λg=>?_))⟩
  ·have f:=XV f
   exact⟨_,oM,e+1,m,oM,rfl,by simp [zW,f],rfl⟩
  ·have f:=Xy f
   have g:=XV g;exact⟨_,oM,e+1,m,oM,rfl,by simp [zW,f,g],rfl⟩
  ·have f:=Xy f
   have g:=Xy g;exact⟨_,oM,e+1,m,oM,rfl,by simp [zW,f,g],rfl⟩
 ·have h:=Xy h
  have:e=max a c:=oM
  subst this;exact Ok.mk ⟨by unfold sk;rw [<-t,<-v],rfl⟩
structure kO where
 ck:Int
 qF:Int
 lU:Int
 least:Int
 deriving DecidableEq
structure bD where
 kind:Int
 eV:Int
 floor:Bool
 bH:List kO
 deriving DecidableEq
structure jO where
 bd:Int
 field:Int
 group:Int
 GO:Int
 make:Int
 deriving DecidableEq
structure aR where
 types:List (List bD)
 projs:List jO
 deriving DecidableEq
structure jS where
 bd:Int
 agg:Int
 field:Int
 op:Int
 arg:Int
 expect:Int
 key:Int
 deriving DecidableEq
structure du where
 n:Int
 set:List Int
 deriving DecidableEq
structure mV where
 version:Int
 cells:List du
 deriving DecidableEq
structure df where
 ev:ah
 void:Bool
 GO:Int×Int
structure ep where
 group:Int
 value:Int
 count:Int
 deriving DecidableEq
abbrev pH (a:Int):Int:=IntKind.wrap .i64 a
def within (a b c:Int):Bool:=decide (b<=a)&&decide (a<=c)
def aR.at (a:aR) (b:Int):List bD:=if within b 0 (a.types.length-1)then a.types.getD b.toNat []else []
def aR.Ed (a:aR) (b c:Int):Option bD:=
 if within b 0 (a.types.length-1)&&within c 0 ((a.at b).length-1)then(a.at b)[c.toNat]? else none
def rO (a:Int):Int:=if a=1 then 1 else if a=2 then 2 else if a=3 then 3 else if a=4 then 3 else if a=5 then 4 else 0
def jY (b:aR) (c d op arg:Int):Int:=match b.Ed c d with
 |none=>8
 |some a=>if !within op 1 5||rO op !=a.kind then 2 else if op==1&&arg==0||op==5&& !within arg 0 (a.bH.length-1)then 1 else 0
def sj (a:aR):Bool:=
 if !within a.types.length 1 8||decide (8<a.projs.length)then true else
 a.types.any λc=>!within c.length 1 8||c.any λb=>if b.kind==4 then !within b.bH.length 1 16 else decide (0<b.bH.length)
def Tz (b:List bD) (c a:Int):Bool:=within c 0 (b.length-1)&&((b[c.toNat]?).map (·.kind)==some a)
def Wn (a b:Int):Bool:=b==1||b==2&&within a 2 4||b==3&&a==2
def fK (a:List bD) (f:bD):Int:=
 if !within f.kind 1 4 then 2 else if !within f.eV 1 3|| !Wn f.kind f.eV||f.floor&&f.kind !=1 then 1 else
 if f.bH.any λm=>decide (m.ck<0)||decide (m.qF<0)||m.lU== -1&&m.least !=0 then 1 else
 if f.bH.any λm=>m.lU != -1&& !Tz a m.lU 1 then 8 else 0
def mK (b:aR) (a:jO):Int:=
 if(b.Ed a.bd a.field).isNone then 8 else
 if a.group==3&& !Tz (b.at a.bd) a.GO 2||a.group !=3&&a.GO !=0 then 8 else
 if !within a.group 1 3|| !within a.make 1 5 then 2 else 0
def cO {b:Type} (a:b->Int):List b->Int
 |[]=>0
 |x::c=>if a x !=0 then a x else cO a c
def dd (a:aR):Int:=
 if sj a then 3 else
 let b:=cO (λc=>cO (fK c) c) a.types
 if b !=0 then b else cO (mK a) a.projs
def aO (a:ah):Int×Int:=(a.origin,a.seq)
def fg (a b:ah):Bool:=decide (a.aA<b.aA)||a.aA==b.aA&&(decide (a.origin<b.origin)||a.origin==b.origin&&decide (a.seq<b.seq))
def tJ (a b:ah):Int:=if fg a b then-1 else if fg b a then 1 else 0
def dh (a:ah) (b:Nat):Int:=
 if a.origin<0\/(b:Int)<=a.origin\/min a.seq a.aA<1\/min a.agg a.key<0\/a.aK.length≠b\/a.aK.any (λc=>decide (c<0))then 1 else
 if a.aK.getD a.origin.toNat 0≠pH (a.seq-1)then 9 else
 if a.op<1\/5<a.op then 2 else if min a.bd a.field<0\/8<=a.bd\/8<=a.field then 8 else 0
def Ck (a b:ah):Bool:=decide (a.seq<=fH b.aK a.origin)
def wy (a b:ah):Bool:=aO a !=aO b&& !Ck a b&& !Ck b a
structure aq where
 n:Nat
 l:List ah
def dO (a:ah):List ah->List ah
 |[]=>[a]
 |x::b=>if fg a x then a::x::b else x::dO a b
def aq.sX (a:aq) (b:Nat):Nat:=a.l.countP λc=>c.origin==(b:Int)
def aq.vec (a:aq):List Int:=(List.range a.n).map λb=>(a.sX b:Int)
def aq.get (a:aq) (id:Int×Int):Option ah:=a.l.find? λe=>aO e==id
def aq.top (a:aq):Int:=a.l.foldl (λb c=>max b c.aA) 0
def aq.ly (f:aq) (a:ah) (c:Nat):Bool:=
 let d:=a.aK.getD c 0
 d==0||match f.get (c,d)with
  |none=>false
  |some b=>decide (b.aA<a.aA)&&(List.range b.aK.length).all λe=>decide (b.aK.getD e 0<=a.aK.getD e 0)
def aq.add (a:aq) (b:ah):Int×aq:=
 let no:=dh b a.n
 if no≠0 then(no,a)else
 if(a.get (aO b)).isSome then(16,a)else
 if b.seq≠(a.vec.getD b.origin.toNat 0)+1 then(9,a)else
 if(List.range a.n).any λc=>!a.ly b c then(9,a)else(0,{a with l:=dO b a.l})
def aq.eI (a:aq) (l:List ah):aq:=l.foldl (λa b=>(a.add b).2) a
def aq.missing (c:aq) (d:List Int) (a:Int):List ah:=(c.l.filter λb=>decide (max 0 (fH d b.origin)<b.seq)).take (max 0 a).toNat
def aq.keyed (a:aq) (key:Int):Option ah:=a.l.find? λb=>key !=0&&b.key==key
def dG (a:List bD):List du:=a.map λ_=>⟨0,[]⟩
def NT (a b:Int):Bool:=decide (a<pH (a+b))==decide (0<b)
def xL (g:List bD) (e:List du) (a d arg:Int):Int:=
 let f:=g.getD a.toNat ⟨0,0,false,[]⟩
 let b:=e.getD a.toNat ⟨0,[]⟩
 let h:Bool:=
  if d=1 then(arg==0||NT b.n arg)&& !(f.floor&&decide (pH (b.n+arg)<0))
  else if d=3 then decide (arg∈b.set)||decide (b.set.length<64)
  else if d=5 then(let c:=f.bH.getD arg.toNat ⟨0,0,0,0⟩;b.n==c.ck&&(decide (c.lU<0)||decide (c.least<=(e.getD c.lU.toNat ⟨0,[]⟩).n)))
  else true
 if h then 0 else 10
def qN (a:Int):List Int->List Int
 |[]=>[a]
 |y::b=>if a<y then a::y::b else if a=y then y::b else y::qN a b
def TO (e:List bD) (c:List du) (a d arg:Int):List du:=
 let f:=e.getD a.toNat ⟨0,0,false,[]⟩
 let b:=c.getD a.toNat ⟨0,[]⟩
 if d=1 then c.set a.toNat {b with n:=pH (b.n+arg)}
 else if d=2 then c.set a.toNat {b with n:=arg}
 else if d=3 then c.set a.toNat {b with set:=qN arg b.set}
 else if d=4 then c.set a.toNat {b with set:=b.set.filter λg=>g !=arg}
 else if d=5 then c.set a.toNat {b with n:=(f.bH.getD arg.toNat ⟨0,0,0,0⟩).qF}
 else c
def fl (c:bD) (a b:Int×Int):Bool:=
 if c.kind=2 then a.1==2&&b.1==2&&a !=b
 else if c.kind=4 then a.1==5&&b.1==5&&a !=b
 else if c.kind=3 then a==(3,b.2)&&b==(4,a.2)||a==(4,b.2)&&b==(3,a.2)
 else false
def mU (f:bD) (a b:ah):Bool:=(f.eV==2||f.eV==3&&decide (b.arg<a.arg))&&fl f (a.op,a.arg) (b.op,b.arg)&&wy a b
structure bk where
 decl:aR
 entries:List df
 fj:List ((Int×Int)×mV)
 done:List ((Int×Int×Int)×List ah)
def bk.new (a:aR):bk:=⟨a,[],[],[]⟩
def bk.try (b:bk) (a:ah):Bool×(Int×Int)×bk:=
 if jY b.decl a.bd a.field a.op a.arg≠0 then(true,(0,0),b)else
 let e:=b.decl.at a.bd
 let d:=(a.bd,a.agg,a.field)
 match((ay b.done d).getD []).find? λg=>mU (e.getD a.field.toNat ⟨0,0,false,[]⟩) g a with
 |some g=>(true,aO g,b)
 |none=>
  let f:=ay b.fj (a.bd,a.agg)
  let c:=match f with
   |some f=>f.cells
   |none=>dG e
  if xL e c a.field a.op a.arg≠0 then(true,(0,0),b)else
  (false,(0,0),{b with
   fj:=aJ b.fj (a.bd,a.agg) ⟨pH ((f.getD ⟨0,[]⟩).version+1),TO e c a.field a.op a.arg⟩
   done:=aJ b.done d ((ay b.done d).getD []++[a])})
def bk.add (d:bk) (b:ah):df×bk:=
 let a:=d.try b
 let c:df:=⟨b,a.1,a.2.1⟩
 (c,{a.2.2 with entries:=a.2.2.entries++[c]})
def bk.state (a:bk) (b c:Int):Option mV:=ay a.fj (b,c)
def cG (a:aR) (b:List ah):bk:=b.foldl (λc d=>(c.add d).2) (bk.new a)
def ll (d:List df) (e b f:Int) (a:Nat):List df×Bool:=
 let own:=(d.filter λc=>c.ev.bd==e&&c.ev.agg==b).drop (max f 0).toNat
 (own.take a,decide (a<own.length))
def ot (d:List ep) (a:Int) (b:Nat):List ep×Bool:=
 let c:=d.dropWhile λe=>decide (e.group<=a)
 (c.take b,decide (b<c.length))
def fB (b:aR) (a:jS):Int:=if a.agg<0\/a.key<0\/a.expect< -1 then 1 else jY b a.bd a.field a.op a.arg
def a_ (b:jS) (a:Int) (c:List Int) (d:Int):Int×ah:=
 let no:ah:=⟨0,0,0,[],0,0,0,0,0,0⟩
 if a<0\/(c.length:Int)<=a\/d<0 then(1,no)else
 if fH c a=9223372036854775807\/d=9223372036854775807 then(13,no)else
 (0,⟨a,fH c a+1,d+1,jo c [],b.bd,b.agg,b.field,b.op,b.arg,b.key⟩)
def kV (f:aR) (d:aq) (j:bk) (b start:Int) (a:jS):ah×Bool×Int:=
 let no:ah:=⟨0,0,0,[],0,0,0,0,0,0⟩
 let g:=fB f a
 if g≠0 then(no,false,g)else
 match d.keyed a.key with
 |some k=>(k,false,0)
 |none=>
  let h:=f.at a.bd
  let i:=j.state a.bd a.agg
  let c:=match i with
   |some l=>l.cells
   |none=>dG h
  if¬(a.expect= -1\/a.expect=(i.getD ⟨0,[]⟩).version)then(no,false,11)else
  if xL h c a.field a.op a.arg≠0 then(no,false,10)else
  let e:=a_ a b d.vec (max d.top start)
  (e.2,decide (e.1=0),e.1)
structure ef where
 p:jO
 rows:List (Int×ep)
def mG (a:jO) (b:ep) (arg:Int):Int:=
 if a.make=1 then b.count else if a.make=2 then pH (b.value+arg)else
 if a.make=5\/b.count=1/\(a.make=3\/a.make=4)then arg else
 if a.make=3 then min b.value arg else if a.make=4 then max b.value arg else 0
def ef.add (a:ef) (e:df) (d:Int):ef:=
 let c:=if a.p.group=1 then some e.ev.agg else if a.p.group=2 then some e.ev.arg else if a.p.group=3 then some d else none
 match c with
 |none=>a
 |some c=>
  if e.void||e.ev.bd !=a.p.bd||e.ev.field !=a.p.field then a else
  let b:=(ay a.rows c).getD ⟨0,0,0⟩
  let b:ep:=⟨c,b.value,pH (b.count+1)⟩
  {a with rows:=aJ a.rows c ⟨c,mG a.p b e.ev.arg,b.count⟩}
def ng (a:ep):List ep->List ep
 |[]=>[a]
 |y::b=>if a.group<y.group then a::y::b else y::ng a b
def ef.list (a:ef):List ep:=(a.rows.map (·.2)).foldr ng []
structure kL where
 view:bk
 rows:List ef
def kL.new (a:aR):kL:=⟨bk.new a,a.projs.map λb=>⟨b,[]⟩⟩
def tI (a:Option mV) (b:jO):Int:=match a with
 |none=>0
 |some a=>((a.cells[b.GO.toNat]?).map (·.n)).getD 0
def kL.add (c:kL) (a:ah):kL:=
 let b:=c.view.add a
 let e:=b.2.state a.bd a.agg
 ⟨b.2,c.rows.map λd=>d.add b.1 (tI e d.p)⟩
def eN (a:aR) (b:List ah):kL:=b.foldl kL.add (kL.new a)
def dQ (a:Nat) (b:List ah) (c:ah):Bool×List ah:=
 if a<=b.length\/b.any (λd=>aO d==aO c)then(false,b)else(true,dO c b)
def cP (a:aq):List ah->Option (ah×aq×List ah)
 |[]=>none
 |e::c=>if(a.add e).1=0 then some (e,(a.add e).2,c)else(cP a c).map λb=>(b.1,b.2.1,e::b.2.2)
def cW:Nat->aq->List ah->List ah->List ah×List ah
 |0,c,b,a=>(a,b)
 |k+1,c,b,a=>match cP c b with
  |none=>(a,b)
  |some (d,e,f)=>cW k e f (a++[d])
def bI (b:aq) (a:List ah):List ah×List ah:=
 let a:=a.filter λc=>(b.get (aO c)).isNone
 cW (a.length+1) b a []
structure dz where
 kind:Int
 ck:Int
 qF:Int
 vec:List Int
 events:List ah
def iu (a:dz) (b:Int):Int:=if 0<a.events.length then 8 else if(a.vec.length:Int)≠b then 1 else if a.vec.any (λc=>decide (c<0))then 1 else 0
def ez (b:dz) (c:Nat) (a:Int):Int:=if 0<b.vec.length then 8 else if b.events.length<1\/a<(b.events.length:Int)then 3 else cO (λd=>dh d c) b.events
def dJ (m:dz) (c:Nat) (b:Int):Int:=
 let a:=!(decide (0<=m.ck)&&decide (m.ck<c))|| !(decide (0<=m.qF)&&decide (m.qF<c))||m.ck==m.qF
 if m.kind=3 then(if a then 1 else ez m c b)
 else if m.kind=1\/m.kind=2\/m.kind=4 then(if a then 1 else iu m c)
 else 2
def lj (a:aq) (b c:Int):dz:=⟨1,b,c,a.vec,[]⟩
def yN (a:aq) (b c:Int):dz:=⟨4,b,c,a.vec,[]⟩
def mE (e:aq) (a:Int) (b:dz) (c:Int):List dz:=
 if b.kind≠1/\b.kind≠2 then []else
 let f:=e.missing b.vec (max 1 (min c 32))
 let h:List dz:=if 0<f.length then [⟨3,a,b.ck,[],f⟩]else []
 let g:=sk b.vec e.vec
 let i:List dz:=if b.kind=1/\(g=2\/g=3)then [⟨2,a,b.ck,e.vec,[]⟩]else []
 let d:=h++i
 if d.isEmpty then [yN e a b.ck]else d
theorem HF :(if m<e then m else e)=min e m:=oM
theorem Uc {D:Nat->Prop} (k:Row aP 8 b D d a u):
  Calls ZX 200 #[.slice d a c,.func (.func 199) #[] #[]] b (Ok λi e=>i= .bool (u.any λf=>decide (f<0))/\b=e):=by
 have x:=k.len;have r:=k.d_;unfold aQ at r;refine jT (PC.ok (φ:=λi e=>(∃h:Int,i= XG h/\(0<=h↔(u.any λf=>decide (f<0))=true))/\b=e) (lD ⟨λn h e=>∃g:Nat,h=g/\g<=a/\n=a-g/\((u.take g).any λf=>decide (f<0))=false/\b=e,
  ⟨_,0,rfl,Qj _,rfl,sM,rfl⟩,?_⟩) ?_)
 ·rintro n h _ _ ⟨g,rfl,y,rfl,l,rfl⟩
  refine al.dec (λs=>?_) (λs=>?_)
  ·obtain⟨t,m,o,rfl,p,_,v⟩:=k.mh (i:=g) oM
   refine⟨t,m,rfl,oM,oM,_,v,199,_,_,rfl,kR,PC.ok (φ:=λi e=>i= .bool (decide (o<0))/\b=e) (Az (Ok.mk ⟨rfl,rfl⟩)) ?_⟩;rintro _ _ ⟨rfl,rfl⟩;refine⟨_,rfl,al.dec (λq=>?_) (λq=>?_)⟩
   ·exact Ok.mk ⟨⟨_,rfl,λ_=>List.any_eq_true.2 ⟨o,QZ p,by simpa using q⟩,λ_=>oM⟩,rfl⟩
   ·refine⟨_,oM,g+1,an oM,oM,rfl,?_,rfl⟩
    rw [Qw,p,List.any_append,l];simp;omega
  ·rw [Qz oM]at l
   exact Ok.mk ⟨⟨_,rfl,λj=>oM,λj=>by rw [l]at j;cases j⟩,rfl⟩
 ·rintro _ _ ⟨⟨h,rfl,w⟩,rfl⟩
  exact⟨_,rfl,Ok.mk ⟨by cases j:(u.any λf=>decide (f<0))<;>simp [j]at w⊢<;>omega,rfl⟩⟩
theorem zj {D:Nat->Prop} (n:Row aP 8 b D d a k.aK) (J:i<4611686018427387904):
  Calls ZX 140 #[.agg (aE k d a c).toArray,XG (i:Int)] b (Ok λl m=>l= XG (dh k i)/\ai b m):=by
 have K:=n.len;have y:=n.d_;unfold aQ at y;refine Ca (PA.mk λz o L h=>⟨_,ae h rfl,?_⟩);have g:(k.origin<0\/(i:Int)<=k.origin\/min k.seq k.aA<1\/min k.agg k.key<0\/k.aK.length≠i\/k.aK.any (λq=>decide (q<0))=true)->Ok (λl m=>l= XG (dh k i)/\ai b m) (.returned (XG 1)) z:=λe=>by
  refine Ok.mk ⟨?_,o⟩;unfold dh;rw [if_pos e]
 refine al.dec (λe=>g (.inl e)) λM=>⟨_,ae h rfl,al.dec (λe=>g (.inr (.inl e))) λN=>⟨_,ae h rfl,_,ae h rfl,?_⟩⟩
 rw [HF];refine al.dec (λe=>g (.inr (.inr (.inl e)))) λO=>⟨_,ae h rfl,_,ae h rfl,?_⟩
 rw [HF];refine al.dec (λe=>g (.inr (.inr (.inr (.inl e))))) λP=>⟨_,_,_,ae h rfl,al.dw (λe=>g (.inr (.inr (.inr (.inr (.inl oM)))))) λQ=>⟨_,_,_,ae h rfl,PC.ok (Uc (n.af o)) ?_⟩⟩
 rintro _ _ ⟨rfl,rfl⟩;refine⟨_,rfl,al.mk (λe=>g (.inr (.inr (.inr (.inr (.inr e)))))) λA=>⟨_,_,_,ae h rfl,_,ae h rfl,?_⟩⟩;obtain⟨B,r,C,rfl,E,R,F⟩:=(n.af o).mh (i:=k.origin.toNat) oM;have u:¬(k.origin<0\/(i:Int)<=k.origin\/min k.seq k.aA<1\/min k.agg k.key<0\/k.aK.length≠i\/k.aK.any (λq=>decide (q<0))=true):=by
  rw [A];simp only [Bool.false_eq_true,or_false,not_or];omega
 refine⟨B,r,rfl,oM,oM,_,F,_,ae h rfl,λv w=>?_⟩;have H:ai b v:=o.then w.keep;have j:=(bE.keep (S:=λ_=>False) w).get h id;have x:k.aK.getD k.origin.toNat 0=C:=by rw [QQ,E];rfl
 have f:∀s:Int,dh k i=s->Ok (λl m=>l= XG (dh k i)/\ai b m) (.returned (XG s)) v:=λs e=>Ok.mk ⟨by rw [e],H⟩;refine al.dw (λe=>f 9 (by unfold dh;rw [if_neg u,x,if_pos e])) λI=>⟨_,ae j rfl,?_⟩
 have t:dh k i=if k.op<1\/5<k.op then 2 else if min k.bd k.field<0\/8<=k.bd\/8<=k.field then 8 else 0:=by
  unfold dh;rw [if_neg u,x,if_neg (by simpa using I)]
 refine al.dec (λe=>f 2 (by rw [t,if_pos (.inl e)])) λS=>⟨_,ae j rfl,al.dec (λe=>f 2 (by rw [t,if_pos (.inr e)])) λT=>⟨_,ae j rfl,_,ae j rfl,?_⟩⟩
 rw [HF];have p:dh k i=if min k.bd k.field<0\/8<=k.bd\/8<=k.field then 8 else 0:=by rw [t,if_neg oM]
 refine al.dec (λe=>f 8 (by rw [p,if_pos (.inl e)])) λU=>⟨_,ae j rfl,al.dec (λe=>f 8 (by rw [p,if_pos (.inr (.inl e))])) λV=>⟨_,ae j rfl,al.dec (λe=>f 8 (by rw [p,if_pos (.inr (.inr e))])) λW=>f 0 (by rw [p,if_neg oM])⟩⟩
end Go.Proofs.YtfchlbaidamodaaGreatDoor
namespace Go.ax
open Go
def Yx (b a:Value):Bool:=match b with
 | .int c _=>match a with
  | .int d _=>decide (d=c)
  |_=>false
 | .bool _=>match a with
  | .bool _=>true
  |_=>false
 | .string _=>match a with
  | .string _=>true
  |_=>false
 | .slice _ _ _=>match a with
  | .slice _ _ _=>true
  |_=>false
 | .pointer _=>match a with
  | .pointer _=>true
  |_=>false
 | .map _=>match a with
  | .map _=>true
  |_=>false
 |_=>true
def WR:List Value->List Value->Bool
 |[],[]=>true
 |z::a,b::c=>Yx z b&&WR a c
 |_,_=>false
def TF (z a:Value):Bool:=match z with
 | .agg b=>match a with
  | .agg cs=>WR b.toList cs.toList
  |_=>false
 |z=>Yx z a
variable{q:Array Value}{a c:Nat}{J:Nat×Nat}{h:Program}{g r:TypeId}{b8 v:Value}{V:Value->Prop}{b:World}{y:World->Prop}
theorem Tl {φ:Value->Prop} (b:Yx v b8=true) (a:φ b8):Rj v φ:=by
 unfold Rj
 cases v<;>cases b8<;>simp [Yx]at b<;>first
  |exact⟨_,a⟩
  |exact⟨_,_,_,a⟩
  |(subst b;exact⟨_,a⟩)
theorem NH:∀{b cs:List Value} {φ:List Value->Prop},WR b cs=true->φ cs->Sw b φ
 |[],[],φ,_,c=>c
 |[],_::_,φ,a,_=>by simp [WR]at a
 |_::_,[],φ,a,_=>by simp [WR]at a
 |z::b,d::f,φ,a,c=>by
  simp only [WR,QK]at a;exact Tl (φ:=λd=>Sw b λe=>φ (d::e)) a.1 (NH (φ:=λe=>φ (d::e)) a.2 c)
theorem cu (a:TF v b8=true) (b:V b8):yY v V:=by
 unfold yY;split
 ·rename_i e
  cases b8<;>simp [TF]at a
  rename_i cs;exact NH (φ:=λc=>V (.agg c.toArray)) a (by simpa using b)
 ·rename_i d
  refine Tl ?_ b
  cases v<;>first|exact a|exact absurd rfl (d _)
theorem zV {d:World} {e:Addr} {f:Prop}:∀{cs:List Value} {a:Nat},(∀b v,cs[b]? =some v->d.cell? (e.add (a+b))=some v)->f->iU d e a cs f
 |[],a,_,c=>c
 |v::j,a,g,c=>⟨g 0 v rfl,zV (λb h i=>by have:=g (b+1) h (by simpa using i);rwa [show a+1+b=a+(b+1) by omega]) c⟩
def jg (a:Program) (b:TypeId) (cs:List Value):Bool:=vg a b&&(match fe a b with
 | .agg c=>Nat.beq (mB a b) c.size&&WR c.toList cs
 |_=>false)&&Nat.beq cs.length (mB a b)&&cs.all Value.oneCell'
theorem NI {cs:List Value} (i:jg h g cs=true) (k:∀e f,cs[e]? =some f->b.cell? ⟨a,c+e,none⟩=some f) (l:V (.agg cs.toArray)):
  ow h g (.pointer (some ⟨a,c,none⟩)) b V:=by
 simp only [jg,QK]at i;obtain⟨⟨⟨m,d⟩,o⟩,p⟩:=i;unfold ow;simp only [m]
 revert d
 cases fe h g<;>simp only [Bool.false_eq_true,false_implies]
 rename_i q;intro d;simp only [QK]at d;simp only [d.1];exact NH (φ:=λj=>iU b ⟨a,c,none⟩ 0 j (V (.agg j.toArray))) d.2 (zV (λe f n=>by rw [Xz,Addr.add_lit];exact k e f n) l)
theorem aw {cs:List Value} (c:jg h g cs=true) (d:b.heap[a]? =some (.cells cs.toArray r J)) (e:V (.agg cs.toArray)):
  ow h g (.pointer (some ⟨a,0,none⟩)) b V:=NI c (λi j f=>ae d (by rw [Xz];simpa using f)) e
theorem Wr {cs:List Value} (f:jg h g cs=true) (i:b.heap[a]? =some (.cells q r J)) (j:∀d e,cs[d]? =some e->q[c+d]? =some e) (k:V (.agg cs.toArray)):
  ow h g (.pointer (some ⟨a,c,none⟩)) b V:=NI f (λd e l=>ae i (j d e l)) k
theorem br {c d k:Nat} {es:List Value} (f:jg h g es=true) (i:es.length=k) (j:∀a,a<k->b.cell? ⟨c,d+a,none⟩=es[a]?) (l:V (.agg es.toArray)):
  ow h g (.pointer (some ⟨c,d,none⟩)) b V:=NI f (λa m e=>by rw [j a (by rw [<-i];exact(Qv.1 e).1)];exact e) l
theorem GI {d f:Nat} {i:TypeId} {j:World->Prop}:∀(c:List Value) (b:Nat) {a:World} {cs:Array Value},a.heap[d]? =some (.cells cs i (0,0))->f+b+c.length<=cs.size->
  (∀e,aj (·=d) a e->e.heap.size=a.heap.size->e.heap[d]? =some (.cells (DX cs (f+b) c) i (0,0))->j e)->jG ⟨d,f,none⟩ b c a j
 |[],b,a,cs,g,k,h=>h a (aj.refl _) rfl g
 |v::c,b,a,cs,g,k,h=>by
  unfold jG;rw [Addr.add_lit];rw [Xq]at k;exact PS.mk g oM λs l m n=>GI c (b+1) n (by simp;omega) λo p q r=>h o (l.then p) (q.trans m) r
theorem WS {cs:List Value} (e:jg h g cs=true) (f:b.heap[a]? =some (.cells q r (0,0))) (o:c+cs.length<=q.size)
  (i:∀d,aj (·=a) b d->d.heap.size=b.heap.size->d.heap[a]? =some (.cells (DX q c cs) r (0,0))->y d):xJ h g (.pointer (some ⟨a,c,none⟩)) (.agg cs.toArray) b y:=by
 simp only [jg,QK]at e;obtain⟨⟨⟨j,p⟩,k⟩,l⟩:=e;unfold xJ;have m:Nat.beq cs.toArray.size (mB h g)=true:=by simpa using k
 have n:cs.toArray.toList.all Value.oneCell'=true:=by simpa using l
 simp only [j,m,n];exact GI cs 0 f oM i
theorem aD {cs:List Value} (d:jg h g cs=true) (e:b.heap[a]? =some (.cells q r (0,0))) (f:cs.length=q.size)
  (i:∀c,aj (·=a) b c->c.heap.size=b.heap.size->c.heap[a]? =some (.cells cs.toArray r (0,0))->y c):xJ h g (.pointer (some ⟨a,0,none⟩)) (.agg cs.toArray) b y:=
 WS d e oM λc j k l=>i c j k (by rw [l,GH f])
end Go.ax
namespace Go.Proofs
open Go.Shelf
def Tryz.QP:Go.Shelf.Ren:=⟨λ|6=>149|15=>207|14=>206|28=>275|29=>276|20=>267|21=>268|22=>269|23=>270|24=>271|25=>272|26=>273|27=>274|46=>306|47=>307|48=>308|49=>309|50=>310|57=>330|n=>n,λ|22=>50|24=>59|25=>249|3=>3|39=>311|0=>0|53=>357|55=>359|4=>4|46=>351|45=>350|50=>193|5=>5|9=>9|66=>386|70=>379|76=>406|77=>407|n=>n,λ|n=>n⟩
theorem Tryz.Vz:Go.Proofs.SlLaysF0.n6 Tryz.prog Tryz.QP:={
 mixed:=by kernel_rfl
 f6:=⟨Tryz.f149.name,by decide,Tryz.func149.trans (congrArg some (by kernel_rfl))⟩
 f14:=⟨Tryz.f206.name,by decide,Tryz.func206.trans (congrArg some (by kernel_rfl))⟩
 f15:=Tryz.func207.trans (congrArg some (by kernel_rfl))
 f20:=⟨Tryz.f267.name,by decide,Tryz.func267.trans (congrArg some (by kernel_rfl))⟩
 f21:=⟨Tryz.f268.name,by decide,Tryz.func268.trans (congrArg some (by kernel_rfl))⟩
 f22:=⟨Tryz.f269.name,by decide,Tryz.func269.trans (congrArg some (by kernel_rfl))⟩
 f23:=⟨Tryz.f270.name,by decide,Tryz.func270.trans (congrArg some (by kernel_rfl))⟩
 f24:=⟨Tryz.f271.name,by decide,Tryz.func271.trans (congrArg some (by kernel_rfl))⟩
 f25:=⟨Tryz.f272.name,by decide,Tryz.func272.trans (congrArg some (by kernel_rfl))⟩
 f26:=⟨Tryz.f273.name,by decide,Tryz.func273.trans (congrArg some (by kernel_rfl))⟩
 f27:=⟨Tryz.f274.name,by decide,Tryz.func274.trans (congrArg some (by kernel_rfl))⟩
 f28:=Tryz.func275.trans (congrArg some (by kernel_rfl))
 f29:=Tryz.func276.trans (congrArg some (by kernel_rfl))
 f46:=⟨Tryz.f306.name,by decide,Tryz.func306.trans (congrArg some (by kernel_rfl))⟩
 f47:=Tryz.func307.trans (congrArg some (by kernel_rfl))
 f48:=Tryz.func308.trans (congrArg some (by kernel_rfl))
 f49:=⟨Tryz.f309.name,by decide,Tryz.func309.trans (congrArg some (by kernel_rfl))⟩
 f50:=⟨Tryz.f310.name,by decide,Tryz.func310.trans (congrArg some (by kernel_rfl))⟩
 f57:=⟨Tryz.f330.name,by decide,Tryz.func330.trans (congrArg some (by kernel_rfl))⟩
 t0:=Tryz.underlying0
 a0:=Tryz.isAgg0
 z0:=Tryz.sizeOf0
 v0:=Tryz.zeroValue0
 t3:=Tryz.underlying3
 a3:=Tryz.isAgg3
 z3:=Tryz.sizeOf3
 v3:=Tryz.zeroValue3
 t4:=Tryz.underlying4
 a4:=Tryz.isAgg4
 z4:=Tryz.sizeOf4
 v4:=Tryz.zeroValue4
 t5:=Tryz.underlying5
 a5:=Tryz.isAgg5
 z5:=Tryz.sizeOf5
 v5:=Tryz.zeroValue5
 t9:=Tryz.underlying9
 a9:=Tryz.isAgg9
 z9:=Tryz.sizeOf9
 v9:=Tryz.zeroValue9
 t22:=Tryz.underlying50
 a22:=Tryz.isAgg50
 z22:=Tryz.sizeOf50
 v22:=Tryz.zeroValue50
 t25:=Tryz.underlying249
 a25:=Tryz.isAgg249
 z25:=Tryz.sizeOf249
 v25:=Tryz.zeroValue249
 t39:=Tryz.underlying311
 a39:=Tryz.isAgg311
 z39:=Tryz.sizeOf311
 v39:=Tryz.zeroValue311
 t45:=Tryz.underlying350
 a45:=Tryz.isAgg350
 z45:=Tryz.sizeOf350
 v45:=Tryz.zeroValue350
 t46:=Tryz.underlying351
 a46:=Tryz.isAgg351
 z46:=Tryz.sizeOf351
 v46:=Tryz.zeroValue351
 t50:=Tryz.underlying193
 a50:=Tryz.isAgg193
 z50:=Tryz.sizeOf193
 v50:=Tryz.zeroValue193
 t53:=Tryz.underlying357
 a53:=Tryz.isAgg357
 z53:=Tryz.sizeOf357
 v53:=Tryz.zeroValue357
 t55:=Tryz.underlying359
 a55:=Tryz.isAgg359
 z55:=Tryz.sizeOf359
 v55:=Tryz.zeroValue359
 t66:=Tryz.underlying386
 a66:=Tryz.isAgg386
 z66:=Tryz.sizeOf386
 v66:=Tryz.zeroValue386
 t70:=Tryz.underlying379
 a70:=Tryz.isAgg379
 z70:=Tryz.sizeOf379
 v70:=Tryz.zeroValue379
 t76:=Tryz.underlying406
 a76:=Tryz.isAgg406
 z76:=Tryz.sizeOf406
 v76:=Tryz.zeroValue406
 t77:=Tryz.underlying407
 a77:=Tryz.isAgg407
 z77:=Tryz.sizeOf407
 v77:=Tryz.zeroValue407}
def Tryz.QR:Go.Shelf.Ren:=⟨λ|6=>395|15=>207|14=>397|28=>275|29=>276|20=>398|21=>399|22=>400|23=>401|24=>402|25=>403|26=>404|27=>405|46=>406|47=>307|48=>308|49=>407|50=>408|57=>409|n=>n,λ|22=>44|24=>268|25=>451|3=>3|39=>311|0=>0|53=>357|55=>359|4=>4|46=>351|45=>350|50=>193|5=>5|9=>9|66=>386|70=>379|76=>406|77=>407|n=>n,λ|n=>n⟩
theorem Tryz.VA:Go.Proofs.SlLaysF0.n6 Tryz.prog Tryz.QR:={
 mixed:=by kernel_rfl
 f6:=⟨Tryz.f395.name,by decide,Tryz.func395.trans (congrArg some (by kernel_rfl))⟩
 f14:=⟨Tryz.f397.name,by decide,Tryz.func397.trans (congrArg some (by kernel_rfl))⟩
 f15:=Tryz.func207.trans (congrArg some (by kernel_rfl))
 f20:=⟨Tryz.f398.name,by decide,Tryz.func398.trans (congrArg some (by kernel_rfl))⟩
 f21:=⟨Tryz.f399.name,by decide,Tryz.func399.trans (congrArg some (by kernel_rfl))⟩
 f22:=⟨Tryz.f400.name,by decide,Tryz.func400.trans (congrArg some (by kernel_rfl))⟩
 f23:=⟨Tryz.f401.name,by decide,Tryz.func401.trans (congrArg some (by kernel_rfl))⟩
 f24:=⟨Tryz.f402.name,by decide,Tryz.func402.trans (congrArg some (by kernel_rfl))⟩
 f25:=⟨Tryz.f403.name,by decide,Tryz.func403.trans (congrArg some (by kernel_rfl))⟩
 f26:=⟨Tryz.f404.name,by decide,Tryz.func404.trans (congrArg some (by kernel_rfl))⟩
 f27:=⟨Tryz.f405.name,by decide,Tryz.func405.trans (congrArg some (by kernel_rfl))⟩
 f28:=Tryz.func275.trans (congrArg some (by kernel_rfl))
 f29:=Tryz.func276.trans (congrArg some (by kernel_rfl))
 f46:=⟨Tryz.f406.name,by decide,Tryz.func406.trans (congrArg some (by kernel_rfl))⟩
 f47:=Tryz.func307.trans (congrArg some (by kernel_rfl))
 f48:=Tryz.func308.trans (congrArg some (by kernel_rfl))
 f49:=⟨Tryz.f407.name,by decide,Tryz.func407.trans (congrArg some (by kernel_rfl))⟩
 f50:=⟨Tryz.f408.name,by decide,Tryz.func408.trans (congrArg some (by kernel_rfl))⟩
 f57:=⟨Tryz.f409.name,by decide,Tryz.func409.trans (congrArg some (by kernel_rfl))⟩
 t0:=Tryz.underlying0
 a0:=Tryz.isAgg0
 z0:=Tryz.sizeOf0
 v0:=Tryz.zeroValue0
 t3:=Tryz.underlying3
 a3:=Tryz.isAgg3
 z3:=Tryz.sizeOf3
 v3:=Tryz.zeroValue3
 t4:=Tryz.underlying4
 a4:=Tryz.isAgg4
 z4:=Tryz.sizeOf4
 v4:=Tryz.zeroValue4
 t5:=Tryz.underlying5
 a5:=Tryz.isAgg5
 z5:=Tryz.sizeOf5
 v5:=Tryz.zeroValue5
 t9:=Tryz.underlying9
 a9:=Tryz.isAgg9
 z9:=Tryz.sizeOf9
 v9:=Tryz.zeroValue9
 t22:=Tryz.underlying44
 a22:=Tryz.isAgg44
 z22:=Tryz.sizeOf44
 v22:=Tryz.zeroValue44
 t25:=Tryz.underlying451
 a25:=Tryz.isAgg451
 z25:=Tryz.sizeOf451
 v25:=Tryz.zeroValue451
 t39:=Tryz.underlying311
 a39:=Tryz.isAgg311
 z39:=Tryz.sizeOf311
 v39:=Tryz.zeroValue311
 t45:=Tryz.underlying350
 a45:=Tryz.isAgg350
 z45:=Tryz.sizeOf350
 v45:=Tryz.zeroValue350
 t46:=Tryz.underlying351
 a46:=Tryz.isAgg351
 z46:=Tryz.sizeOf351
 v46:=Tryz.zeroValue351
 t50:=Tryz.underlying193
 a50:=Tryz.isAgg193
 z50:=Tryz.sizeOf193
 v50:=Tryz.zeroValue193
 t53:=Tryz.underlying357
 a53:=Tryz.isAgg357
 z53:=Tryz.sizeOf357
 v53:=Tryz.zeroValue357
 t55:=Tryz.underlying359
 a55:=Tryz.isAgg359
 z55:=Tryz.sizeOf359
 v55:=Tryz.zeroValue359
 t66:=Tryz.underlying386
 a66:=Tryz.isAgg386
 z66:=Tryz.sizeOf386
 v66:=Tryz.zeroValue386
 t70:=Tryz.underlying379
 a70:=Tryz.isAgg379
 z70:=Tryz.sizeOf379
 v70:=Tryz.zeroValue379
 t76:=Tryz.underlying406
 a76:=Tryz.isAgg406
 z76:=Tryz.sizeOf406
 v76:=Tryz.zeroValue406
 t77:=Tryz.underlying407
 a77:=Tryz.isAgg407
 z77:=Tryz.sizeOf407
 v77:=Tryz.zeroValue407}
def Tryz.NG:Go.Shelf.Ren:=⟨λ|5=>298|7=>329|n=>n,λ|23=>286|25=>3|3=>268|4=>4|20=>20|n=>n,λ|n=>n⟩
theorem Tryz.Ws:Go.Proofs.SlLaysW.n5 Tryz.prog Tryz.NG:={
 mixed:=by kernel_rfl
 f5:=⟨Tryz.f298.name,by decide,Tryz.func298.trans (congrArg some (by kernel_rfl))⟩
 f7:=Tryz.func329.trans (congrArg some (by kernel_rfl))
 t4:=Tryz.underlying4
 a4:=Tryz.isAgg4
 z4:=Tryz.sizeOf4
 v4:=Tryz.zeroValue4
 t20:=Tryz.underlying20
 a20:=Tryz.isAgg20
 z20:=Tryz.sizeOf20
 v20:=Tryz.zeroValue20
 t23:=Tryz.underlying286
 a23:=Tryz.isAgg286
 z23:=Tryz.sizeOf286
 v23:=Tryz.zeroValue286}
end Go.Proofs
namespace Go.Proofs.YtfchlbaidamodaaGreatDoor
open Go.ax Go.Sort
theorem bg (a:ah) (b:Option Addr) (c d:Nat):jg ZX 59 (aE a b c d)=true:=kR
theorem sW (a:ah) (b:Option Addr) (c d:Nat):TF (fe ZX 59) (.agg (aE a b c d).toArray)=true:=kR
def G (a b:World):Prop:=∃c d,b=grow (a.drewN c) d
variable{B e m:Int}{d6:Int×Int}{h3:List ((Int×Int)×ah)}{M e5:List ah}{a c i n:Nat}{f:Nat->Prop}{c8:Obj}{d p:Option Addr}{g:TypeId}{a7 b l:World}{y:World->Prop}{N k:ah}{A:aq}
theorem G.then (f:G b l) (g:G l a7):G b a7:=by
 obtain⟨a,c,rfl⟩:=f;obtain⟨d,e,rfl⟩:=g;exact⟨a+d,c++e,by show grow (grow ((b.drewN a).drewN d) c) e=_;rw [grow_grow,World.drewN_drewN]⟩
theorem G.keep {S:Nat->Prop} (a:G b l):aj S b l:=by
 obtain⟨f,c,rfl⟩:=a;refine⟨rfl,rfl,rfl,by simp [grow],λd e _=>?_⟩;show(b.heap++c)[d]? =_;rw [Array.getElem?_append_left e]
theorem G.drew (a:bE b l):G b l:=by obtain⟨c,rfl⟩:=a;exact⟨c,#[],sM⟩
theorem PA.Yg (c:∀a,G b a->a.heap.size=b.heap.size+1->a.heap[b.heap.size]? =some c8->y a):PA b c8 y:=
 c (b.alloc c8) ⟨0,#[c8],by rw [alloc_eq_grow];rfl⟩ sM (heap_alloc_new b c8)
theorem isNaN :Calls ZX 277 #[XG e] b (Ok λa c=>a= .bool false/\b=c):=AD (Ok.mk ⟨sM,rfl⟩)
def KV (a b:Int):Int:=if a<b then-1 else if b<a then 1 else 0
theorem il :Calls ZX 209 #[XG e,XG m] b (Ok λd f=>d= XG (KV e m)/\b=f):=by
 refine vZ (PC.ok isNaN ?_);rintro _ _ ⟨rfl,rfl⟩;refine⟨_,rfl,PC.ok isNaN ?_⟩;rintro _ _ ⟨rfl,rfl⟩;refine⟨_,rfl,al.ff rfl (al.ff rfl (al.dec (λa=>Ok.mk ⟨by unfold KV;rw [if_pos a],rfl⟩) (λa=>al.dec (λc=>Ok.mk ⟨by unfold KV;rw [if_neg a,if_pos c],rfl⟩) (λc=>Ok.mk ⟨by unfold KV;rw [if_neg a,if_neg c],rfl⟩))))⟩
def OQ:List Int->Int
 |[]=>0
 |x::a=>if x≠0 then x else OQ a
theorem Ry (s:b.heap[a]? =some (.cells #[XG e,XG m,XG B] g (0,0))):
  Calls ZX 208 #[.slice (some ⟨a,0,none⟩) 3 3] b (Ok λj h=>j= XG (OQ [e,m,B])/\b=h):=by
 refine Hu ⟨λn f h=>∃c:Nat,f=c/\c<=3/\n=3-c/\OQ [e,m,B]=OQ ([e,m,B].drop c)/\b=h,⟨_,0,rfl,oM,rfl,rfl,rfl⟩,?_⟩;rintro n f _ _ ⟨c,rfl,x,rfl,k,rfl⟩;refine al.dec (λt=>?_) (λt=>?_)
 ·have u:∀i:Int,[e,m,B][c]? =some i->∃o p,(some ⟨a,0,none⟩:Option Addr)=some ⟨o,p,none⟩/\(0:Int)<=c/\(c:Int)<((3:Nat):Int)/\∃l:Int,b.cell? ⟨o,p+Int.toNat c,none⟩=some (XG l)/\al (l !=0) (Ok (λj h=>j= XG (OQ [e,m,B])/\b=h) (.returned (XG l)) b) (∃q,q<3-c/\∃f:Nat,IntKind.wrap .i64 ((c:Int)+1)=f/\f<=3/\q=3-f/\OQ [e,m,B]=OQ ([e,m,B].drop f)/\b=b):=by
   intro i d;have r:[e,m,B].drop c=i::[e,m,B].drop (c+1):=by
    rw [X4 (by simp;omega)];congr 1;simpa using(Qv.1 d).2
   refine⟨a,0,rfl,oM,oM,i,ae s ?_,al.dw (λv=>Ok.mk ⟨?_,rfl⟩) (λw=>⟨_,oM,c+1,an oM,oM,rfl,?_,rfl⟩)⟩
   ·rw [Xz]
    match c,d with
    |0,d=>simp at d;simp [d]
    |1,d=>simp at d;simp [d]
    |2,d=>simp at d;simp [d]
    |c+3,d=>simp at d
   ·rw [k,r,OQ,if_pos v]
   ·rw [k,r,OQ,if_neg (by simpa using w)]
  have d:c<[e,m,B].length:=by simp;omega
  exact u [e,m,B][c] (by simp [d])
 ·obtain rfl:c=3:=oM
  exact Ok.mk ⟨by rw [k];rfl,rfl⟩
theorem IX (a b:ah):OQ [KV a.aA b.aA,KV a.origin b.origin,KV a.seq b.seq]=tJ a b:=by
 unfold tJ fg KV OQ OQ OQ OQ
 by_cases f:a.aA<b.aA
 ·simp [f]
 by_cases i:b.aA<a.aA
 ·simp [f,i];omega
 have c:a.aA=b.aA:=oM
 by_cases g:a.origin<b.origin
 ·simp [c,g]
 by_cases j:b.origin<a.origin
 ·simp [c,g,j];omega
 have d:a.origin=b.origin:=oM
 by_cases e:a.seq<b.seq
 ·simp [c,d,e]
 by_cases h:b.seq<a.seq
 ·simp [c,d,e,h]
 ·simp [c,d,e,h]
theorem DU :Calls ZX 150 #[.agg (aE k d a c).toArray,.agg (aE N p i n).toArray] b (Ok λl m=>l= XG (tJ k N)/\G b m):=by
 refine yd (PA.Yg λu o v q=>PA.Yg λw h x r=>λy s=>⟨λ_=>False,?_⟩);have e:=G.drew s;have f:=(e.keep (S:=λ_=>False)).get ((h.keep (S:=λ_=>False)).get q id) id;have g:=(e.keep (S:=λ_=>False)).get r id;refine⟨_,ae f rfl,_,ae g rfl,id,_,ae f rfl,id,_,ae g rfl,id,_,ae f rfl,id,_,ae g rfl,PC.ok il ?_⟩;rintro _ _ ⟨rfl,rfl⟩;refine⟨_,rfl,aj.refl _,PC.ok il ?_⟩;rintro _ _ ⟨rfl,rfl⟩;refine⟨_,rfl,aj.refl _,PC.ok il ?_⟩;rintro _ _ ⟨rfl,rfl⟩;refine⟨_,rfl,aj.refl _,PA.Yg λz j A t=>⟨j.keep,PC.ok (Ry t) ?_⟩⟩;rintro _ _ ⟨rfl,rfl⟩;exact⟨_,rfl,aj.refl _,Ok.mk ⟨by rw [IX],((o.then h).then e).then j⟩⟩
structure Ti where
 e:ah
 a:Option Addr
 n:Nat
 c:Nat
instance:Inhabited Ti:=⟨⟨⟨0,0,0,[],0,0,0,0,0,0⟩,none,0,0⟩⟩
def encS (a:Ti):List Value:=aE a.e a.a a.n a.c
theorem Tj (b:Ti):∀c∈encS b,c.oneCell'=true:=by
 intro d a;simp only [encS,aE,Q2,List.not_mem_nil,or_false]at a;rcases a with rfl|rfl|rfl|rfl|rfl|rfl|rfl|rfl|rfl|rfl<;>rfl
theorem Bg (a b:Ti):ltOf (λa b:Ti=>tJ a.e b.e) a b=fg a.e b.e:=by
 unfold ltOf tJ
 cases c:fg a.e b.e
 ·cases d:fg b.e a.e<;>simp [c,d]
 ·simp [c]
theorem jR :fg k N=true↔k.aA<N.aA\/k.aA=N.aA/\(k.origin<N.origin\/k.origin=N.origin/\k.seq<N.seq):=by simp [fg]
theorem vB :fg k N=false↔¬(k.aA<N.aA\/k.aA=N.aA/\(k.origin<N.origin\/k.origin=N.origin/\k.seq<N.seq)):=by rw [<-jR];simp
theorem Yh:SWO (ltOf λa b:Ti=>tJ a.e b.e) where
 irrefl a:=by rw [Bg,vB];omega
 trans a b z h1 h2:=by rw [Bg,jR]at*;omega
 ntrans a b z h1 h2:=by rw [Bg,vB]at*;omega
theorem _root_.Go.ax.bT.evs {f:World} {D:Nat->Prop}:∀{c:List ah} {cs:List Value},bT fZ f D c cs->∃b:List Ti,b.map (·.e)=c/\cs=b.flatMap encS/\∀a∈b,Row aP 8 f D a.a a.n a.e.aK/\a.e.Ok
 |[],_,g=>⟨[],rfl,g,sM⟩
 |e::c,_,⟨s,t,h,⟨i,j,k,l,m,n⟩,o⟩=>by
  obtain⟨b,p,q,r⟩:=Go.ax.bT.evs o;refine⟨⟨e,i,j,k⟩::b,by simp [p],by rw [h,l,q];rfl,?_⟩;intro a d;rcases Q2.1 d with rfl|d
  ·exact⟨m,n⟩
  ·exact r a d
theorem _root_.Go.ax.bT.Tk {c:World} {D:Nat->Prop}:∀{a:List Ti},(∀x∈a,Row aP 8 c D x.a x.n x.e.aK/\x.e.Ok)->bT fZ c D (a.map (·.e)) (a.flatMap encS)
 |[],_=>rfl
 |x::a,b=>⟨encS x,a.flatMap encS,rfl,⟨x.a,x.n,x.c,rfl,(b x (QV ..)).1,(b x (QV ..)).2⟩,Go.ax.bT.Tk λd e=>b d (QJ _ e)⟩
theorem sC {b:List Ti} (c:a<b.length*10):(b.flatMap encS)[a]? =(encS b[a/10]!)[a % 10]? :=by
 induction b generalizing a with
 |nil=>simp at c
 |cons f b g=>
  have h:(encS f).length=10:=rfl;rw [List.flatMap_cons]
  by_cases d:a<10
  ·rw [XW oM,Nat.div_eq_of_lt d,Nat.mod_eq_of_lt d];rfl
  ·rw [X8 oM,h,g (by simp at c;omega)]
   obtain⟨e,rfl⟩:∃e,a=e+10:=⟨a-10,oM⟩
   rw [Nat.add_sub_cancel,Nat.add_div_right _ dC,Nat.add_mod_right];simp
theorem iz (a:List Ti):(a.flatMap encS).length=a.length*10:=by
 induction a with
 |nil=>rfl
 |cons b a c=>rw [List.flatMap_cons,QX,c];have d:(encS b).length=10:=rfl;rw [d];simp;omega
theorem DV (a:List Ti):(flatK encS 10 a.toArray).toList=a.flatMap encS:=by
 apply X3;intro b
 by_cases c:b<a.length*10
 ·rw [sC c]
  have f:b<(flatK encS 10 a.toArray).size:=by simpa using c
  have d:=get_flatK encS 10 a.toArray b (by simpa using c);rw [getElem!_pos _ b f]at d;have g:(encS a[b/10]!).length=10:=rfl;have e:b % 10<(encS a[b/10]!).length:=by rw [g];omega
  rw [Qq (by simpa using c),Qq e]
  congr 1
  rw [Array.getElem_toList,d];rw [getElem!_pos _ _ (by simpa using e)]
  congr 1
  simp
 ·rw [Q7 (by simpa using c),Q7 (by rw [iz];omega)]
def DT (a:List ah):Prop:=a.Pairwise λb c=>fg c b=false
theorem KS (n:aV fZ 59 f b d a c M) (u:M.length<=20000000):
  Calls ZX 149 #[.slice d a c,.func (.func 150) #[] #[]] b (Ok λN v=>N= .tuple #[]/\∃B,B.Perm M/\DT B/\aV fZ 59 f v d a c B/\aj (λo=>aI d=some o) b v):=by
 obtain⟨cs,D,C,Z,O⟩:=n.body;obtain⟨g,E,rfl,a4⟩:=Z.evs;have F:=n.len dC;have w:g.length=a:=by rw [F,<-E];simp
 rcases C.cases with⟨rfl,rfl,rfl,h0⟩|⟨i,k,rfl,x,P,H,Q⟩
 ·have hd:g=[]:=QW w
  refine(AnyF.slices_SortFunc_none Tryz.Vz none 0 _ b).mono ?_;rintro q v ⟨rfl,rfl⟩;exact Ok.mk ⟨rfl,M,List.Perm.refl _,by rw [<-E,hd];exact List.Pairwise.nil,n,aj.refl _⟩
 ·have R:fZ.k=10:=rfl
  rw [R]at Q H;have a5:flatK encS 10 g.toArray=(g.flatMap encS).toArray:=by rw [<-DV]
  have hH:HoldsK encS 10 b i 0 g.toArray:=by
   intro l r;rw [size_flatK]at r;simp only [List.size_toArray]at r;have S:l<(g.flatMap encS).length:=by rw [iz];exact r
   refine⟨?_,by simp [World.frozen?,x]⟩;have m:(flatK encS 10 g.toArray)[l]! =(g.flatMap encS)[l]:=by
    rw [a5,getElem!_pos _ l (by simpa using S)];simp
   rw [m,Xz];refine ae x ?_;have j:(k.toList.take (a*10))[l]? =some (g.flatMap encS)[l]:=by rw [Q];exact Qq S
   rw [Xw,if_pos oM]at j;simpa using j
  have u:=C.row;have I:c<=maxLen:=by
   obtain⟨_,a0,_,T,_,_,_,I,_⟩:=C.row.2.resolve_left (by rintro⟨n,_⟩;cases n);simp only [XX]at T;rw [T.2.2];exact I
  have a6:g.toArray.size<4611686018427387904:=by
   simp only [List.size_toArray,w];omega
  have U:=AnyQ.slices_SortFunc Tryz.Vz 10 (λb=>dA _ _ _ kR ⟨_,Tryz.underlying59⟩ b) (λb=>Tryz.sizeOf59 b) encS (λ_=>rfl) Tj (λy V=>tJ y.e V.e) Yh 150 #[] i 0 c g.toArray b
   (enters_of Tryz.func150 kR rfl) (λb0 s dk b1 y V=>(DU).mono ?_) hH (aC x) a6
  ·rw [show g.toArray.size=a by simpa using w]at U
   refine U.mono ?_;rintro q v ⟨rfl,h,z,s,hp,hs,rfl⟩;obtain⟨p1,p2,W⟩:=hp;have e:h.size=a:=p1.trans (by simpa using w);have X:h.toList.Perm g:=by
    have m:h.extract 0 a=h:=by rw [<-e];exact Array.extract_size
    have j:g.toArray.extract 0 a=g.toArray:=by rw [show a=g.toArray.size by simpa using w.symm];exact Array.extract_size
    rw [m,j]at W;exact W
   have a1:flatK encS 10 h=(h.toList.flatMap encS).toArray:=by rw [<-DV]
   have J:(sortWorldK encS 10 b i 0 z h s).heap[i]? =some (.cells (putCells id 0 (flatK encS 10 h) k) 59 (0,0)):=by
    have a7:=aC x;show((Sort.ahead b z).heap.modify i _++s)[i]? =_;rw [Array.getElem?_append_left (by simpa [Sort.ahead]using a7),Array.getElem?_modify,if_pos rfl];show Option.map _ b.heap[i]? =_;rw [x];rfl
   have A:aj (λo=>aI (some ⟨i,0,none⟩)=some o) b (sortWorldK encS 10 b i 0 z h s):=by
    refine⟨rfl,rfl,rfl,?_,λa2 A F=>?_⟩
    ·show b.heap.size<=((Sort.ahead b z).heap.modify i _++s).size
     simp [Sort.ahead]
    ·show((Sort.ahead b z).heap.modify i _++s)[a2]? =_
     rw [Array.getElem?_append_left (by simpa [Sort.ahead]using A),Array.getElem?_modify,if_neg (λq=>F (by rw [q];rfl))]
     rfl
   have a3:(putCells id 0 (flatK encS 10 h) k).size=c*10:=by unfold putCells;rw [Array.size_mapIdx];exact H
   refine Ok.mk ⟨rfl,h.toList.map (·.e),by rw [<-E];exact X.map _,?_,⟨⟨h.toList.flatMap encS,D,⟨⟨?_,.inr ⟨i,c,_,rfl,Qj _,J,P,I,a3,?_⟩⟩⟩,bT.Tk λy hx=>?_,O⟩,n.self,λo u=>Qk (n.aF o u) A.size⟩,A⟩
   ·unfold DT
    rw [List.pairwise_map,List.pairwise_iff_getElem];intro Y l hi r a8;have m:=hs Y l (Qj _) a8 (by simpa [e]using r);rw [Bg,getElem!_pos _ l (by simpa using r),getElem!_pos _ Y (by simpa using hi)]at m;simpa using m
   ·rw [iz,XK,e];rfl
   ·apply X3
    intro t;rw [R,Xw];split
    ·rename_i p
     rw [sC (by rw [XK,e];exact p),<-sC (by rw [XK,e];exact p)];unfold putCells;have a9:t<k.size:=by rw [H];exact Qk p (Q0 _ P)
     rw [Array.getElem?_toList,Array.getElem?_mapIdx,X6 a9];simp only [Option.map_some];have K:t<(flatK encS 10 h).size:=by rw [size_flatK,e];exact p
     rw [if_pos ⟨Qj _,by rw [Xz];exact K⟩,Nat.sub_zero,getElem!_pos _ t K];have:(flatK encS 10 h)[t]=(h.toList.flatMap encS)[t]'(by rw [iz,XK,e];exact p):=by
      have j:=congrArg (·[t]?) a1;simp only [List.getElem?_toArray]at j;rw [X6 K,Qq (by rw [iz,XK,e];exact p)]at j;exact XJ j
     rw [this];exact(Qq _).symm
    ·rename_i p
     rw [Q7 (by rw [iz,XK,e];omega)]
   ·have L:y∈g:=X.mem_iff.1 hx
    obtain⟨m,j⟩:=a4 y L;exact⟨m.keep A λo u q=>(O o u).2 q,j⟩
  ·rintro q v ⟨N,rfl,rfl,hG⟩
   exact⟨rfl,hG⟩
open Go.ax
abbrev VF (a:List ah):Prop:=a.Pairwise λb c=>fg b c=true
structure aq.OK (S:aq):Prop where
 n:S.n<=64
 Rz:VF S.l
 ids:(S.l.map aO).Nodup
 TC:∀e∈S.l,dh e S.n=0
 ok:∀e∈S.l,e.Ok
theorem GY (b:aO k≠aO N):fg k N=true\/fg N k=true:=by
 rw [jR,jR];have:¬(k.origin=N.origin/\k.seq=N.seq):=λa=>b (by unfold aO;rw [a.1,a.2]);omega
theorem uq {a b c:ah} (d:fg a b=true) (e:fg b c=true):fg a c=true:=by rw [jR]at*;omega
theorem ns (a:fg k N=true):fg N k=false:=by rw [jR]at a;rw [vB];omega
theorem cX (b:ah):∀a,(dO b a).Perm (b::a)
 |[]=>List.Perm.refl _
 |x::a=>by
  unfold dO;split
  ·exact List.Perm.refl _
  ·exact(List.Perm.cons x (cX b a)).trans (List.Perm.swap b x a)
theorem xK {e:ah}:∀{b},VF b->(∀x∈b,aO x≠aO e)->VF (dO e b)
 |[],_,_=>by unfold dO;exact List.pairwise_singleton ..
 |x::b,f,g=>by
  obtain⟨h,i⟩:=List.pairwise_cons.1 f;unfold dO;split
  ·rename_i d
   exact List.pairwise_cons.2 ⟨λc a=>by
    rcases Q2.1 a with rfl|a
    ·exact d
    ·exact uq d (h c a),f⟩
  ·rename_i d
   refine List.pairwise_cons.2 ⟨λc a=>?_,xK i λc a=>g c (QJ _ a)⟩;rcases Q2.1 ((cX e b).mem_iff.1 a)with rfl|a
   ·exact(GY (g x (QV ..))).resolve_right (by simpa using d)
   ·exact h c a
theorem NF (i:DT M) (j:VF e5) (d:M.Perm e5) (k:(M.map aO).Nodup):M=e5:=by
 refine d.eq_of_pairwise (le:=λb a=>fg a b=false) (λb a l m e f=>?_) i (j.imp λh=>ns h)
 by_cases g:aO b=aO a
 ·have c:a∈M:=d.mem_iff.2 m
  obtain⟨p,n,rfl⟩:=List.getElem_of_mem l;obtain⟨q,o,rfl⟩:=List.getElem_of_mem c;have:=(List.getElem_inj (xs:=M.map aO) (h₀:=by simpa using n) (h₁:=by simpa using o) k).1 (by simpa using g);subst this;rfl
 ·rcases GY g with h|h
  ·rw [h]at f;cases f
  ·rw [h]at e;cases e
theorem UX (b:(M.map aO).Nodup) (a:k∈M):M.find? (λc=>aO c==aO k)=some k:=by
 induction M with
 |nil=>cases a
 |cons c M d=>
  simp only [QY,List.nodup_cons]at b;rcases Q2.1 a with rfl|a
  ·simp
  ·have e:aO c≠aO k:=λf=>b.1 (f▸Xk.2 ⟨k,a,rfl⟩)
   rw [List.find?_cons_of_neg (by simpa using e)];exact d b.2 a
theorem aq.get_some (a:A.get d6=some k):k∈A.l/\aO k=d6:=
 ⟨List.mem_of_find?_eq_some a,by simpa using List.find?_some a⟩
theorem aq.get_none (b:A.get d6=none):∀a∈A.l,aO a≠d6:=λa c=>by
 have:=List.find?_eq_none.1 b a c;simpa using this
theorem aq.OK.get (a:A.OK) {e:ah} (b:e∈A.l):A.get (aO e)=some e:=UX a.ids b
theorem KR (i:A.OK) (e:∀a∈h3,a.1=aO a.2) (f:(h3.map (·.2)).Perm A.l) (m:Tidy h3) (b:Int×Int):ay h3 b=A.get b:=by
 cases c:ay h3 b with
 |none=>
  rw [nU]at c
  symm
  refine List.find?_eq_none.2 λd j=>?_;obtain⟨a,g,rfl⟩:=Xk.1 (f.mem_iff.2 j);intro k;exact c (Xk.2 ⟨a,g,by rw [e a g];simpa using k⟩)
 |some d=>
  have h:=cF c;have l:b=aO d:=e _ h;have:d∈A.l:=f.mem_iff.1 (Xk.2 ⟨_,h,rfl⟩);rw [l,i.get this]
theorem yS (b:List ah) (a:Int):b.foldl (λa c=>max a c.aA) a=max a (b.foldl (λa c=>max a c.aA) 0)\/a<0:=by
 induction b generalizing a with
 |nil=>simp;omega
 |cons d b e=>
  rw [List.foldl_cons,List.foldl_cons]
  by_cases g:a<0
  ·exact .inr g
  ·rcases e (max a d.aA)with h|h
   ·rcases e (max 0 d.aA)with f|f
    ·left;rw [h,f];omega
    ·omega
   ·omega
theorem aq.UT (a:aq) (b:ah):aq.top ⟨a.n,dO b a.l⟩=max a.top b.aA:=by
 show(dO b a.l).foldl _ _=_;rw [(cX b a.l).foldl_eq' (λc _ d _ e=>oM),List.foldl_cons];rcases yS a.l (max 0 b.aA)with h|h
 ·rw [h]
  show max (max 0 b.aA) a.top=_;have:0<=a.top:=by
   rcases yS a.l 0 with h|h
   ·unfold aq.top;omega
   ·omega
  omega
 ·omega
theorem aq.CL (a:aq):0<=a.top:=by
 rcases yS a.l 0 with h|h
 ·unfold aq.top;omega
 ·omega
theorem im (b:dh k a=0):0<=k.origin/\k.origin<a/\1<=k.seq/\1<=k.aA/\0<=k.agg/\0<=k.key/\k.aK.length=a/\(∀c∈k.aK,0<=c)/\k.aK.getD k.origin.toNat 0=pH (k.seq-1)/\1<=k.op/\k.op<=5/\0<=k.bd/\k.bd<8/\0<=k.field/\k.field<8:=by
 unfold dh at b;split at b
 ·simp at b
 ·rename_i d
  split at b
  ·simp at b
  ·rename_i e
   split at b
   ·simp at b
   ·rename_i i
    split at b
    ·simp at b
    ·rename_i j
     simp only [not_or,List.any_eq_true,decide_eq_true_eq,not_exists,not_and]at d;obtain⟨l,m,n,c,o,f⟩:=d;refine⟨oM,oM,oM,oM,oM,oM,oM,λg h=>by have:=f g h;omega,by simpa using e,oM,oM,oM,oM,oM,oM⟩
theorem aq.Hd (a:aq) (b:ah) (c:Nat):aq.sX ⟨a.n,dO b a.l⟩ c=a.sX c+if b.origin=(c:Int)then 1 else 0:=by
 unfold aq.sX;show(dO b a.l).countP _=_;rw [(cX b a.l).countP_eq,List.countP_cons]
 congr 1
 simp
theorem aq.Mq (a:aq) (b:Nat):a.sX b<=a.l.length:=List.countP_le_length
theorem aq.b_ (a:aq):a.vec.length=a.n:=by simp [aq.vec]
theorem aq.my (b:aq) (c:a<b.n):b.vec[a]? =some (b.sX a:Int):=by simp [aq.vec,c]
theorem aq.iJ (S:aq) (b:a<S.n):S.vec.getD a 0=(S.sX a:Int):=by rw [QQ,S.my b];rfl
theorem aq.UU (b:aq) (d:ah) (g:d.origin=(a:Int)):aq.vec ⟨b.n,dO d b.l⟩=b.vec.set a (b.sX a+1:Int):=by
 apply X3;intro e
 by_cases c:e<b.n
 ·rw [aq.my ⟨b.n,dO d b.l⟩ c,aq.Hd,Xj,b.my c,b.b_]
  by_cases f:a=e
  ·subst f;simp [g,c]
  ·rw [if_neg f,if_neg oM];simp
 ·rw [Q7 (by rw [aq.b_];exact Nat.le_of_not_lt c),Q7 (by rw [List.length_set,b.b_];omega)]
theorem aq.add_def (a:aq) (b:ah):a.add b=if dh b a.n≠0 then(dh b a.n,a)else if(a.get (aO b)).isSome then(16,a)else
 if b.seq≠(a.vec.getD b.origin.toNat 0)+1 then(9,a)else if(List.range a.n).any λc=>!a.ly b c then(9,a)else(0,⟨a.n,dO b a.l⟩):=rfl
theorem aq.Bn (a:A.OK) (h:k.Ok):(A.add k).2.OK/\(A.add k).2.n=A.n:=by
 rw [aq.add_def]
 by_cases d:dh k A.n=0
 rotate_left
 ·rw [if_pos d];exact⟨a,rfl⟩
 rw [if_neg (by simpa using d)]
 by_cases e:(A.get (aO k)).isSome=true
 ·rw [if_pos e];exact⟨a,rfl⟩
 rw [if_neg e];split
 ·exact⟨a,rfl⟩
 split
 ·exact⟨a,rfl⟩
 have g:A.get (aO k)=none:=by simpa using e
 have f:=cX k A.l;refine⟨⟨a.n,xK a.Rz (aq.get_none g),?_,?_,?_⟩,rfl⟩
 ·refine(f.map aO).nodup_iff.2 ?_
  rw [QY,List.nodup_cons];exact⟨λi=>by obtain⟨c,b,j⟩:=Xk.1 i;exact aq.get_none g c b j,a.ids⟩
 ·intro c b
  rcases Q2.1 (f.mem_iff.1 b)with rfl|b
  ·exact d
  ·exact a.TC c b
 ·intro c b
  rcases Q2.1 (f.mem_iff.1 b)with rfl|b
  ·exact h
  ·exact a.ok c b
theorem aq.uk (b:a<=64):aq.OK ⟨a,[]⟩:=⟨b,List.Pairwise.nil,sM,sM,sM⟩
end Go.Proofs.YtfchlbaidamodaaGreatDoor

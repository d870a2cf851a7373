import Derived.Test.YtblabbpipmodgaaGreatDoorKo10
import Derived.Lib.AppendIntMem
import Derived.Laws.Concat
import Derived.Shelf.SlSortCmp.WholeK
import Derived.Shelf.SlMaps.Clone
import Derived.Ground.SlsfProg
import Derived.Ground.SlmcProg
import Derived.Shelf.SlGeneric
import Derived.Shelf.SlSortCmp.NoneTotal
import Derived.Laws.StructEq
import Derived.Carry
import Derived.SizedLaws
import Derived.WalkKit
import Derived.ProofKit
import Derived.OpenShut
import Derived.Deep.DeepHandedRow
import Derived.Deep.Slices
set_option maxHeartbeats 4000000
set_option linter.all false
set_option maxRecDepth 100000
open Go.IntKind renaming wrap→XH
namespace Go.au
open Go
def cz(P:List UInt8):ByteArray:=⟨P.toArray⟩
def mE(P:List UInt8):(cz P).data.toList=P:=by simp[cz]
def SX(P:ByteArray):cz P.data.toList=P:=by simp[cz]
variable{a7 s:List UInt8}{a:Nat}{V X:Operand}{h:Program}{g:TypeId}{m r:XN}{b:World}
def KJ(P:cz s=cz a7):s=a7:=by rw[<-mE s,P,mE]
def iB(P:List UInt8):(cz P).size=P.length:=by simp[cz,ByteArray.size]
def gu(P:ByteArray):Int×Bool:=match iL P.data.toList with
 |some a=>(a,true)
 |none=>(0,false)
def Vo{a P:List UInt8}(d:a.length+P.length<=1000000000)(c:m (.string (cz (a++P))) b):
  aG h (do eqGuard .add g V X (.string (cz a)) (.string (cz P));binOp .add g (.string (cz a)) (.string (cz P))) b m r:=by
 refine aG.mk (v:=.string (cz a++cz P)) (w':=b) ?_ ?_
 ·rw[Sem.run_bind,show(eqGuard .add g V X (.string (cz a)) (.string (cz P))).run h b= .ok () b from rfl,Result.andThen_ok,binOp_string_add,run_string_add_sum b (cz a) (cz P) (by rw[iB,iB];omega)]
 have:cz a++cz P=cz (a++P):=by
  apply ByteArray.ext;simp[cz]
 rw[this];exact c
def ai.Rf{P:Array Obj}:ai b (Sort.grow (b.drewN a) P):=
 ⟨rfl,rfl,rfl,sM,λd c _=>by rw[Sort.heap_grow_old _ _ (by simpa using c)];rfl⟩
end Go.au
namespace Go.Proofs.YtblabbpipmodgaaGreatDoor
section
open Go.au
structure Laid (w:World):Prop where
 mQ:oV w
 pow:Lib.TabIs XG w "internal/strconv.uint64pow10" .u64 Lib.pow10Tab
variable{w:ByteArray}{e:Int}{a7 s:List UInt8}{b k:World}
def Laid.af(P:Laid b)(a:ai b k):Laid k:=⟨P.mQ.af a,Lib.tabBelow_of_tabIs P.pow k a.below⟩
def strconv_Itoa{P:Int}{a:World}(d:Laid a)(b:aN P):ZH 173 #[QH P] a (Ok λe c=>e= .string (cz (Lib.itoa P))/\ai a c):=by
 refine(Any.strconv_Itoa Tryz.OY P b.1 b.2 a d.pow).mono ?_;rintro f c ⟨rfl,g,h,rfl⟩;exact Ok.mk ⟨rfl,ai.Rf⟩
def jj(a:Laid b)(c:aN e):ZH 120 #[QH e] b (Ok λd f=>d= .string (cz (aw e))/\ai b f):=by
 refine zb (al.dec (λP=>?_) (λh=>al.dec (λP=>?_) (λi=>PC.ok (strconv_Itoa a c) ?_)))
 ·exact Ok.mk ⟨by unfold aw;rw[Zx (.inl P)];rfl,aj.refl _⟩
 ·exact Ok.mk ⟨by unfold aw;rw[Zx (.inr P)];rfl,aj.refl _⟩
 rintro _ j ⟨rfl,g⟩;refine⟨_,rfl,Vo (a:=dy) ?_ ⟨_,rfl,Ok.mk ⟨?_,g⟩⟩⟩
 ·have:=nI (u:=e.toNat) oM
  unfold Lib.itoa;rw[Zq oM];show 4+_<=_;omega
 ·rw[lk oM oM]
  unfold Lib.itoa;rw[Zq oM]
def AJ:ZH 328 #[.string (cz s),.string (cz a7)] b (Ok λc d=>c= .bool (decide (s.take a7.length=a7))/\b=d):=by
 refine gV ?_;rw[iB,iB];refine al.dec (λP=>⟨oM,oM,Ok.mk ⟨?_,rfl⟩⟩) (λP=>Ok.mk ⟨?_,rfl⟩)
 ·rw[Qx]
  have a:ByteArray.toList (ByteArray.extract (cz s) 0 a7.length)=s.take a7.length:=by
   rw[ByteArray.toList_eq,ByteArray.data_extract];simp[cz]
  have e:ByteArray.toList (cz a7)=a7:=by rw[ByteArray.toList_eq,mE]
  rw[a,e]
  congr 1
  by_cases P:s.take a7.length=a7<;>simp[P]
 ·have:s.take a7.length≠a7:=λa=>by have:=Zj List.length a;simp at this;omega
  rw[Xv this]
def BN:ZH 248 #[.string (cz s),.string (cz a7)] b (Ok λa c=>a= .tuple (if s.take a7.length=a7 then #[.string (cz (s.drop a7.length)),.bool true]else #[.string (cz s),.bool false])/\b=c):=by
 refine qO (PC.ok (φ:=λa c=>a= .tuple (if s.take a7.length=a7 then #[.string (cz (s.drop a7.length)),.bool true]else #[.string (cz s),.bool false])/\b=c) (gT (PC.ok AJ ?_)) ?_)
 ·rintro _ _ ⟨rfl,rfl⟩
  refine⟨_,rfl,?_⟩;rw[iB,iB]
  by_cases P:s.take a7.length=a7
  ·rw[Zx P,Zy P]
   have f:a7.length<=s.length:=by have:=Zj List.length P;simp at this;omega
   refine al.ff rfl ⟨oM,oM,Ok.mk ⟨?_,rfl⟩⟩;have d:ByteArray.extract (cz s) (Int.toNat ((a7.length:Nat):Int)) s.length=cz (s.drop a7.length):=by
    apply ByteArray.ext;rw[Qx,ByteArray.data_extract];have e:List.take (s.length-a7.length) (List.drop a7.length s)=List.drop a7.length s:=Qz sM;simp[cz,e]
   rw[d]
  ·rw[Zq P,Xv P]
   exact al.tt rfl (Ok.mk ⟨rfl,rfl⟩)
 ·rintro _ _ ⟨rfl,rfl⟩
  split
  ·exact⟨_,_,rfl,Ok.mk ⟨rfl,rfl⟩⟩
  ·exact⟨_,_,rfl,Ok.mk ⟨rfl,rfl⟩⟩
def yR(y:Laid b):ZH 177 #[.string w] b (Ok λl e=>l= .tuple #[QH (gu w).1,.bool (gu w).2]/\ai b e):=by
 rw[<-SX w];generalize w.data.toList=f;have d:(⟨#[115,101,103,46]⟩:ByteArray)=cz dy:=rfl;unfold gu;rw[mE];refine vB ?_;rw[d];refine PC.ok BN ?_;rintro _ _ ⟨rfl,rfl⟩;have no:∀e,iL f=none->ai b e->Ok (λl e=>l= .tuple #[QH (match iL f with|some m=>((m:Int),true)|none=>(0,false)).1,.bool (match iL f with|some m=>((m:Int),true)|none=>(0,false)).2]/\ai b e) (.returned (.tuple #[QH 0,.bool false])) e:=λe p z=>by
  rw[p];exact Ok.mk ⟨rfl,z⟩
 by_cases g:f.take dy.length=dy
 ·rw[Zx g]
  refine⟨_,_,rfl,al.ff rfl ?_⟩;have q:f=dy++f.drop 4:=by
   have:=ZX 4 f;rw[show f.take 4=dy from g]at this;exact this.symm
  change al (decide (((ByteArray.size (cz (f.drop 4)):Nat):Int)>12)) _ _
  generalize S:f.drop 4=a at q;subst q;rw[iB];refine al.dec (λp=>no _ (JX (by rw[QX];show 16<4+_;omega)) (aj.refl _)) (λT=>?_);refine zP Tryz.underlying9 λU A B V=>⟨λr s e=>∃P,r=a.length-P/\P<=a.length/\s=(eN (a.take P):Int)/\e.heap[b.heap.size]? =some (.stringIter (cz a) P)/\ai b e/\(a.take P).all gh=true,⟨_,0,rfl,Qj _,rfl,A,B,rfl⟩,?_⟩
  rintro r s W X ⟨P,rfl,Y,rfl,C,h,i⟩;have E:=wi _ i;refine Ed C (λF=>.inl ⟨rfl,?_⟩) λd t u j Z=>.inr ⟨_,_,rfl,?_⟩
  ·rw[iB]at F
   rw[Qz oM]at i E⊢;have a0:10 ^ a.length<=10 ^ 12:=Nat.pow_le_pow_right oM oM;have H:(10:Nat) ^ 12=1000000000000:=dC
   refine PC.ok (jj (y.af h) bb) ?_;rintro _ t ⟨rfl,j⟩;have v:=EI i oM;refine⟨_,rfl,al.Vz (λI=>no _ ?_ (h.then j)) (λJ=>?_)⟩
   ·rw[v,Zq λK=>I (by rw[K])]
   ·rw[v,Zx (KJ J)]
    exact Ok.mk ⟨rfl,h.then j⟩
  ·have n:P<a.length:=by rwa [iB]at d
   have k:ai b t:=h.new j λa1 x=>.inr oM;have o:a[P]? =some ((cz a)[P]'d):=by
    rw[Qq n]
    congr 1
   have c:gh ((cz a)[P]'d)=false->iL (dy++a)=none:=λL=>HE (List.all_eq_false.2 ⟨_,QZ o,by simp[L]⟩)
   by_cases x:((cz a)[P]'d).toNat<128
   ·rw[decode_ascii _ P d x]at u⊢
    simp only;refine al.dec (λM=>no _ (c ?_) k) (λN=>al.dec (λO=>no _ (c ?_) k) (λQ=>?_))
    ·unfold gh;exact Xv oM
    ·unfold gh;exact Xv oM
    ·have a2:10 ^(a.take P).length<=10 ^ 12:=Nat.pow_le_pow_right oM bc
     have H:(10:Nat) ^ 12=1000000000000:=dC
     refine⟨_,oM,P+1,rfl,oM,?_,u,k,?_⟩
     ·rw[Qw,o]
      show _=((eN (a.take P++[_]):Nat):Int);rw[fA];have R:XH .i32 ((((cz a)[P]'d).toNat:Int)-48)=(((cz a)[P]'d).toNat:Int)-48:=by
       unfold XH;simp[IntKind.signed,IntKind.bits];omega
      rw[R,wrap_i64 (x:=(((cz a)[P]'d).toNat:Int)-48) bb,wrap_i64 (x:=10*_) bb,wrap_i64 bb];omega
     ·rw[Qw,o,List.all_append,i]
      simp[gh];omega
   ·have hh:=(decode_high _ P d oM).1
    refine al.dec (λM=>oM) (λN=>al.dec (λO=>no _ (c ?_) k) (λQ=>oM));unfold gh;exact Xv oM
 ·rw[Zq g]
  exact⟨_,_,rfl,al.tt rfl (no _ (MJ g) (aj.refl _))⟩
end
section
open Go.au
def RT:jx XG 27 3 1 8:=⟨kR,kR,dC⟩
def fu(a:List Int)(P:Int):Int:=if P<0 then 0 else max (a.getD P.toNat 0) 0
variable{e u:Int}{b0 q:List Int}{a c j p:Nat}{d t:XU}{b:World}{l:ah}
def Rn(a:0<=e)(P:q[e.toNat]? =some u):fu q e=max u 0:=by
 unfold fu;rw[Zq oM];simp[List.getD,P]
def Pk(P:(q.length:Int)<=e):fu q e=0:=by
 unfold fu;split
 ·rfl
 ·have:q[e.toNat]? =none:=by simp;omega
  simp[List.getD,this]
def mN{i:Int}(g:Ints b d a q):
  ZH 105 #[.slice d a c,QH i] b (Ok λh j=>h= QH (fu q i)/\b=j):=by
 refine LC ?_;refine al.mk (λe=>?_) (λe=>al.mk (λP=>?_) (λP=>?_))
 ·have:=XV e
  exact Ok.mk ⟨by simp[fu,this],rfl⟩
 ·have P:=XV P
  exact Ok.mk ⟨by rw[Pk (by rw[<-g.len];exact P)],rfl⟩
 ·have e:=Xy e
  have P:=Xy P;obtain⟨k,f,l,rfl,o,m,p,n⟩:=g.at (i:=i) oM oM;refine⟨k,f,rfl,oM,oM,l,n,Ok.mk ⟨?_,rfl⟩⟩;rw[Rn oM m]
  congr 1
  omega
def oU(a b:List Int)(c:Nat):List Int:=(List.range c).map λ(P:Nat)=>max (fu a P) (fu b P)
def jN(P a:List Int):List Int:=oU P a (max P.length a.length)
def HN(a b:List Int)(P:Nat):oU a b (P+1)=oU a b P++[max (fu a P) (fu b P)]:=by simp[oU,List.range_succ]
def rb(a b:List Int)(P:Nat):(oU a b P).length=P:=by simp[oU]
def EM(a:World)(f:TypeId)(g:List Int)(h:Value)(b:World):Prop:=
 ∃P c d,h= .slice P c d/\Own b f 1 P c d (ints g)/\ai a b/\∀e,aI P=some e->a.heap.size<=e
def Ro:(if u>e then u else e)=max e u:=oM
def yP(i:Ints b d a q)(P:Ints b t c b0):
  ZH 100 #[.slice d a j,.slice t c p] b (Ok (EM b 3 (jN q b0))):=by
 have v:=i.len;have w:=P.len;have x:=i.ef;have y:=P.ef;unfold aS at x y;refine Iz ⟨λn k e o r s=>r=(e:Int)/\e<=max a c/\n=max a c-e/\Own s 3 1 k e o (ints (oU q b0 e))/\ai b s/\∀t,aI k=some t->b.heap.size<=t,
  ⟨_,rfl,oM,rfl,Own.nil _ _ _,aj.refl _,by simp[aI]⟩,?_⟩
 rintro n k e o r _ C ⟨rfl,E,rfl,u,f,l⟩;refine al.mk (λg=>?_) (λg=>?_)
 ·have g:=XV g
  refine PC.ok (mN (i.af f)) ?_;rintro _ _ ⟨rfl,rfl⟩;refine⟨_,rfl,PC.ok (mN (P.af f)) ?_⟩;rintro _ _ ⟨rfl,rfl⟩;refine⟨_,rfl,PA.mk λF m H z=>?_⟩;refine Kk RT (u.af m) z ba λI J K A B h=>?_;refine⟨_,_,_,rfl,_,?_,?_,oM,rfl,?_,(f.af m).new B ?_,?_⟩
  ·omega
  ·rw[wrap_i64 bb];simp
  ·rw[HN,<-Ro];exact A
  ·intro t P;exact .inr (l t P.symm)
  ·intro t P
   rcases h with h|h
   ·exact l t (h▸P)
   ·rw[h]at P;cases P;have:=f.size;have:=m.size;omega
 ·have g:=Xy g
  have:e=max a c:=oM
  subst this;refine Ok.mk ⟨_,_,_,rfl,?_,f,l⟩;unfold jN;rw[<-v,<-w];exact u
def xj(P a:List Int):Nat->Int
 |0=>0
 |k+1=>if fu P k<fu a k then NB .i64 (xj P a k) 1 else if fu P k>fu a k then NB .i64 (xj P a k) 2 else xj P a k
def qd(P a:List Int):Int:=xj P a (max P.length a.length)
def K_(h:Ints b d a q)(i:Ints b t c b0):
  ZH 101 #[.slice d a j,.slice t c p] b (Ok λr k=>r= QH (qd q b0)/\b=k):=by
 have s:=h.len;have u:=i.len;have v:=h.ef;have w:=i.ef;unfold aS at v w;refine LB ⟨λm n o k=>∃P:Nat,o=P/\P<=max a c/\m=max a c-P/\n=xj q b0 P/\k=b,
  ⟨_,0,rfl,oM,rfl,rfl,rfl⟩,?_⟩
 rintro m n o _ x ⟨P,rfl,y,rfl,rfl,rfl⟩;refine al.mk (λg=>?_) (λg=>?_)
 ·have g:=XV g
  refine PC.ok (mN h) ?_;rintro _ _ ⟨rfl,rfl⟩;refine⟨_,rfl,PC.ok (mN i) ?_⟩;rintro _ _ ⟨rfl,rfl⟩;have l:XH .i64 ((P:Int)+1)=((P+1:Nat):Int):=by rw[wrap_i64 bb];simp
  refine⟨_,rfl,al.mk (λe=>?_) (λe=>al.mk (λf=>?_) (λf=>?_))⟩
  ·have e:=XV e
   exact⟨_,oM,P+1,l,oM,rfl,by simp[xj,e],rfl⟩
  ·have e:=Xy e
   have f:=XV f;exact⟨_,oM,P+1,l,oM,rfl,by simp[xj,e,f],rfl⟩
  ·have e:=Xy e
   have f:=Xy f;exact⟨_,oM,P+1,l,oM,rfl,by simp[xj,e,f],rfl⟩
 ·have g:=Xy g
  have:P=max a c:=oM
  subst this;exact Ok.mk ⟨by unfold qd;rw[<-s,<-u],rfl⟩
structure jM where
 bX:Int
 oF:Int
 ky:Int
 least:Int
 deriving DecidableEq
structure br where
 kind:Int
 dO:Int
 floor:Bool
 bt:List jM
 deriving DecidableEq
structure jb where
 bk:Int
 field:Int
 group:Int
 EW:Int
 make:Int
 deriving DecidableEq
structure aW where
 types:List (List br)
 projs:List jb
 deriving DecidableEq
structure kz where
 bk:Int
 agg:Int
 field:Int
 op:Int
 arg:Int
 expect:Int
 key:Int
 deriving DecidableEq
structure cW where
 n:Int
 set:List Int
 deriving DecidableEq
structure nz where
 version:Int
 cells:List cW
 deriving DecidableEq
structure gX where
 ev:ah
 void:Bool
 EW:Int×Int
structure oC where
 group:Int
 value:Int
 count:Int
 deriving DecidableEq
abbrev nX(P:Int):Int:=XH .i64 P
def within(P a b:Int):Bool:=decide (a<=P)&&decide (P<=b)
def aW.at(P:aW)(a:Int):List br:=if within a 0 (P.types.length-1)then P.types.getD a.toNat []else []
def aW.BJ(P:aW)(a b:Int):Option br:=
 if within a 0 (P.types.length-1)&&within b 0 ((P.at a).length-1)then(P.at a)[b.toNat]? else none
def pL(P:Int):Int:=if P=1 then 1 else if P=2 then 2 else if P=3 then 3 else if P=4 then 3 else if P=5 then 4 else 0
def kq(a:aW)(b c op arg:Int):Int:=match a.BJ b c with
 |none=>8
 |some P=>if !within op 1 5||pL op !=P.kind then 2 else if op==1&&arg==0||op==5&& !within arg 0 (P.bt.length-1)then 1 else 0
def qb(P:aW):Bool:=
 if !within P.types.length 1 8||decide (8<P.projs.length)then true else
 P.types.any λb=>!within b.length 1 8||b.any λa=>if a.kind==4 then !within a.bt.length 1 16 else decide (0<a.bt.length)
def Pu(a:List br)(b P:Int):Bool:=within b 0 (a.length-1)&&((a[b.toNat]?).map (·.kind)==some P)
def OI(P a:Int):Bool:=a==1||a==2&&within P 2 4||a==3&&P==2
def fj(P:List br)(f:br):Int:=
 if !within f.kind 1 4 then 2 else if !within f.dO 1 3|| !OI f.kind f.dO||f.floor&&f.kind !=1 then 1 else
 if f.bt.any λm=>decide (m.bX<0)||decide (m.oF<0)||m.ky== -1&&m.least !=0 then 1 else
 if f.bt.any λm=>m.ky != -1&& !Pu P m.ky 1 then 8 else 0
def ll(a:aW)(P:jb):Int:=
 if(a.BJ P.bk P.field).isNone then 8 else
 if P.group==3&& !Pu (a.at P.bk) P.EW 2||P.group !=3&&P.EW !=0 then 8 else
 if !within P.group 1 3|| !within P.make 1 5 then 2 else 0
def cG{a:Type}(P:a->Int):List a->Int
 |[]=>0
 |x::b=>if P x !=0 then P x else cG P b
def dt(P:aW):Int:=
 if qb P then 3 else
 let a:=cG (λb=>cG (fj b) b) P.types
 if a !=0 then a else cG (ll P) P.projs
def aX(P:ah):Int×Int:=(P.origin,P.seq)
def eF(a P:ah):Bool:=decide (a.aA<P.aA)||a.aA==P.aA&&(decide (a.origin<P.origin)||a.origin==P.origin&&decide (a.seq<P.seq))
def qW(P a:ah):Int:=if eF P a then-1 else if eF a P then 1 else 0
def c_(P:ah)(a:Nat):Int:=
 if P.origin<0\/(a:Int)<=P.origin\/min P.seq P.aA<1\/min P.agg P.key<0\/P.aJ.length≠a\/P.aJ.any (λb=>decide (b<0))then 1 else
 if P.aJ.getD P.origin.toNat 0≠nX (P.seq-1)then 9 else
 if P.op<1\/5<P.op then 2 else if min P.bk P.field<0\/8<=P.bk\/8<=P.field then 8 else 0
def zn(P a:ah):Bool:=decide (P.seq<=fu a.aJ P.origin)
def tU(P a:ah):Bool:=aX P !=aX a&& !zn P a&& !zn a P
structure ar where
 n:Nat
 l:List ah
def dA(P:ah):List ah->List ah
 |[]=>[P]
 |x::a=>if eF P x then P::x::a else x::dA P a
def ar.Dt(P:ar)(a:Nat):Nat:=P.l.countP λb=>b.origin==(a:Int)
def ar.vec(P:ar):List Int:=(List.range P.n).map λa=>(P.Dt a:Int)
def ar.get(P:ar)(id:Int×Int):Option ah:=P.l.find? λa=>aX a==id
def ar.top(P:ar):Int:=P.l.foldl (λa b=>max a b.aA) 0
def ar.lr(e:ar)(P:ah)(b:Nat):Bool:=
 let c:=P.aJ.getD b 0
 c==0||match e.get (b,c)with
  |none=>false
  |some a=>decide (a.aA<P.aA)&&(List.range a.aJ.length).all λd=>decide (a.aJ.getD d 0<=P.aJ.getD d 0)
def ar.add(P:ar)(a:ah):Int×ar:=
 let no:=c_ a P.n
 if no≠0 then(no,P)else
 if(P.get (aX a)).isSome then(16,P)else
 if a.seq≠(P.vec.getD a.origin.toNat 0)+1 then(9,P)else
 if(List.range P.n).any λb=>!P.lr a b then(9,P)else(0,{P with l:=dA a P.l})
def ar.ey(P:ar)(l:List ah):ar:=l.foldl (λP a=>(P.add a).2) P
def ar.missing(b:ar)(c:List Int)(P:Int):List ah:=(b.l.filter λa=>decide (max 0 (fu c a.origin)<a.seq)).take (max 0 P).toNat
def ar.keyed(P:ar)(key:Int):Option ah:=P.l.find? λa=>key !=0&&a.key==key
def dP(P:List br):List cW:=P.map λ_=>⟨0,[]⟩
def Kn(P a:Int):Bool:=decide (P<nX (P+a))==decide (0<a)
def vg(f:List br)(d:List cW)(P c arg:Int):Int:=
 let e:=f.getD P.toNat ⟨0,0,false,[]⟩
 let a:=d.getD P.toNat ⟨0,[]⟩
 let g:Bool:=
  if c=1 then(arg==0||Kn a.n arg)&& !(e.floor&&decide (nX (a.n+arg)<0))
  else if c=3 then decide (arg∈a.set)||decide (a.set.length<64)
  else if c=5 then(let b:=e.bt.getD arg.toNat ⟨0,0,0,0⟩;a.n==b.bX&&(decide (b.ky<0)||decide (b.least<=(d.getD b.ky.toNat ⟨0,[]⟩).n)))
  else true
 if g then 0 else 10
def oO(P:Int):List Int->List Int
 |[]=>[P]
 |y::a=>if P<y then P::y::a else if P=y then y::a else y::oO P a
def PJ(d:List br)(b:List cW)(P c arg:Int):List cW:=
 let e:=d.getD P.toNat ⟨0,0,false,[]⟩
 let a:=b.getD P.toNat ⟨0,[]⟩
 if c=1 then b.set P.toNat {a with n:=nX (a.n+arg)}
 else if c=2 then b.set P.toNat {a with n:=arg}
 else if c=3 then b.set P.toNat {a with set:=oO arg a.set}
 else if c=4 then b.set P.toNat {a with set:=a.set.filter λf=>f !=arg}
 else if c=5 then b.set P.toNat {a with n:=(e.bt.getD arg.toNat ⟨0,0,0,0⟩).oF}
 else b
def eH(b:br)(a P:Int×Int):Bool:=
 if b.kind=2 then a.1==2&&P.1==2&&a !=P
 else if b.kind=4 then a.1==5&&P.1==5&&a !=P
 else if b.kind=3 then a==(3,P.2)&&P==(4,a.2)||a==(4,P.2)&&P==(3,a.2)
 else false
def lD(f:br)(P a:ah):Bool:=(f.dO==2||f.dO==3&&decide (a.arg<P.arg))&&eH f (P.op,P.arg) (a.op,a.arg)&&tU P a
structure bd where
 decl:aW
 entries:List gX
 eE:List ((Int×Int)×nz)
 done:List ((Int×Int×Int)×List ah)
def bd.new(P:aW):bd:=⟨P,[],[],[]⟩
def bd.try(a:bd)(P:ah):Bool×(Int×Int)×bd:=
 if kq a.decl P.bk P.field P.op P.arg≠0 then(true,(0,0),a)else
 let d:=a.decl.at P.bk
 let c:=(P.bk,P.agg,P.field)
 match((aq a.done c).getD []).find? λf=>lD (d.getD P.field.toNat ⟨0,0,false,[]⟩) f P with
 |some f=>(true,aX f,a)
 |none=>
  let e:=aq a.eE (P.bk,P.agg)
  let b:=match e with
   |some e=>e.cells
   |none=>dP d
  if vg d b P.field P.op P.arg≠0 then(true,(0,0),a)else
  (false,(0,0),{a with
   eE:=aH a.eE (P.bk,P.agg) ⟨nX ((e.getD ⟨0,[]⟩).version+1),PJ d b P.field P.op P.arg⟩
   done:=aH a.done c ((aq a.done c).getD []++[P])})
def bd.add(c:bd)(a:ah):gX×bd:=
 let P:=c.try a
 let b:gX:=⟨a,P.1,P.2.1⟩
 (b,{P.2.2 with entries:=P.2.2.entries++[b]})
def bd.state(P:bd)(a b:Int):Option nz:=aq P.eE (a,b)
def cN(P:aW)(a:List ah):bd:=a.foldl (λb c=>(b.add c).2) (bd.new P)
def jh(a:aW)(P:kz):Int:=if P.agg<0\/P.key<0\/P.expect< -1 then 1 else kq a P.bk P.field P.op P.arg
def aY(a:kz)(P:Int)(b:List Int)(c:Int):Int×ah:=
 let no:ah:=⟨0,0,0,[],0,0,0,0,0,0⟩
 if P<0\/(b.length:Int)<=P\/c<0 then(1,no)else
 if fu b P=9223372036854775807\/c=9223372036854775807 then(13,no)else
 (0,⟨P,fu b P+1,c+1,jN b [],a.bk,a.agg,a.field,a.op,a.arg,a.key⟩)
def kZ(e:aW)(c:ar)(i:bd)(a start:Int)(P:kz):ah×Bool×Int:=
 let no:ah:=⟨0,0,0,[],0,0,0,0,0,0⟩
 let f:=jh e P
 if f≠0 then(no,false,f)else
 match c.keyed P.key with
 |some j=>(j,false,0)
 |none=>
  let g:=e.at P.bk
  let h:=i.state P.bk P.agg
  let b:=match h with
   |some k=>k.cells
   |none=>dP g
  if¬(P.expect= -1\/P.expect=(h.getD ⟨0,[]⟩).version)then(no,false,11)else
  if vg g b P.field P.op P.arg≠0 then(no,false,10)else
  let d:=aY P a c.vec (max c.top start)
  (d.2,decide (d.1=0),d.1)
structure eg where
 p:jb
 rows:List (Int×oC)
def lj(P:jb)(a:oC)(arg:Int):Int:=
 if P.make=1 then a.count else if P.make=2 then nX (a.value+arg)else
 if P.make=5\/a.count=1/\(P.make=3\/P.make=4)then arg else
 if P.make=3 then min a.value arg else if P.make=4 then max a.value arg else 0
def eg.add(P:eg)(e:gX)(c:Int):eg:=
 let b:=if P.p.group=1 then some e.ev.agg else if P.p.group=2 then some e.ev.arg else if P.p.group=3 then some c else none
 match b with
 |none=>P
 |some b=>
  if e.void||e.ev.bk !=P.p.bk||e.ev.field !=P.p.field then P else
  let a:=(aq P.rows b).getD ⟨0,0,0⟩
  let a:oC:=⟨b,a.value,nX (a.count+1)⟩
  {P with rows:=aH P.rows b ⟨b,lj P.p a e.ev.arg,a.count⟩}
structure lO where
 view:bd
 rows:List eg
def lO.new(P:aW):lO:=⟨bd.new P,P.projs.map λa=>⟨a,[]⟩⟩
def te(P:Option nz)(a:jb):Int:=match P with
 |none=>0
 |some P=>((P.cells[a.EW.toNat]?).map (·.n)).getD 0
def lO.add(b:lO)(P:ah):lO:=
 let a:=b.view.add P
 let d:=a.2.state P.bk P.agg
 ⟨a.2,b.rows.map λc=>c.add a.1 (te d c.p)⟩
def fR(P:aW)(a:List ah):lO:=a.foldl lO.add (lO.new P)
def eG(P:Nat)(a:List ah)(b:ah):Bool×List ah:=
 if P<=a.length\/a.any (λc=>aX c==aX b)then(false,a)else(true,dA b a)
def dB(P:ar):List ah->Option (ah×ar×List ah)
 |[]=>none
 |e::b=>if(P.add e).1=0 then some (e,(P.add e).2,b)else(dB P b).map λa=>(a.1,a.2.1,e::a.2.2)
def de:Nat->ar->List ah->List ah->List ah×List ah
 |0,b,a,P=>(P,a)
 |k+1,b,a,P=>match dB b a with
  |none=>(P,a)
  |some (c,d,e)=>de k d e (P++[c])
def bE(a:ar)(P:List ah):List ah×List ah:=
 let P:=P.filter λb=>(a.get (aX b)).isNone
 de (P.length+1) a P []
structure cY where
 kind:Int
 bX:Int
 oF:Int
 vec:List Int
 events:List ah
def gN(P:cY)(a:Int):Int:=if 0<P.events.length then 8 else if(P.vec.length:Int)≠a then 1 else if P.vec.any (λb=>decide (b<0))then 1 else 0
def eL(a:cY)(b:Nat)(P:Int):Int:=if 0<a.vec.length then 8 else if a.events.length<1\/P<(a.events.length:Int)then 3 else cG (λc=>c_ c b) a.events
def eK(m:cY)(b:Nat)(a:Int):Int:=
 let P:=!(decide (0<=m.bX)&&decide (m.bX<b))|| !(decide (0<=m.oF)&&decide (m.oF<b))||m.bX==m.oF
 if m.kind=3 then(if P then 1 else eL m b a)
 else if m.kind=1\/m.kind=2\/m.kind=4 then(if P then 1 else gN m b)
 else 2
def jU(P:ar)(a b:Int):cY:=⟨1,a,b,P.vec,[]⟩
def xZ(P:ar)(a b:Int):cY:=⟨4,a,b,P.vec,[]⟩
def lg(d:ar)(P:Int)(a:cY)(b:Int):List cY:=
 if a.kind≠1/\a.kind≠2 then []else
 let e:=d.missing a.vec (max 1 (min b 32))
 let g:List cY:=if 0<e.length then [⟨3,P,a.bX,[],e⟩]else []
 let f:=qd a.vec d.vec
 let h:List cY:=if a.kind=1/\(f=2\/f=3)then [⟨2,P,a.bX,d.vec,[]⟩]else []
 let c:=g++h
 if c.isEmpty then [xZ d P a.bX]else c
def DX:(if u<e then u else e)=min e u:=oM
def P_{D:XM}(j:Row aM 8 b D d a q):
  ZH 200 #[.slice d a c,.func (.func 199) #[] #[]] b (Ok λh P=>h= .bool (q.any λe=>decide (e<0))/\b=P):=by
 have w:=j.len;have r:=j.ef;unfold aS at r;refine ji (PC.ok (φ:=λh P=>(∃g:Int,h= QH g/\(0<=g↔(q.any λe=>decide (e<0))=true))/\b=P) (ke ⟨λm g P=>∃f:Nat,g=f/\f<=a/\m=a-f/\((q.take f).any λe=>decide (e<0))=false/\b=P,
  ⟨_,0,rfl,Qj _,rfl,sM,rfl⟩,?_⟩) ?_)
 ·rintro m g _ _ ⟨f,rfl,x,rfl,k,rfl⟩
  refine al.dec (λs=>?_) (λs=>?_)
  ·obtain⟨t,l,n,rfl,o,_,u⟩:=j.lq (i:=f) oM
   refine⟨t,l,rfl,oM,oM,_,u,199,_,_,rfl,kR,PC.ok (φ:=λh P=>h= .bool (decide (n<0))/\b=P) (xM (Ok.mk ⟨rfl,rfl⟩)) ?_⟩;rintro _ _ ⟨rfl,rfl⟩;refine⟨_,rfl,al.dec (λp=>?_) (λp=>?_)⟩
   ·exact Ok.mk ⟨⟨_,rfl,λ_=>List.any_eq_true.2 ⟨n,QZ o,by simpa using p⟩,λ_=>oM⟩,rfl⟩
   ·refine⟨_,oM,f+1,an oM,oM,rfl,?_,rfl⟩
    rw[Qw,o,List.any_append,k];simp;omega
  ·rw[Qz oM]at k
   exact Ok.mk ⟨⟨_,rfl,λi=>oM,λi=>by rw[k]at i;cases i⟩,rfl⟩
 ·rintro _ _ ⟨⟨g,rfl,v⟩,rfl⟩
  exact⟨_,rfl,Ok.mk ⟨by cases i:(q.any λe=>decide (e<0))<;>simp[i]at v⊢<;>omega,rfl⟩⟩
def wF{D:XM}(m:Row aM 8 b D d a l.aJ)(I:j<4611686018427387904):
  ZH 140 #[.agg (aF l d a c).toArray,QH (j:Int)] b (Ok λi k=>i= QH (c_ l j)/\ai b k):=by
 have J:=m.len;have x:=m.ef;unfold aS at x;refine Br (PA.mk λy n K g=>⟨_,ae g rfl,?_⟩);have f:(l.origin<0\/(j:Int)<=l.origin\/min l.seq l.aA<1\/min l.agg l.key<0\/l.aJ.length≠j\/l.aJ.any (λp=>decide (p<0))=true)->Ok (λi k=>i= QH (c_ l j)/\ai b k) (.returned (QH 1)) y:=λP=>by
  refine Ok.mk ⟨?_,n⟩;unfold c_;rw[Zx P]
 refine al.dec (λP=>f (.inl P)) λL=>⟨_,ae g rfl,al.dec (λP=>f (.inr (.inl P))) λM=>⟨_,ae g rfl,_,ae g rfl,?_⟩⟩
 with_reducible (conv=>whnf)
 rw[DX];refine al.dec (λP=>f (.inr (.inr (.inl P)))) λN=>⟨_,ae g rfl,_,ae g rfl,?_⟩
 with_reducible (conv=>whnf)
 rw[DX];refine al.dec (λP=>f (.inr (.inr (.inr (.inl P))))) λO=>⟨_,_,_,ae g rfl,al.dQ (λP=>f (.inr (.inr (.inr (.inr (.inl oM)))))) λQ=>⟨_,_,_,ae g rfl,PC.ok (P_ (m.af n)) ?_⟩⟩
 rintro _ _ ⟨rfl,rfl⟩;refine⟨_,rfl,al.mk (λP=>f (.inr (.inr (.inr (.inr (.inr P)))))) λz=>⟨_,_,_,ae g rfl,_,ae g rfl,?_⟩⟩;obtain⟨A,q,B,rfl,C,R,E⟩:=(m.af n).lq (i:=l.origin.toNat) oM;have t:¬(l.origin<0\/(j:Int)<=l.origin\/min l.seq l.aA<1\/min l.agg l.key<0\/l.aJ.length≠j\/l.aJ.any (λp=>decide (p<0))=true):=by
  rw[z];simp only[Bool.false_eq_true,or_false,not_or];omega
 refine⟨A,q,rfl,oM,oM,_,E,_,ae g rfl,λu v=>?_⟩;have F:ai b u:=n.then v.keep;have h:=(bY.keep (S:=λ_=>False) v).get g id;have w:l.aJ.getD l.origin.toNat 0=B:=by rw[QQ,C];rfl
 have e:∀r:Int,c_ l j=r->Ok (λi k=>i= QH (c_ l j)/\ai b k) (.returned (QH r)) u:=λr P=>Ok.mk ⟨by rw[P],F⟩;refine al.dQ (λP=>e 9 (by unfold c_;rw[Zq t,w,Zx P])) λH=>⟨_,ae h rfl,?_⟩
 have s:c_ l j=if l.op<1\/5<l.op then 2 else if min l.bk l.field<0\/8<=l.bk\/8<=l.field then 8 else 0:=by
  unfold c_;rw[Zq t,w,Zq (by simpa using H)]
 refine al.dec (λP=>e 2 (by rw[s,Zx (.inl P)])) λS=>⟨_,ae h rfl,al.dec (λP=>e 2 (by rw[s,Zx (.inr P)])) λT=>⟨_,ae h rfl,_,ae h rfl,?_⟩⟩
 with_reducible (conv=>whnf)
 rw[DX];have o:c_ l j=if min l.bk l.field<0\/8<=l.bk\/8<=l.field then 8 else 0:=by rw[s,Zq oM]
 refine al.dec (λP=>e 8 (by rw[o,Zx (.inl P)])) λU=>⟨_,ae h rfl,al.dec (λP=>e 8 (by rw[o,Zx (.inr (.inl P))])) λV=>⟨_,ae h rfl,al.dec (λP=>e 8 (by rw[o,Zx (.inr (.inr P))])) λW=>e 0 (by rw[o,Zq oM])⟩⟩
end
end Go.Proofs.YtblabbpipmodgaaGreatDoor
namespace Go.au
open Go
def Uo(a P:Value):Bool:=match a with
 | .int b _=>match P with
  | .int c _=>decide (c=b)
  |_=>false
 | .bool _=>match P with
  | .bool _=>true
  |_=>false
 | .string _=>match P with
  | .string _=>true
  |_=>false
 | .slice _ _ _=>match P with
  | .slice _ _ _=>true
  |_=>false
 | .pointer _=>match P with
  | .pointer _=>true
  |_=>false
 | .map _=>match P with
  | .map _=>true
  |_=>false
 |_=>true
def SZ:List Value->List Value->Bool
 |[],[]=>true
 |z::P,a::b=>Uo z a&&SZ P b
 |_,_=>false
def Py(z P:Value):Bool:=match z with
 | .agg a=>match P with
  | .agg cs=>SZ a.toList cs.toList
  |_=>false
 |z=>Uo z P
variable{o:Array Value}{a c:Nat}{H:Nat×Nat}{h:Program}{g n:TypeId}{c2 v:Value}{R:Value->Prop}{b:World}{x:XT}
def Ph{φ:Value->Prop}(a:Uo v c2=true)(P:φ c2):MX v φ:=by
 unfold MX
 cases v<;>cases c2<;>simp[Uo]at a<;>first
  |exact⟨_,P⟩
  |exact⟨_,_,_,P⟩
  |(subst a;exact⟨_,P⟩)
def Kc:∀{a cs:List Value} {φ:List Value->Prop},SZ a cs=true->φ cs->Oq a φ
 |[],[],φ,_,b=>b
 |[],_::_,φ,P,_=>by simp[SZ]at P
 |_::_,[],φ,P,_=>by simp[SZ]at P
 |z::a,c::e,φ,P,b=>by
  simp only[SZ,QK]at P;exact Ph (φ:=λc=>Oq a λd=>φ (c::d)) P.1 (Kc (φ:=λd=>φ (c::d)) P.2 b)
def cD(P:Py v c2=true)(a:R c2):DB v R:=by
 unfold DB;split
 ·rename_i d
  cases c2<;>simp[Py]at P
  rename_i cs;exact Kc (φ:=λb=>R (.agg b.toArray)) P (by simpa using a)
 ·rename_i c
  refine Ph ?_ a
  cases v<;>first|exact P|exact Zz rfl (c _)
def xi{c:World}{d:Addr}{e:Prop}:∀{cs:List Value} {P:Nat},(∀a v,cs[a]? =some v->c.cell? (d.add (P+a))=some v)->e->iq c d P cs e
 |[],P,_,b=>b
 |v::i,P,f,b=>⟨f 0 v rfl,xi (λa g h=>by have:=f (a+1) g (by simpa using h);rwa [show P+1+a=P+(a+1) by omega]) b⟩
def jf(P:Program)(a:TypeId)(cs:List Value):Bool:=sP P a&&(match fW P a with
 | .agg b=>Nat.beq (k_ P a) b.size&&SZ b.toList cs
 |_=>false)&&Nat.beq cs.length (k_ P a)&&cs.all Value.oneCell'
def Kd{cs:List Value}(f:jf h g cs=true)(j:∀d e,cs[d]? =some e->b.cell? ⟨a,c+d,none⟩=some e)(k:R (.agg cs.toArray)):
  ri h g (.pointer (some ⟨a,c,none⟩)) b R:=by
 simp only[jf,QK]at f;obtain⟨⟨⟨l,P⟩,n⟩,o⟩:=f;unfold ri;simp only[l]
 revert P
 cases fW h g<;>simp only[Bool.false_eq_true,false_implies]
 rename_i p;intro P;simp only[QK]at P;simp only[P.1];exact Kc (φ:=λi=>iq b ⟨a,c,none⟩ 0 i (R (.agg i.toArray))) P.2 (xi (λd e m=>by rw[Xz,Addr.add_lit];exact j d e m) k)
def ay{cs:List Value}(P:jf h g cs=true)(c:b.heap[a]? =some (.cells cs.toArray n H))(d:R (.agg cs.toArray)):
  ri h g (XP a) b R:=Kd P (λf i e=>ae c (by rw[Xz];simpa using e)) d
def SL{cs:List Value}(e:jf h g cs=true)(f:b.heap[a]? =some (.cells o n H))(i:∀P d,cs[P]? =some d->o[c+P]? =some d)(j:R (.agg cs.toArray)):
  ri h g (.pointer (some ⟨a,c,none⟩)) b R:=Kd e (λP d k=>ae f (i P d k)) j
def bW{a c k:Nat}{es:List Value}(e:jf h g es=true)(f:es.length=k)(i:∀P,P<k->b.cell? ⟨a,c+P,none⟩=es[P]?)(j:R (.agg es.toArray)):
  ri h g (.pointer (some ⟨a,c,none⟩)) b R:=Kd e (λP l d=>by rw[i P (by rw[<-f];exact(Qv.1 d).1)];exact d) j
def CW{c e:Nat}{h:TypeId}{i:XT}:∀(b:List Value) (a:Nat) {P:World} {cs:Array Value},P.heap[c]? =some (.cells cs h (0,0))->e+a+b.length<=cs.size->
  (∀d,aj (·=c) P d->d.heap.size=P.heap.size->d.heap[c]? =some (.cells (AS cs (e+a) b) h (0,0))->i d)->iW ⟨c,e,none⟩ a b P i
 |[],a,P,cs,f,j,g=>g P (aj.refl _) rfl f
 |v::b,a,P,cs,f,j,g=>by
  unfold iW;rw[Addr.add_lit];rw[Xq]at j;exact PS.mk f oM λr k l m=>CW b (a+1) m bc λn o p q=>g n (k.then o) (p.trans l) q
def S_{cs:List Value}(d:jf h g cs=true)(e:b.heap[a]? =some (.cells o n (0,0)))(p:c+cs.length<=o.size)(f:∀P,aj (·=a) b P->P.heap.size=b.heap.size->P.heap[a]? =some (.cells (AS o c cs) n (0,0))->x P):BY h g (.pointer (some ⟨a,c,none⟩)) (.agg cs.toArray) b x:=by
 simp only[jf,QK]at d;obtain⟨⟨⟨i,q⟩,j⟩,k⟩:=d;unfold BY;have l:Nat.beq cs.toArray.size (k_ h g)=true:=by simpa using j
 have m:cs.toArray.toList.all Value.oneCell'=true:=by simpa using k
 simp only[i,l,m];exact CW cs 0 e oM f
def aC{cs:List Value}(c:jf h g cs=true)(d:b.heap[a]? =some (.cells o n (0,0)))(e:cs.length=o.size)(f:∀P,aj (·=a) b P->P.heap.size=b.heap.size->P.heap[a]? =some (.cells cs.toArray n (0,0))->x P):BY h g (XP a) (.agg cs.toArray) b x:=
 S_ c d oM λP i j k=>f P i j (by rw[k,CV e])
end Go.au
namespace Go.Proofs
open Go.Shelf
def Tryz.MO:Go.Shelf.Ren:=⟨λ|6=>149|15=>207|14=>206|28=>275|29=>276|20=>267|21=>268|22=>269|23=>270|24=>271|25=>272|26=>273|27=>274|46=>306|47=>307|48=>308|49=>309|50=>310|57=>330|n=>n,λ|22=>50|24=>55|25=>249|3=>3|39=>311|0=>0|53=>357|55=>359|4=>4|46=>351|45=>350|50=>180|5=>5|9=>9|66=>386|70=>379|76=>406|77=>407|n=>n,λ|n=>n⟩
def Tryz.RU:Go.Proofs.SlLaysF0.n6 Tryz.prog Tryz.MO:={
 mixed:=by kernel_rfl
 f6:=⟨Tryz.f149.name,am,Tryz.func149.trans ac⟩
 f14:=⟨Tryz.f206.name,am,Tryz.func206.trans ac⟩
 f15:=Tryz.func207.trans ac
 f20:=⟨Tryz.f267.name,am,Tryz.func267.trans ac⟩
 f21:=⟨Tryz.f268.name,am,Tryz.func268.trans ac⟩
 f22:=⟨Tryz.f269.name,am,Tryz.func269.trans ac⟩
 f23:=⟨Tryz.f270.name,am,Tryz.func270.trans ac⟩
 f24:=⟨Tryz.f271.name,am,Tryz.func271.trans ac⟩
 f25:=⟨Tryz.f272.name,am,Tryz.func272.trans ac⟩
 f26:=⟨Tryz.f273.name,am,Tryz.func273.trans ac⟩
 f27:=⟨Tryz.f274.name,am,Tryz.func274.trans ac⟩
 f28:=Tryz.func275.trans ac
 f29:=Tryz.func276.trans ac
 f46:=⟨Tryz.f306.name,am,Tryz.func306.trans ac⟩
 f47:=Tryz.func307.trans ac
 f48:=Tryz.func308.trans ac
 f49:=⟨Tryz.f309.name,am,Tryz.func309.trans ac⟩
 f50:=⟨Tryz.f310.name,am,Tryz.func310.trans ac⟩
 f57:=⟨Tryz.f330.name,am,Tryz.func330.trans ac⟩
 t0:=Tryz.underlying0
 a0:=Tryz.isAgg0
 z0:=Tryz.sizeOf0
 v0:=Tryz.zeroValue0
 t3:=Tryz.underlying3
 a3:=Tryz.isAgg3
 z3:=Tryz.sizeOf3
 v3:=Tryz.zeroValue3
 t4:=Tryz.underlying4
 a4:=Tryz.isAgg4
 z4:=Tryz.sizeOf4
 v4:=Tryz.zeroValue4
 t5:=Tryz.underlying5
 a5:=Tryz.isAgg5
 z5:=Tryz.sizeOf5
 v5:=Tryz.zeroValue5
 t9:=Tryz.underlying9
 a9:=Tryz.isAgg9
 z9:=Tryz.sizeOf9
 v9:=Tryz.zeroValue9
 t22:=Tryz.underlying50
 a22:=Tryz.isAgg50
 z22:=Tryz.sizeOf50
 v22:=Tryz.zeroValue50
 t25:=Tryz.underlying249
 a25:=Tryz.isAgg249
 z25:=Tryz.sizeOf249
 v25:=Tryz.zeroValue249
 t39:=Tryz.underlying311
 a39:=Tryz.isAgg311
 z39:=Tryz.sizeOf311
 v39:=Tryz.zeroValue311
 t45:=Tryz.underlying350
 a45:=Tryz.isAgg350
 z45:=Tryz.sizeOf350
 v45:=Tryz.zeroValue350
 t46:=Tryz.underlying351
 a46:=Tryz.isAgg351
 z46:=Tryz.sizeOf351
 v46:=Tryz.zeroValue351
 t50:=Tryz.underlying180
 a50:=Tryz.isAgg180
 z50:=Tryz.sizeOf180
 v50:=Tryz.zeroValue180
 t53:=Tryz.underlying357
 a53:=Tryz.isAgg357
 z53:=Tryz.sizeOf357
 v53:=Tryz.zeroValue357
 t55:=Tryz.underlying359
 a55:=Tryz.isAgg359
 z55:=Tryz.sizeOf359
 v55:=Tryz.zeroValue359
 t66:=Tryz.underlying386
 a66:=Tryz.isAgg386
 z66:=Tryz.sizeOf386
 v66:=Tryz.zeroValue386
 t70:=Tryz.underlying379
 a70:=Tryz.isAgg379
 z70:=Tryz.sizeOf379
 v70:=Tryz.zeroValue379
 t76:=Tryz.underlying406
 a76:=Tryz.isAgg406
 z76:=Tryz.sizeOf406
 v76:=Tryz.zeroValue406
 t77:=Tryz.underlying407
 a77:=Tryz.isAgg407
 z77:=Tryz.sizeOf407
 v77:=Tryz.zeroValue407}
def Tryz.Kb:Go.Shelf.Ren:=⟨λ|5=>298|7=>329|n=>n,λ|23=>286|25=>3|3=>269|4=>4|20=>20|n=>n,λ|n=>n⟩
def Tryz.SM:Go.Proofs.SlLaysW.n5 Tryz.prog Tryz.Kb:={
 mixed:=by kernel_rfl
 f5:=⟨Tryz.f298.name,am,Tryz.func298.trans ac⟩
 f7:=Tryz.func329.trans ac
 t4:=Tryz.underlying4
 a4:=Tryz.isAgg4
 z4:=Tryz.sizeOf4
 v4:=Tryz.zeroValue4
 t20:=Tryz.underlying20
 a20:=Tryz.isAgg20
 z20:=Tryz.sizeOf20
 v20:=Tryz.zeroValue20
 t23:=Tryz.underlying286
 a23:=Tryz.isAgg286
 z23:=Tryz.sizeOf286
 v23:=Tryz.zeroValue286}
end Go.Proofs
namespace Go.Proofs.YtblabbpipmodgaaGreatDoor
open Go.au Go.Sort
def bf(P:ah)(a:XU)(b c:Nat):jf XG 55 (aF P a b c)=true:=kR
def rR(P:ah)(a:XU)(b c:Nat):Py (fW XG 55) (.agg (aF P a b c).toArray)=true:=kR
def G(P a:World):Prop:=∃b c,a=grow (P.drewN b) c
variable{z:XR}{Y e u:Int}{d3:Int×Int}{g4:List ((Int×Int)×ah)}{B f3:List ah}{a c j p:Nat}{f:XM}{c3:Obj}{d t:XU}{g:TypeId}{b b1 k:World}{x:XT}{K l:ah}{C:ar}
def G.then(e:G b k)(f:G k b1):G b b1:=by
 obtain⟨P,a,rfl⟩:=e;obtain⟨c,d,rfl⟩:=f;exact⟨P+c,a++d,by show grow (grow ((b.drewN P).drewN c) a) d=_;rw[grow_grow,World.drewN_drewN]⟩
def G.keep{S:XM}(P:G b k):aj S b k:=by
 obtain⟨e,a,rfl⟩:=P;refine⟨rfl,rfl,rfl,by simp[grow],λc d _=>?_⟩;show(b.heap++a)[c]? =_;rw[Array.getElem?_append_left d]
def G.drew(P:bY b k):G b k:=by obtain⟨a,rfl⟩:=P;exact⟨a,#[],sM⟩
def PA.Vr(a:∀P,G b P->P.heap.size=b.heap.size+1->P.heap[b.heap.size]? =some c3->x P):PA b c3 x:=
 a (b.alloc c3) ⟨0,#[c3],by rw[alloc_eq_grow];rfl⟩ sM (heap_alloc_new b c3)
def isNaN:ZH 277 #[QH e] b (Ok λP a=>P= .bool false/\b=a):=xP (Ok.mk ⟨sM,rfl⟩)
def HL(P a:Int):Int:=if P<a then-1 else if a<P then 1 else 0
def gI:ZH 209 #[QH e,QH u] b (Ok λc d=>c= QH (HL e u)/\b=d):=by
 refine tM (PC.ok isNaN ?_);rintro _ _ ⟨rfl,rfl⟩;refine⟨_,rfl,PC.ok isNaN ?_⟩;rintro _ _ ⟨rfl,rfl⟩;refine⟨_,rfl,al.ff rfl (al.ff rfl (al.dec (λP=>Ok.mk ⟨by unfold HL;rw[Zx P],rfl⟩) (λP=>al.dec (λa=>Ok.mk ⟨by unfold HL;rw[Zq P,Zx a],rfl⟩) (λa=>Ok.mk ⟨by unfold HL;rw[Zq P,Zq a],rfl⟩))))⟩
def La:List Int->Int
 |[]=>0
 |x::P=>if x≠0 then x else La P
def Nk(q:b.heap[a]? =some (.cells #[QH e,QH u,QH Y] g (0,0))):
  ZH 208 #[.slice (XL a) 3 3] b (Ok λi f=>i= QH (La [e,u,Y])/\b=f):=by
 refine DQ ⟨λl d f=>∃P:Nat,d=P/\P<=3/\l=3-P/\La [e,u,Y]=La ([e,u,Y].drop P)/\b=f,⟨_,0,rfl,oM,rfl,rfl,rfl⟩,?_⟩;rintro l d _ _ ⟨P,rfl,w,rfl,j,rfl⟩;refine al.dec (λr=>?_) (λr=>?_)
 ·have s:∀h:Int,[e,u,Y][P]? =some h->∃m n,(XL a:XU)=some ⟨m,n,none⟩/\(0:Int)<=P/\(P:Int)<((3:Nat):Int)/\∃k:Int,b.cell? ⟨m,n+Int.toNat P,none⟩=some (QH k)/\al (k !=0) (Ok (λi f=>i= QH (La [e,u,Y])/\b=f) (.returned (QH k)) b) (∃o,o<3-P/\∃d:Nat,XH .i64 ((P:Int)+1)=d/\d<=3/\o=3-d/\La [e,u,Y]=La ([e,u,Y].drop d)/\b=b):=by
   intro h c;have p:[e,u,Y].drop P=h::[e,u,Y].drop (P+1):=by
    rw[X4 bc];congr 1;simpa using(Qv.1 c).2
   refine⟨a,0,rfl,oM,oM,h,ae q ?_,al.dQ (λt=>Ok.mk ⟨?_,rfl⟩) (λv=>⟨_,oM,P+1,an oM,oM,rfl,?_,rfl⟩)⟩
   ·rw[Xz]
    match P,c with
    |0,c=>simp at c;simp[c]
    |1,c=>simp at c;simp[c]
    |2,c=>simp at c;simp[c]
    |P+3,c=>simp at c
   ·rw[j,p,La,Zx t]
   ·rw[j,p,La,Zq (by simpa using v)]
  have c:P<[e,u,Y].length:=by simp;omega
  exact s [e,u,Y][P] (by simp[c])
 ·obtain rfl:P=3:=oM
  exact Ok.mk ⟨by rw[j];rfl,rfl⟩
def FD(P a:ah):La [HL P.aA a.aA,HL P.origin a.origin,HL P.seq a.seq]=qW P a:=by
 unfold qW eF HL La La La La
 by_cases e:P.aA<a.aA
 ·simp[e]
 by_cases h:a.aA<P.aA
 ·simp[e,h];omega
 have b:P.aA=a.aA:=oM
 by_cases f:P.origin<a.origin
 ·simp[b,f]
 by_cases i:a.origin<P.origin
 ·simp[b,f,i];omega
 have c:P.origin=a.origin:=oM
 by_cases d:P.seq<a.seq
 ·simp[b,c,d]
 by_cases g:a.seq<P.seq
 ·simp[b,c,d,g]
 ·simp[b,c,d,g]
def AQ:ZH 150 #[.agg (aF l d a c).toArray,.agg (aF K t j p).toArray] b (Ok λi k=>i= QH (qW l K)/\G b k):=by
 refine vA (PA.Vr λs m u n=>PA.Vr λv g w o=>λx q=>⟨λ_=>False,?_⟩);have P:=G.drew q;have e:=(P.keep (S:=λ_=>False)).get ((g.keep (S:=λ_=>False)).get n id) id;have f:=(P.keep (S:=λ_=>False)).get o id;refine⟨_,ae e rfl,_,ae f rfl,id,_,ae e rfl,id,_,ae f rfl,id,_,ae e rfl,id,_,ae f rfl,PC.ok gI ?_⟩;rintro _ _ ⟨rfl,rfl⟩;refine⟨_,rfl,aj.refl _,PC.ok gI ?_⟩;rintro _ _ ⟨rfl,rfl⟩;refine⟨_,rfl,aj.refl _,PC.ok gI ?_⟩;rintro _ _ ⟨rfl,rfl⟩;refine⟨_,rfl,aj.refl _,PA.Vr λy h z r=>⟨h.keep,PC.ok (Nk r) ?_⟩⟩;rintro _ _ ⟨rfl,rfl⟩;exact⟨_,rfl,aj.refl _,Ok.mk ⟨by rw[FD],((m.then g).then P).then h⟩⟩
structure Pf where
 e:ah
 a:XU
 n:Nat
 c:Nat
instance:Inhabited Pf:=⟨⟨⟨0,0,0,[],0,0,0,0,0,0⟩,none,0,0⟩⟩
def encS(P:Pf):List Value:=aF P.e P.a P.n P.c
def Pg(a:Pf):∀b∈encS a,b.oneCell'=true:=by
 intro c P;simp only[encS,aF,Q2,List.not_mem_nil,or_false]at P;rcases P with rfl|rfl|rfl|rfl|rfl|rfl|rfl|rfl|rfl|rfl<;>rfl
def yr(P a:Pf):ltOf (λP a:Pf=>qW P.e a.e) P a=eF P.e a.e:=by
 unfold ltOf qW
 cases b:eF P.e a.e
 ·cases c:eF a.e P.e<;>simp[b,c]
 ·simp[b]
def jg:eF l K=true↔l.aA<K.aA\/l.aA=K.aA/\(l.origin<K.origin\/l.origin=K.origin/\l.seq<K.seq):=by simp[eF]
def sZ:eF l K=false↔¬(l.aA<K.aA\/l.aA=K.aA/\(l.origin<K.origin\/l.origin=K.origin/\l.seq<K.seq)):=by rw[<-jg];simp
def Ub:SWO (ltOf λP a:Pf=>qW P.e a.e) where
 irrefl P:=by rw[yr,sZ];omega
 trans P a z h1 h2:=by rw[yr,jg]at*;omega
 ntrans P a z h1 h2:=by rw[yr,sZ]at*;omega
def HM{d:World}{D:XM}:∀{b:List ah} {cs:List Value},bR iC d D b cs->∃a:List Pf,a.map (·.e)=b/\cs=a.flatMap encS/\∀P∈a,Row aM 8 d D P.a P.n P.e.aJ/\P.e.Ok
 |[],_,f=>⟨[],rfl,f,sM⟩
 |e::b,_,⟨r,s,g,⟨h,i,j,k,l,m⟩,n⟩=>by
  obtain⟨a,o,p,q⟩:=HM n;refine⟨⟨e,h,i,j⟩::a,by simp[o],by rw[g,k,p];rfl,?_⟩;intro P c;rcases Q2.1 c with rfl|c
  ·exact⟨l,m⟩
  ·exact q P c
def xg{b:World}{D:XM}:∀{P:List Pf},(∀x∈P,Row aM 8 b D x.a x.n x.e.aJ/\x.e.Ok)->bR iC b D (P.map (·.e)) (P.flatMap encS)
 |[],_=>rfl
 |x::P,a=>⟨encS x,P.flatMap encS,rfl,⟨x.a,x.n,x.c,rfl,(a x (QV ..)).1,(a x (QV ..)).2⟩,xg λc d=>a c (QJ _ d)⟩
def qj{P:List Pf}(b:a<P.length*10):(P.flatMap encS)[a]? =(encS P[a/10]!)[a % 10]? :=by
 induction P generalizing a with
 |nil=>simp at b
 |cons e P f=>
  have g:(encS e).length=10:=rfl;rw[List.flatMap_cons]
  by_cases c:a<10
  ·rw[XW oM,Nat.div_eq_of_lt c,Nat.mod_eq_of_lt c];rfl
  ·rw[X8 oM,g,f (by simp at b;omega)]
   obtain⟨d,rfl⟩:∃d,a=d+10:=⟨a-10,oM⟩
   rw[Nat.add_sub_cancel,Nat.add_div_right _ dC,Nat.add_mod_right];simp
def gQ(P:List Pf):(P.flatMap encS).length=P.length*10:=by
 induction P with
 |nil=>rfl
 |cons a P b=>rw[List.flatMap_cons,QX,b];have c:(encS a).length=10:=rfl;rw[c];simp;omega
def AR(P:List Pf):(flatK encS 10 P.toArray).toList=P.flatMap encS:=by
 apply X3;intro a
 by_cases b:a<P.length*10
 ·rw[qj b]
  have e:a<(flatK encS 10 P.toArray).size:=by simpa using b
  have c:=get_flatK encS 10 P.toArray a (by simpa using b);rw[getElem!_pos _ a e]at c;have f:(encS P[a/10]!).length=10:=rfl;have d:a % 10<(encS P[a/10]!).length:=by rw[f];omega
  rw[Qq (by simpa using b),Qq d]
  congr 1
  rw[Array.getElem_toList,c];rw[getElem!_pos _ _ (by simpa using d)]
  congr 1
  simp
 ·rw[Q7 (by simpa using b),Q7 (by rw[gQ];omega)]
def AP(P:List ah):Prop:=P.Pairwise λa b=>eF b a=false
def HI(m:aV iC 55 f b d a c B)(t:B.length<=20000000):
  ZH 149 #[.slice d a c,.func (.func 150) #[] #[]] b (Ok λM u=>M= .tuple #[]/\∃A,A.Perm B/\AP A/\aV iC 55 f u d a c A/\aj (λn=>aI d=some n) b u):=by
 obtain⟨cs,D,C,Z,N⟩:=m.body;obtain⟨e,E,rfl,a4⟩:=HM Z;have F:=m.len dC;have v:e.length=a:=by rw[F,<-E];simp
 rcases C.cases with⟨rfl,rfl,rfl,h0⟩|⟨h,j,rfl,w,O,H,Q⟩
 ·have hd:e=[]:=QW v
  refine(AnyF.slices_SortFunc_none Tryz.RU none 0 _ b).mono ?_;rintro p u ⟨rfl,rfl⟩;exact Ok.mk ⟨rfl,B,List.Perm.refl _,by rw[<-E,hd];exact List.Pairwise.nil,m,aj.refl _⟩
 ·have R:iC.k=10:=rfl
  rw[R]at Q H;have a5:flatK encS 10 e.toArray=(e.flatMap encS).toArray:=by rw[<-AR]
  have hH:HoldsK encS 10 b h 0 e.toArray:=by
   intro k q;rw[size_flatK]at q;simp only[List.size_toArray]at q;have S:k<(e.flatMap encS).length:=by rw[gQ];exact q
   refine⟨?_,by simp[World.frozen?,w]⟩;have l:(flatK encS 10 e.toArray)[k]! =(e.flatMap encS)[k]:=by
    rw[a5,getElem!_pos _ k (by simpa using S)];simp
   rw[l,Xz];refine ae w ?_;have i:(j.toList.take (a*10))[k]? =some (e.flatMap encS)[k]:=by rw[Q];exact Qq S
   rw[Xw,Zx oM]at i;simpa using i
  have t:=C.row;have I:c<=maxLen:=by
   obtain⟨_,a0,_,T,_,_,_,I,_⟩:=C.row.2.resolve_left (by rintro⟨m,_⟩;cases m);simp only[XX]at T;rw[T.2.2];exact I
  have a6:e.toArray.size<4611686018427387904:=by
   simp only[List.size_toArray,v];omega
  have U:=AnyQ.slices_SortFunc Tryz.RU 10 (λb=>dS _ _ _ kR ⟨_,Tryz.underlying55⟩ b) (λb=>Tryz.sizeOf55 b) encS (λ_=>rfl) Pg (λx V=>qW x.e V.e) Ub 150 #[] h 0 c e.toArray b
   (enters_of Tryz.func150 kR rfl) (λb0 r dk b1 x V=>(AQ).mono ?_) hH (aB w) a6
  ·rw[show e.toArray.size=a by simpa using v]at U
   refine U.mono ?_;rintro p u ⟨rfl,g,y,r,hp,hs,rfl⟩;obtain⟨p1,p2,W⟩:=hp;have P:g.size=a:=p1.trans (by simpa using v);have X:g.toList.Perm e:=by
    have l:g.extract 0 a=g:=by rw[<-P];exact Array.extract_size
    have i:e.toArray.extract 0 a=e.toArray:=by rw[show a=e.toArray.size by simpa using v.symm];exact Array.extract_size
    rw[l,i]at W;exact W
   have a1:flatK encS 10 g=(g.toList.flatMap encS).toArray:=by rw[<-AR]
   have J:(sortWorldK encS 10 b h 0 y g r).heap[h]? =some (.cells (putCells id 0 (flatK encS 10 g) j) 55 (0,0)):=by
    have a7:=aB w;show((Sort.ahead b y).heap.modify h _++r)[h]? =_;rw[Array.getElem?_append_left (by simpa[Sort.ahead]using a7),Array.getElem?_modify,Zx rfl];show Option.map _ b.heap[h]? =_;rw[w];rfl
   have z:aj (λn=>aI (XL h)=some n) b (sortWorldK encS 10 b h 0 y g r):=by
    refine⟨rfl,rfl,rfl,?_,λa2 z F=>?_⟩
    ·show b.heap.size<=((Sort.ahead b y).heap.modify h _++r).size
     simp[Sort.ahead]
    ·show((Sort.ahead b y).heap.modify h _++r)[a2]? =_
     rw[Array.getElem?_append_left (by simpa[Sort.ahead]using z),Array.getElem?_modify,Zq (λp=>F (by rw[p];rfl))]
     rfl
   have a3:(putCells id 0 (flatK encS 10 g) j).size=c*10:=by unfold putCells;rw[Array.size_mapIdx];exact H
   refine Ok.mk ⟨rfl,g.toList.map (·.e),by rw[<-E];exact X.map _,?_,⟨⟨g.toList.flatMap encS,D,⟨⟨?_,.inr ⟨h,c,_,rfl,Qj _,J,O,I,a3,?_⟩⟩⟩,xg λx hx=>?_,N⟩,m.self,λn t=>Qk (m.aE n t) z.size⟩,z⟩
   ·unfold AP
    rw[List.pairwise_map,List.pairwise_iff_getElem];intro Y k hi q a8;have l:=hs Y k (Qj _) a8 (by simpa[P]using q);rw[yr,getElem!_pos _ k (by simpa using q),getElem!_pos _ Y (by simpa using hi)]at l;simpa using l
   ·rw[gQ,XK,P];rfl
   ·apply X3
    intro s;rw[R,Xw];split
    ·rename_i o
     rw[qj (by rw[XK,P];exact o),<-qj (by rw[XK,P];exact o)];unfold putCells;have a9:s<j.size:=by rw[H];exact Qk o (Q0 _ O)
     rw[Array.getElem?_toList,Array.getElem?_mapIdx,X6 a9];simp only[Option.map_some];have K:s<(flatK encS 10 g).size:=by rw[size_flatK,P];exact o
     rw[Zx ⟨Qj _,by rw[Xz];exact K⟩,Nat.sub_zero,getElem!_pos _ s K];have:(flatK encS 10 g)[s]=(g.toList.flatMap encS)[s]'(by rw[gQ,XK,P];exact o):=by
      have i:=Zj (·[s]?) a1;simp only[List.getElem?_toArray]at i;rw[X6 K,Qq (by rw[gQ,XK,P];exact o)]at i;exact XJ i
     rw[this];exact(Qq _).symm
    ·rename_i o
     rw[Q7 (by rw[gQ,XK,P];omega)]
   ·have L:x∈e:=X.mem_iff.1 hx
    obtain⟨l,i⟩:=a4 x L;exact⟨l.keep z λn t p=>(N n t).2 p,i⟩
  ·rintro p u ⟨M,rfl,rfl,hG⟩
   exact⟨rfl,hG⟩
open Go.au
abbrev RY(P:List ah):Prop:=P.Pairwise λa b=>eF a b=true
structure ar.OK (S:ar):Prop where
 n:S.n<=64
 Nl:RY S.l
 ids:(S.l.map aX).Nodup
 Ui:∀e∈S.l,c_ e S.n=0
 ok:∀e∈S.l,e.Ok
def Dh(a:aX l≠aX K):eF l K=true\/eF K l=true:=by
 rw[jg,jg];have:¬(l.origin=K.origin/\l.seq=K.seq):=λP=>a (by unfold aX;rw[P.1,P.2]);omega
def rQ{P a b:ah}(c:eF P a=true)(d:eF a b=true):eF P b=true:=by rw[jg]at*;omega
def lS(P:eF l K=true):eF K l=false:=by rw[jg]at P;rw[sZ];omega
def cP(a:ah):∀P,(dA a P).Perm (a::P)
 |[]=>List.Perm.refl _
 |x::P=>by
  unfold dA;split
  ·exact List.Perm.refl _
  ·exact(List.Perm.cons x (cP a P)).trans (List.Perm.swap a x P)
def vf{d:ah}:∀{a},RY a->(∀x∈a,aX x≠aX d)->RY (dA d a)
 |[],_,_=>by unfold dA;exact List.pairwise_singleton ..
 |x::a,e,f=>by
  obtain⟨g,h⟩:=List.pairwise_cons.1 e;unfold dA;split
  ·rename_i c
   exact List.pairwise_cons.2 ⟨λb P=>by
    rcases Q2.1 P with rfl|P
    ·exact c
    ·exact rQ c (g b P),e⟩
  ·rename_i c
   refine List.pairwise_cons.2 ⟨λb P=>?_,vf h λb P=>f b (QJ _ P)⟩;rcases Q2.1 ((cP d a).mem_iff.1 P)with rfl|P
   ·exact(Dh (f x (QV ..))).resolve_right (by simpa using c)
   ·exact g b P
def Ka(g:AP B)(i:RY f3)(c:B.Perm f3)(j:(B.map aX).Nodup):B=f3:=by
 refine c.eq_of_pairwise (le:=λa P=>eF P a=false) (λa P k l d e=>?_) g (i.imp λh=>lS h)
 by_cases f:aX a=aX P
 ·have b:P∈B:=c.mem_iff.2 l
  obtain⟨o,m,rfl⟩:=List.getElem_of_mem k;obtain⟨p,n,rfl⟩:=List.getElem_of_mem b;have:=(List.getElem_inj (xs:=B.map aX) (h₀:=by simpa using m) (h₁:=by simpa using n) j).1 (by simpa using f);subst this;rfl
 ·rcases Dh f with h|h
  ·rw[h]at e;cases e
  ·rw[h]at d;cases d
def Rl(a:(B.map aX).Nodup)(P:l∈B):B.find? (λb=>aX b==aX l)=some l:=by
 induction B with
 |nil=>cases P
 |cons b B c=>
  simp only[QY,List.nodup_cons]at a;rcases Q2.1 P with rfl|P
  ·simp
  ·have d:aX b≠aX l:=λe=>a.1 (e▸Xk.2 ⟨l,P,rfl⟩)
   rw[List.find?_cons_of_neg (by simpa using d)];exact c a.2 P
def ar.get_some(P:C.get d3=some l):l∈C.l/\aX l=d3:=
 ⟨List.mem_of_find?_eq_some P,by simpa using List.find?_some P⟩
def ar.get_none(a:C.get d3=none):∀P∈C.l,aX P≠d3:=λP b=>by
 have:=List.find?_eq_none.1 a P b;simpa using this
def ar.OK.get(P:C.OK)(a:l∈C.l):C.get (aX l)=some l:=Rl P.ids a
def HH(h:C.OK)(d:∀P∈g4,P.1=aX P.2)(e:(g4.map (·.2)).Perm C.l)(l:Tidy g4)(a:Int×Int):aq g4 a=C.get a:=by
 cases b:aq g4 a with
 |none=>
  rw[mr]at b
  symm
  refine List.find?_eq_none.2 λc i=>?_;obtain⟨P,f,rfl⟩:=Xk.1 (e.mem_iff.2 i);intro j;exact b (Xk.2 ⟨P,f,by rw[d P f];simpa using j⟩)
 |some c=>
  have g:=b_ b;have k:a=aX c:=d _ g;have:c∈C.l:=e.mem_iff.1 (Xk.2 ⟨_,g,rfl⟩);rw[k,h.get this]
def wj(a:List ah)(P:Int):a.foldl (λP b=>max P b.aA) P=max P (a.foldl (λP b=>max P b.aA) 0)\/P<0:=by
 induction a generalizing P with
 |nil=>simp;omega
 |cons c a d=>
  rw[List.foldl_cons,List.foldl_cons]
  by_cases f:P<0
  ·exact .inr f
  ·rcases d (max P c.aA)with h|h
   ·rcases d (max 0 c.aA)with e|e
    ·left;rw[h,e];omega
    ·omega
   ·omega
def ar.Ri(P:ar)(a:ah):ar.top ⟨P.n,dA a P.l⟩=max P.top a.aA:=by
 show(dA a P.l).foldl _ _=_;rw[(cP a P.l).foldl_eq' (λb _ c _ d=>oM),List.foldl_cons];rcases wj P.l (max 0 a.aA)with h|h
 ·rw[h]
  show max (max 0 a.aA) P.top=_;have:0<=P.top:=by
   rcases wj P.l 0 with h|h
   ·unfold ar.top;omega
   ·omega
  omega
 ·omega
def ar.JP(P:ar):0<=P.top:=by
 rcases wj P.l 0 with h|h
 ·unfold ar.top;omega
 ·omega
def lX(P:c_ l a=0):0<=l.origin/\l.origin<a/\1<=l.seq/\1<=l.aA/\0<=l.agg/\0<=l.key/\l.aJ.length=a/\(∀b∈l.aJ,0<=b)/\l.aJ.getD l.origin.toNat 0=nX (l.seq-1)/\1<=l.op/\l.op<=5/\0<=l.bk/\l.bk<8/\0<=l.field/\l.field<8:=by
 unfold c_ at P;split at P
 ·simp at P
 ·rename_i c
  split at P
  ·simp at P
  ·rename_i d
   split at P
   ·simp at P
   ·rename_i h
    split at P
    ·simp at P
    ·rename_i i
     simp only[not_or,List.any_eq_true,Zk,not_exists,not_and]at c;obtain⟨j,k,m,b,n,e⟩:=c;refine⟨oM,oM,oM,oM,oM,oM,oM,λf g=>by have:=e f g;omega,by simpa using d,oM,oM,oM,oM,oM,oM⟩
def ar.Du(P:ar)(a:ah)(b:Nat):ar.Dt ⟨P.n,dA a P.l⟩ b=P.Dt b+if a.origin=(b:Int)then 1 else 0:=by
 unfold ar.Dt;show(dA a P.l).countP _=_;rw[(cP a P.l).countP_eq,List.countP_cons]
 congr 1
 simp
def ar.OQ(P:ar)(a:Nat):P.Dt a<=P.l.length:=List.countP_le_length
def ar.bZ(P:ar):P.vec.length=P.n:=by simp[ar.vec]
def ar.nE(P:ar)(b:a<P.n):P.vec[a]? =some (P.Dt a:Int):=by simp[ar.vec,b]
def ar.tq(S:ar)(P:a<S.n):S.vec.getD a 0=(S.Dt a:Int):=by rw[QQ,S.nE P];rfl
def ar.Rj(P:ar)(c:ah)(f:c.origin=(a:Int)):ar.vec ⟨P.n,dA c P.l⟩=P.vec.set a (P.Dt a+1:Int):=by
 apply X3;intro d
 by_cases b:d<P.n
 ·rw[ar.nE ⟨P.n,dA c P.l⟩ b,ar.Du,Xj,P.nE b,P.bZ]
  by_cases e:a=d
  ·subst e;simp[f,b]
  ·rw[Zq e,Zq oM];simp
 ·rw[Q7 (by rw[ar.bZ];exact Nat.le_of_not_lt b),Q7 (by rw[List.length_set,P.bZ];omega)]
def ar.add_def(P:ar)(a:ah):P.add a=if c_ a P.n≠0 then(c_ a P.n,P)else if(P.get (aX a)).isSome then(16,P)else
 if a.seq≠(P.vec.getD a.origin.toNat 0)+1 then(9,P)else if(List.range P.n).any λb=>!P.lr a b then(9,P)else(0,⟨P.n,dA a P.l⟩):=rfl
def ar.yy(P:C.OK)(g:l.Ok):(C.add l).2.OK/\(C.add l).2.n=C.n:=by
 rw[ar.add_def]
 by_cases c:c_ l C.n=0
 rotate_left
 ·rw[Zx c];exact⟨P,rfl⟩
 rw[Zq (by simpa using c)]
 by_cases d:(C.get (aX l)).isSome=true
 ·rw[Zx d];exact⟨P,rfl⟩
 rw[Zq d];split
 ·exact⟨P,rfl⟩
 split
 ·exact⟨P,rfl⟩
 have f:C.get (aX l)=none:=by simpa using d
 have e:=cP l C.l;refine⟨⟨P.n,vf P.Nl (ar.get_none f),?_,?_,?_⟩,rfl⟩
 ·refine(e.map aX).nodup_iff.2 ?_
  rw[QY,List.nodup_cons];exact⟨λh=>by obtain⟨b,a,i⟩:=Xk.1 h;exact ar.get_none f b a i,P.ids⟩
 ·intro b a
  rcases Q2.1 (e.mem_iff.1 a)with rfl|a
  ·exact c
  ·exact P.Ui b a
 ·intro b a
  rcases Q2.1 (e.mem_iff.1 a)with rfl|a
  ·exact g
  ·exact P.ok b a
def ar.rL(P:a<=64):ar.OK ⟨a,[]⟩:=⟨P,List.Pairwise.nil,sM,sM,sM⟩
structure ar.Cl (S:ar):Prop where
 ok:S.OK
 lr:∀e∈S.l,∀o,o<S.n->S.lr e o=true
 le:∀e∈S.l,e.seq<=(S.Dt e.origin.toNat:Int)
 has:∀(o:Nat) (s:Int),o<S.n->1<=s->s<=(S.Dt o:Int)->∃e∈S.l,aX e=((o:Int),s)
def yN:C.lr l a=true↔l.aJ.getD a 0=0\/∃P,C.get ((a:Int),l.aJ.getD a 0)=some P/\P.aA<l.aA/\∀b,b<P.aJ.length->P.aJ.getD b 0<=l.aJ.getD b 0:=by
 unfold ar.lr;generalize l.aJ.getD a 0=c;dsimp only
 cases d:C.get ((a:Int),c)with
 |none=>simp
 |some P=>simp
def ar.Cl.new(P:a<=64):ar.Cl ⟨a,[]⟩:=⟨ar.rL P,sM,sM,λc d _ e b=>by simp[ar.Dt]at b;omega⟩
def ar.PM(P:ar.OK ⟨C.n,dA l C.l⟩)(a:C.get d3=some K):ar.get ⟨C.n,dA l C.l⟩ d3=some K:=by
 obtain⟨b,rfl⟩:=ar.get_some a;exact P.get ((cP l C.l).mem_iff.2 (QJ _ b))
def ar.gJ(P:ar)(a:ah):((P.add a).1≠0/\(P.add a).2=P)\/(P.add a=(0,⟨P.n,dA a P.l⟩)/\c_ a P.n=0/\P.get (aX a)=none/\a.seq=P.vec.getD a.origin.toNat 0+1/\∀b,b<P.n->P.lr a b=true):=by
 rw[ar.add_def];split
 ·rename_i c;exact .inl ⟨c,rfl⟩
 rename_i d;split
 ·exact .inl ⟨sM,rfl⟩
 rename_i e;split
 ·exact .inl ⟨sM,rfl⟩
 rename_i f;split
 ·exact .inl ⟨sM,rfl⟩
 rename_i g;refine .inr ⟨rfl,by simpa using d,by simpa using e,by simpa using f,?_⟩;simpa[List.any_eq_false]using g
def ar.PN{S:ar}(a:c_ l S.n=0)(b:S.get (aX l)=none)(c:l.seq=S.vec.getD l.origin.toNat 0+1)(d:∀P,P<S.n->S.lr l P=true):S.add l=(0,⟨S.n,dA l S.l⟩):=by
 rw[ar.add_def,Zq (by simpa using a),Zq (by simp[b]),Zq (by simpa using c),Zq];simpa[List.any_eq_false]using d
def ar.Cl.add{c:ar}(h:c.Cl){b:ah}(q:b.Ok):(c.add b).2.Cl:=by
 have l:=(ar.yy h.ok q).1;rcases c.gJ b with⟨-,g⟩|⟨i,r,y,s,t⟩
 ·rw[g];exact h
 rw[i]at l⊢;simp only at l⊢;obtain⟨z,A,B,-⟩:=lX r;obtain⟨j,m⟩:∃j:Nat,b.origin=j:=⟨b.origin.toNat,oM⟩
 have u:j<c.n:=oM
 rw[m,Qx,c.tq u]at s;have d:∀P,P∈dA b c.l↔P=b\/P∈c.l:=λP=>by rw[(cP b c.l).mem_iff,Q2]
 have e:∀P f,c.lr P f=true->ar.lr ⟨c.n,dA b c.l⟩ P f=true:=λP f a=>by
  rw[yN]at a⊢;rcases a with a|⟨v,i,g⟩
  ·exact .inl a
  ·exact .inr ⟨v,ar.PM l i,g⟩
 refine⟨l,λP a f k=>?_,λP a=>?_,λf n k i g=>?_⟩
 ·rcases(d P).1 a with rfl|a
  ·exact e _ _ (t f k)
  ·exact e _ _ (h.lr P a f k)
 ·rw[ar.Du]
  rcases(d P).1 a with rfl|a
  ·rw[m,Qx,Zx rfl];omega
  ·have:=h.le P a
   split<;>omega
 ·rw[ar.Du]at g
  by_cases p:b.origin=(f:Int)
  ·rw[Zx p]at g
   have w:j=f:=oM
   subst w
   by_cases x:n=b.seq
   ·exact⟨b,(d b).2 (.inl rfl),by simp[aX,m,x]⟩
   ·obtain⟨P,a,o⟩:=h.has j n k i oM
    exact⟨P,(d P).2 (.inr a),o⟩
  ·rw[Zq p]at g
   obtain⟨P,a,o⟩:=h.has f n k i oM;exact⟨P,(d P).2 (.inr a),o⟩
def ar.Rt(P:ar)(a:ah):(P.add a).2.n=P.n:=by
 rcases P.gJ a with⟨-,b⟩|⟨c,-⟩
 ·rw[b]
 ·rw[c]
def ar.yf(P:ar)(a:ah):(P.add a).2.l.length<=P.l.length+1:=by
 rcases P.gJ a with⟨-,b⟩|⟨c,-⟩
 ·rw[b];omega
 ·rw[c];show(dA a P.l).length<=_;rw[(cP a P.l).length_eq];simp
def ar.ql(P:ar)(a:List ah)(b:ah):P.ey (a++[b])=((P.ey a).add b).2:=by unfold ar.ey;rw[List.foldl_append];rfl
def ar.yO(P:ar)(a b:List ah):P.ey (a++b)=(P.ey a).ey b:=by unfold ar.ey;rw[List.foldl_append]
def ar.Cl.ey:∀{l:List ah} {S:ar},S.Cl->(∀e∈l,e.Ok)->(S.ey l).Cl
 |[],S,P,_=>P
 |e::l,S,P,a=>ar.Cl.ey (l:=l) (S:=(S.add e).2) (P.add (a e (QV ..))) λb c=>a b (QJ _ c)
def ar.Nw:∀(a:List ah) (P:ar),(P.ey a).n=P.n
 |[],P=>rfl
 |e::a,P=>(ar.Nw a _).trans (P.Rt e)
def ar.lR:∀(a:List ah) (P:ar),(P.ey a).l.length<=P.l.length+a.length
 |[],P=>by simp[ar.ey]
 |e::a,P=>by
  have b:=ar.lR a (P.add e).2;have c:=P.yf e;show((P.add e).2.ey a).l.length<=_;simp only[Xq];omega
def rV{a:ah}:∀{P:List ah},(∀x∈P,eF a x=false)->dA a P=P++[a]
 |[],_=>rfl
 |x::P,b=>by
  unfold dA;rw[Zq (by rw[b x (QV ..)];simp),rV λc d=>b c (QJ _ d)];rfl
def ar.Cl.take{P:ar}(g:P.Cl):∀{k:Nat},k<=P.l.length->(⟨P.n,[]⟩:ar).ey (P.l.take k)=⟨P.n,P.l.take k⟩/\ar.Cl ⟨P.n,P.l.take k⟩
 |0,_=>⟨rfl,by simpa using ar.Cl.new g.ok.n⟩
 |k+1,U=>by
  obtain⟨I,l⟩:=ar.Cl.take g (k:=k) oM;have f:P.l[k]? =some P.l[k]:=Qq oM;have m:P.l[k]∈P.l:=XY oM;generalize P.l[k]=a at f m;have v:P.l=P.l.take k++a::P.l.drop (k+1):=by
   conv=>lhs;rw[<-ZX k P.l]
   congr 1
   rw[X4 oM]
   congr 1
   have:=Qq (l:=P.l) (i:=k) oM;rw[f]at this;exact(XJ this).symm
  have p:=g.ok.Nl;have h:=g.ok.ids;rw[v]at p h;have e:∀x∈P.l,eF x a=true->x∈P.l.take k:=λx c n=>by
   rw[v]at c;rcases Q6.1 c with c|c
   ·exact c
   rcases Q2.1 c with rfl|c
   ·rw[jg]at n;omega
   ·have J:=(List.pairwise_append.1 p).2.1
    have q:=(List.pairwise_cons.1 J).1 x c;rw[lS q]at n;cases n
  have b:∀x∈P.l.take k,eF x a=true:=λx c=>(List.pairwise_append.1 p).2.2 x c a (QV ..);have w:ar.get ⟨P.n,P.l.take k⟩ (aX a)=none:=by
   cases K:ar.get ⟨P.n,P.l.take k⟩ (aX a)with
   |none=>rfl
   |some x=>
    obtain⟨i,j⟩:=ar.get_some K;rw[Q3,QY,List.nodup_append]at h;exact Zz j (h.2.2 (aX x) (Xk.2 ⟨x,i,rfl⟩) (aX a) (QV ..))
  have y:=g.ok.Ui a m;obtain⟨V,W,L,X,-,-,Y,-,z,-⟩:=lX y;obtain⟨d,r⟩:∃d:Nat,a.origin=d:=⟨a.origin.toNat,oM⟩
  have s:d<P.n:=oM
  have A:∀o,o<P.n->ar.lr ⟨P.n,P.l.take k⟩ a o=true:=λo M=>by
   have:=g.lr a m o M;rw[yN]at this⊢;rcases this with B|⟨x,t,C,N⟩
   ·exact .inl B
   ·obtain⟨i,j⟩:=ar.get_some t
    refine .inr ⟨x,?_,C,N⟩;rw[<-j];exact l.ok.get (e x i (by rw[jg];exact .inl C))
  have E:=g.ok.ok a m;have Q:a.seq=(ar.vec ⟨P.n,P.l.take k⟩).getD a.origin.toNat 0+1:=by
   rw[r,Qx,ar.tq (S:=⟨P.n,P.l.take k⟩) s];have Z:(ar.Dt ⟨P.n,P.l.take k⟩ d:Int)+1<=a.seq:=by
    rcases Int.lt_or_le (ar.Dt ⟨P.n,P.l.take k⟩ d:Int) a.seq with n|O
    ·omega
    ·obtain⟨x,R,S⟩:=l.has d a.seq s L O
     have:=ar.get_none w x R;exact Zz (S.trans (by simp[aX,r])) this
   have O:a.seq<=(ar.Dt ⟨P.n,P.l.take k⟩ d:Int)+1:=by
    have T:nX (a.seq-1)=a.seq-1:=by
     have:=E.seq;exact wrap_i64 (by unfold aN at*;omega)
    rw[T,r,Qx]at z;have:=A d s;rw[yN,z]at this;rcases this with B|⟨x,t,-⟩
    ·omega
    ·obtain⟨i,j⟩:=ar.get_some t
     have q:=l.le x i;have F:x.origin=d/\x.seq=a.seq-1:=by
      have:=j;simp only[aX,Prod.mk.injEq]at this;exact this
     rw[F.1,F.2,Qx]at q;omega
   show a.seq=(ar.Dt ⟨P.n,P.l.take k⟩ d:Int)+1;omega
  have H:=ar.PN (S:=⟨P.n,P.l.take k⟩) y w Q A;have a0:dA a (P.l.take k)=P.l.take (k+1):=by
   rw[rV λx f=>lS (b x f),Qw,f];rfl
  rw[show P.l.take (k+1)=P.l.take k++[a] by rw[Qw,f];rfl,ar.ql,I,H];have u:=l.add E;rw[H]at u;rw[show dA a (P.l.take k)=P.l.take k++[a]from rV λx f=>lS (b x f)]at u⊢;exact⟨rfl,u⟩
def ar.Cl.Sa(P:C.Cl):(⟨C.n,[]⟩:ar).ey C.l=C:=by
 have:=(P.take (Q4 _)).1;rw[List.take_length]at this;exact this
def sH:lv:=⟨[(3,[(6,.slice none 0 0),(16,QH 0)])],[],[5,12],[],[(5,⟨[0,1,2,4,0,16,40,64,128,128,511,2047],[4095,4094,4093,4091,4095,4079,4055,4031,3967,3967,3839,3583],[0,0,0,1,0,2,2,0,0,0,0,0]⟩),(12,⟨[0,0,2,4,8,0,32,0,208,257,1023],[2047,2047,2045,2043,2039,2047,2015,2047,1839,2046,1791],[0,0,0,0,1,0,2,0,2,0,0]⟩)]⟩
def sI(N:PA b (.cells #[.slice t a c] 230) λv=>(rS v (ab_ b 0) λO w c3=>(∃o:Nat->XU->Nat->Nat->Int->XT,(∃e,o e none 0 0 0 v)/\∀(e:Nat) (f:XU) (g:Nat) (h:Nat) (P:Int) (c4:Nat->Value) (i:World),o e f g h P i->al (decide (P<(w:Int))) ((ix_ O P w λQ R=>(rI i (ad Q (R+Int.toNat P)) λj=>(∀k,bY i k->∃p:XM,(dr d λx S=>(¬p x/\(rP k (ad x S) λT=>PC_ 120 #[.ii j] k (λU q=>∃y,U= .string y/\(aj p k q/\PC_ 181 #[.pointer T,.string y] q (λV l=>∃W A X B,V= .tuple #[.slice W A X,.ii B]/\(aj p q l/\al (B !=0) (rt z ((.tuple #[.slice f g h,.ii 0])) l) ((dr d λY Z=>(rP l (ad Y Z) λa1=>PC_ 187 #[.pointer a1,.ii j] l (λa2 a3=>∃D C E m,a2= .tuple #[.slice D C E,.ii m]/\PR_ (ap_ 50 (.slice f g h) (.slice D C E)) a3 (kS_ λG F H r=>(dr d λa4 a5=>(rS r (ad a4 (a5+2)) λa6 a7 a8=>PA r (.cells #[.ii j] 3) λa9=>PR_ (ap_ 27 (.slice a6 a7 a8) (.slice (some (ab_ r 0)) 1 1)) a9 (kS_ λb0 b1 b2 b3=>(dr d λb4 b5=>PS b3 (ad b4 (b5+2)) (.slice b0 b1 b2) λb6=>(dr d λb7 b8=>PS b6 (ad b7 (b8+3)) (.ii m) λI=>al (decide (m<(A:Int))) ((∀n,bY I n->∃s:XM,(dr d λJ b9=>(¬s J/\(rP n (ad J b9) λc0=>PC_ 120 #[.ii j] n (λc1 u=>∃K,c1= .string K/\(aj s n u/\PC_ 188 #[.pointer c0,.string K,.ii m] u (kI_ λc2 L=>(aj s u L/\rt z ((.tuple #[.slice G F H,.ii c2])) L)) (pZ z))) (pZ z)))))) ((∃M,M<e/\o M G F H (XH .i64 (P+1)) I))))) (pV z)))) (pV z)) (pE z)))))) (pZ z))) (pZ z)))))))) (rt z ((.tuple #[.slice f g h,.ii 0])) i)))):ZH 137 #[.pointer d,.agg #[.slice t a c]] b z:=DC sH Tryz.func137 rfl N
end Go.Proofs.YtblabbpipmodgaaGreatDoor
namespace Go.au
open Go
def gD(P:List Int):List UInt8:=bg ((P.length:Int)::P)
def bJ(P:List Int):List UInt8:=cu 2 (gD P)
def jF(P:List UInt8):List Int×gA:=aU (bB 64 ⟨P,0,0⟩).1.toNat (bB 64 ⟨P,0,0⟩).2
def h_(P:List UInt8):Option (List Int):=
 if(bq P).no≠0\/(bq P).n≠P.length\/(bq P).kind≠2 then none else if gB (jF (bq P).body).2≠0 then none else some (jF (bq P).body).1
def CF(P:List UInt8):(∀a∈(jF P).1,aN a)/\(jF P).1.length<=64/\(jF P).2.Fit:=by
 obtain⟨b,f,g,h⟩:=gA.Fit.count (r:=⟨P,0,0⟩) ⟨Qj _,.inl rfl⟩ (m:=64) oM;obtain⟨c,d,e,i⟩:=b.ints (bB 64 ⟨P,0,0⟩).1.toNat;exact⟨d,by show(aU _ _).1.length<=64;rw[e];omega,c⟩
variable{q:List Int}{s:List UInt8}
def Ms(P:h_ s=some q):(∀a∈q,aN a)/\q.length<=64:=by
 unfold h_ at P;split at P
 ·cases P
 split at P
 ·cases P
 ·cases P
  exact⟨(CF _).1,(CF _).2.1⟩
def vY(b:∀P∈q,aN P)(c:q.length<=64):(gD q).length<=585:=by
 have:=fw (l:=(q.length:Int)::q) (by
  intro P a;rcases Q2.1 a with rfl|a
  ·unfold aN;omega
  ·exact b P a)
 unfold gD;rw[Xq]at this;omega
def pX(P:List Int):(bJ P).length=(gD P).length+9:=eM _ _
def mS(P:∀b∈q,aN b)(c:q.length<=64):h_ (bJ q)=some q:=by
 have k:=vY P c;have d:bq (bJ q)=⟨2,gD q,(gD q).length+9,0⟩:=by
  have:=CG (k:=2) (body:=gD q) (r:=[]) dC dC oM
  rwa [List.append_nil]at this
 have e:(gA.mk (gD q) 0 0).At (gD q) (dR (q.length:Int)++(bg (q++[])++[])):=⟨rfl,Qj _,rfl,by rw[List.drop_zero];simp[gD,jT]⟩
 obtain⟨f,g⟩:=e.count (m:=64) bb oM oM;obtain⟨h,i⟩:=gA.At.ints q g P;have a:jF (gD q)=aU q.length (bB 64 ⟨gD q,0,0⟩).2:=by unfold jF;rw[f,Qx]
 have j:gB (jF (gD q)).2=0:=by rw[a];exact gA.At.done (by simpa[bg]using i)
 unfold h_;rw[d,Zq (by simp[pX])];simp only;rw[Zq (by rw[j];simp),a,h]
end Go.au
namespace Go.Proofs.YtblabbpipmodgaaGreatDoor
open Go.au
def DT(P:Int)(a:bL):Int:=a.synced+max 0 (min P ((a.bytes.length:Int)-a.synced))
def qU(P:Int)(a:bL):bL:=a.cut (DT P a)
def ak.dV(D:ak)(P:Int):ak:={D with files:=(D.files.filter λa=>a.2.iS).map (λa=>(a.1,qU P a.2)),iI:=false,dead:=false}
def ak.Gr(D:ak)(P:List (ByteArray×bL)):ak:=⟨D.most,P,D.iI,D.left,D.dead⟩
def ak.gM(D:ak):ak:={D with files:=D.files.filter λP=>P.2.iS}
def Bw(P:List (ByteArray×bL))(a:ByteArray×bL->Bool):eI (P.filter a)<=eI P:=by
 unfold eI
 induction P with
 |nil=>simp
 |cons b P c=>
  rw[List.filter_cons];split
  ·simp;omega
  ·simp;omega
variable{w:ByteArray}{e:Int}{f4:List ByteArray}{q:List Int}{B:List ah}{a c j p:Nat}{a2 f:XM}{d t:XU}{i:Type}{b:World}{K l:ah}
def pq{P:List (ByteArray×i)}(a:Tidy P)(b:ByteArray×i->Bool):Tidy (P.filter b):=List.Nodup.sublist (List.Sublist.map _ List.filter_sublist) a
def ak.Ok.gM{D:ak}(P:D.Ok):D.gM.Ok:=by
 have d:=Bw D.files λa=>a.2.iS;have c:=P.fits;have e:=List.length_filter_le (λa:ByteArray×bL=>a.2.iS) D.files;have f:=P.many;unfold ak.used at c;exact⟨P.most,by show eI (D.files.filter _)<=D.most;omega,by show(D.files.filter _).length<=64;omega,pq P.tidy _,λa b=>P.names a (List.mem_filter.1 b).1,λa b=>P.Pw a (List.mem_filter.1 b).1,P.zy,P.zz⟩
def NK{a:List (ByteArray×i)}(c:Tidy a){l f:ByteArray×i->i}{u m:i}(g:(w,u)∈a)(j:∀b∈a,b.1≠w->f b=l b)(p:f (w,u)=m):
  aH (a.map λP=>(P.1,l P)) w m=a.map λP=>(P.1,f P):=by
 induction a with
 |nil=>cases g
 |cons q a n=>
  obtain⟨P,b⟩:=q;unfold Tidy at c n;simp only[QY,List.nodup_cons]at c;simp only[QY];unfold aH
  by_cases h:(w==P)=true
  ·have r:w=P:=eq_of_beq h
   subst r;have s:b=u:=by
    rcases Q2.1 g with h|h
    ·cases h;rfl
    ·exact Zz (Xk.2 ⟨_,h,rfl⟩) c.1
   subst s;rw[Zx h,p]
   congr 1
   refine List.map_congr_left λd e=>?_;rw[j d (QJ _ e) λk=>c.1 (Xk.2 ⟨d,e,k⟩)]
  ·have o:P≠w:=λk=>h (by rw[k];simp)
   rw[Zq h,j (P,b) (QV ..) o]
   congr 1
   refine n c.2 ?_ λd e=>j d (QJ _ e);rcases Q2.1 g with H|H
   ·cases H;exact Zz rfl o
   ·exact H
def qV(P:Int)(left:List (ByteArray×my))(a:ByteArray×bL):bL:=if left.any (λb=>b.1==a.1)then a.2 else qU P a.2
def IT{D:ak}(h:aT b a f D)(e4:aN e):
  ZH 61 #[XP a,QH e] b (Ok λS t=>∃q,S= .tuple #[]/\aT t a q (D.dV e)/\cO f b q t):=by
 obtain⟨u,x,k⟩:=h.open;have e5:x.filter (λP=>P.2.f.iS)=x.filter (λP=>P.2.f.iS):=rfl;refine sk ⟨a,0,rfl,some u,ae k.head rfl,PC.ok (xW k.map k.each λP l c j=>(k.Gk P l c j).2.2) ?_⟩;rintro _ v ⟨rfl,c0,B⟩;have c1:∀c,c=u->f c:=λc n=>n▸k.Fr;have r:eY v a f D.gM u (x.filter λP=>P.2.f.iS):=by
  have C:∀P∈x.filter (λP=>P.2.f.iS),P∈x:=λP l=>(List.mem_filter.1 l).1;refine⟨B.get k.head (λn=>k.pr n),c0,?_,⟨λP l=>(k.each.each P (C P l)).keep B λc j=>(k.Gk P (C P l) c j).2.2,λP l d o=>k.each.apart P (C P l) d (C d o),pq k.each.tidy _⟩,λP l=>k.Gk P (C P l),k.Fr,k.pr,k.self,λc j=>Qk (k.aE c j) B.size,k.ok.gM⟩;show D.files.filter _=_;rw[k.files,List.filter_map]
  rfl
 generalize e6:x.filter (λP=>P.2.f.iS)=p at r;have c2:∀P∈p,∀c,P.2.G c->c<v.heap.size:=λP l c j=>(r.each.each P l).aE c j;refine⟨rfl,a,0,rfl,some u,ae r.head rfl,mapRange mF r.map λw2 hR T s2=>?_⟩;have c3:Tidy D.gM.files:=r.ok.tidy;have c4:∀d∈p,tX d∈D.gM.files:=λd o=>by rw[r.files];exact Xk.2 ⟨d,o,rfl⟩
 have a5:cO f b f w2:=⟨((B.mono λc _ j=>c1 c j)).af T,λ_ h=>.inl h⟩
 refine⟨λU t=>∃(left s:List (ByteArray×my)) (q:XM),dG t v.heap.size u Value.string (p.map ei) (left.map ei)/\U=left.length/\eY t a q (D.gM.Gr (D.gM.files.map λi=>(i.1,qV e left i))) u s/\s.map ei=p.map ei/\
   cO f b q t/\(∀P∈left,P∈p/\aq s P.1=some P.2)/\Tidy left/\v.heap.size<t.heap.size/\¬q v.heap.size,
  ⟨_,p,p,f,hR,rfl,?_,rfl,a5,λP l=>⟨l,pw r.each.tidy l⟩,r.each.tidy,oM,λj=>by have:=r.aE _ j;omega⟩,?_⟩
 ·have n:(D.gM.files.map λP=>(P.1,qV e p P))=D.gM.files:=by
   have:∀P∈D.gM.files,(P.1,qV e p P)=P:=λP l=>by
    rw[r.files]at l;obtain⟨d,o,rfl⟩:=Xk.1 l;have:p.any (λi=>i.1==(tX d).1)=true:=List.any_eq_true.2 ⟨d,o,by simp[tX]⟩;unfold qV;rw[Zx this]
   have I:=List.map_congr_left (f:=λP=>(P.1,qV e p P)) (g:=id) this;rw[I,List.map_id]
  rw[n];exact r.af T
 ·rintro U a1 w3 ⟨left,s,q,c5,rfl,V,a7,J,W,y,e1,X⟩
  refine qq c5 (λK=>.inl ⟨rfl,?_⟩) λg S l1 l2 Y c6 c7 c8 Z s4=>.inr ⟨_,_,rfl,ub c8 ?_⟩
  ·have c9:left=[]:=by simpa using K
   subst c9;refine⟨a,0,rfl,V.at.Gj λw5 h5 k5 s5=>⟨a,0,rfl,h5.yj λw6 h6 k6 s6=>Ok.mk ⟨q,rfl,?_,J.trans ⟨k5.then k6,λ_ h=>.inl h⟩⟩⟩⟩;have n:(D.gM.files.map λP=>(P.1,qV e [] P))=(D.files.filter λP=>P.2.iS).map (λP=>(P.1,qU e P.2)):=List.map_congr_left λP _=>by simp[qV]
   rw[n]at h6;exact h6
  ·obtain⟨m,P,c,rfl,rfl,rfl,rfl⟩:=vP c6
   obtain⟨a8,E⟩:=W (g,P) sM;have E:aq s g=some P:=E;have a9:∀c,c=v.heap.size->¬q c:=λc n=>n▸X;have w:=V.keep Z λc j n=>a9 c n j;have L:=w.get E;have M:=b_ E;have d0:eA Y P.q P.G P.f:=w.each.each _ M;have d1:∀c,P.G c->c<v.heap.size:=c2 _ a8;have b0:∀c,P.G c->q c/\c≠a/\c≠u:=w.Gk _ M;have b1:P.f.bytes.length<=262144:=w.ok.len (b_ L);have e2:P.f.synced<=P.f.bytes.length:=w.ok.Pw _ (b_ L);have e7:P.f=(tX (g,P)).2:=rfl;refine⟨_,_,rfl,λw5 z=>?_⟩;have b2:=d0.keep (z.keep (S:=λ_=>False)) λ_ _ h=>h;have b3:=w.af z.keep;obtain⟨fa,A,fc,F0,F,I,h3,h4⟩:=b2.body;have b4:A=P.f.bytes.length:=I.len dC;have H:(if(if(XH .i64 (((A:Nat):Int)-(P.f.synced:Int)))<e then(XH .i64 (((A:Nat):Int)-(P.f.synced:Int)))else e)>0 then(if(XH .i64 (((A:Nat):Int)-(P.f.synced:Int)))<e then(XH .i64 (((A:Nat):Int)-(P.f.synced:Int)))else e)else 0)=max 0 (min e ((P.f.bytes.length:Int)-P.f.synced)):=by
    rw[wrap_i64 bb,b4];omega
   refine⟨P.q,0,rfl,_,ae F rfl,P.q,0,rfl,fa,A,fc,ae F rfl,P.q,0,rfl,_,ae F rfl,?_⟩;refine PC.ok (by rw[H,wrap_i64 (by unfold aN at*;omega)];exact zF b2 b1) ?_;rintro _ w6 ⟨N,rfl,O,Q⟩
   replace O:eA w6 P.q N (qU e P.f):=O
   have d2:((D.gM.Gr (D.gM.files.map λi=>(i.1,qV e (m++(g,P)::c) i))).fv g (qU e P.f)).Ok:=b3.ok.cut L _;obtain⟨F6,b5,a0⟩:=b3.fB E O Q d2;have d3:=c7.keep (z.keep (S:=λ_=>False)) id id;have d4:=d3.keep Q.keep (λj=>by have:=d1 _ j;omega) (λj=>(b0 _ j).2.2 rfl);have b6:g∉(m++c).map (·.1):=by
    unfold Tidy at y;rw[Q3,QY]at y;rw[Q3];intro b7;have hp:=(List.perm_middle (a:=g) (l₁:=m.map (·.1)) (l₂:=c.map (·.1))).nodup_iff.1 y;exact(List.nodup_cons.1 hp).1 b7
   have b8:Tidy (m++c):=by
    unfold Tidy at y⊢;rw[Q3,QY]at y;rw[Q3];exact(List.nodup_cons.1 ((List.perm_middle (a:=g) (l₁:=m.map (·.1)) (l₂:=c.map (·.1))).nodup_iff.1 y)).2
   have b9:(m++c).any (λd=>d.1==g)=false:=by
    rw[List.any_eq_false];intro d o K;exact b6 (Xk.2 ⟨d,o,eq_of_beq K⟩)
   have fQ:aH (D.gM.files.map λi=>(i.1,qV e (m++(g,P)::c) i)) g (qU e P.f)=D.gM.files.map λi=>(i.1,qV e (m++c) i):=by
    refine NK (u:=P.f) c3 (c4 _ a8) (λd o R=>?_) ?_
    ·have d5:(g==d.1)=false:=beq_false_of_ne (Ne.symm R)
     have n:(m++(g,P)::c).any (λi=>i.1==d.1)=(m++c).any (λi=>i.1==d.1):=by
      rw[List.any_append,List.any_cons,List.any_append,d5,Bool.false_or]
     show qV e (m++c) d=qV e (m++(g,P)::c) d;unfold qV;rw[n]
    ·unfold qV
     rw[Zq (by show¬((m++c).any (λd=>d.1==g)=true);rw[b9];simp)]
   have d6:(D.gM.Gr (D.gM.files.map λi=>(i.1,qV e (m++(g,P)::c) i))).fv g (qU e P.f)=D.gM.Gr (D.gM.files.map λi=>(i.1,qV e (m++c) i)):=by
    unfold ak.fv ak.Gr;simp only[fQ]
   rw[d6]at b5;have a4:(aH s g (⟨P.q,N,qU e P.f⟩:my)).map ei=p.map ei:=by
    have F:(aH s g (⟨P.q,N,qU e P.f⟩:my)).map ei=aH (s.map ei) g (ptr P.q):=pt (λP:my=>ptr P.q) s g _;rw[F,px (k:=g) (v:=ptr P.q) (l:=s.map ei) (Xk.2 ⟨(g,P),M,rfl⟩) w.map.tidy,a7]
   refine⟨rfl,_,?_,m++c,_,F6,by rw[Q3];exact d4,rfl,b5,a4,?_,λd o=>?_,b8,?_,?_⟩
   ·simp
   ·have e3:=B.size
    have d7:cO f b q Y:=⟨J.keep.new Z λc j=>.inr oM,J.new⟩
    exact(d7.trans ⟨z.keep,λ_ h=>.inl h⟩).trans a0
   ·have d8:d∈m++(g,P)::c:=by simp only[Q6,Q2]at o⊢;exact o.imp id .inr
    obtain⟨d9,e0⟩:=W d d8;have R:d.1≠g:=λn=>b6 (Xk.2 ⟨d,o,n⟩);refine⟨d9,?_⟩;rw[bz,Zq (by simpa using R)];exact e0
   ·have:=Q.keep.size;have:=(z.keep (S:=λ_=>False)).size;omega
   ·intro j
    rcases a0.new _ j with h|h
    ·exact X h
    ·have:=(z.keep (S:=λ_=>False)).size;omega
def aP:ByteArray:=⟨#[109,97,110,105,102,101,115,116,46,116,109,112]⟩
def bO:ByteArray:=⟨#[109,97,110,105,102,101,115,116]⟩
def d_(D:ak):Int×ak:=if(aq D.files aP).isSome then D.delete aP else(0,D)
def nN(P:List Int):Nat->ak->Int×ak
 |0,D=>d_ D
 |1,D=>D.create aP
 |2,D=>D.append aP (bJ P)
 |3,D=>D.sync aP
 |_,D=>D.rename aP bO
def ni(P:List Int):Nat->Nat->ak->Int×ak
 |_,0,D=>(0,D)
 |a,b+1,D=>if(nN P a D).1≠0 then((nN P a D).1,(d_ (nN P a D).2).2)else ni P (a+1) b (nN P a D).2
def bw(D:ak)(P:List Int):Int×ak:=if 64<P.length then(3,D)else ni P 0 5 D
def du(D:ak):Option (List Int):=if(D.read bO).2≠0 then none else h_ (D.read bO).1
def Hb(P:List ByteArray):(rk P).Perm P:=List.mergeSort_perm _ _
def CD{D:ak}:w∈D.list↔(aq D.files w).isSome=true:=by
 unfold ak.list;rw[(Hb _).mem_iff];constructor
 ·intro P
  cases a:aq D.files w with
  |none=>exact Zz P (mr.1 a)
  |some b=>rfl
 ·intro P
  obtain⟨b,c⟩:=Option.isSome_iff_exists.1 P;exact Xk.2 ⟨_,b_ c,rfl⟩
def mP(D:ak):D.list.length=D.files.length:=by unfold ak.list rk;simp
def Mr(P:List Int)(d:a<5)(D:ak):ni P a (5-a) D=if(nN P a D).1≠0 then((nN P a D).1,(d_ (nN P a D).2).2)else ni P (a+1) (5-(a+1)) (nN P a D).2:=by
 obtain⟨b,c⟩:∃b,5-a=b+1:=⟨4-a,oM⟩
 rw[c,show 5-(a+1)=b by omega]
 rfl
def Eu{D:XM}(e:Row LM 16 b D d a f4):
  ZH 303 #[.slice d a c,.string w] b (Ok λo f=>(∃l:Int,o= QH l/\(0<=l↔w∈f4))/\b=f):=by
 have u:=e.len;have p:=e.ef;unfold aS at p;refine jz ⟨λm i f=>∃P:Nat,i=P/\P<=a/\m=a-P/\w∉f4.take P/\b=f,⟨_,0,rfl,Qj _,rfl,sM,rfl⟩,?_⟩;rintro m i _ _ ⟨P,rfl,v,rfl,g,rfl⟩;refine al.dec (λq=>?_) (λq=>?_)
 ·obtain⟨r,j,x,rfl,n,_,s⟩:=e.lq (i:=P) oM
  refine⟨r,j,rfl,oM,oM,_,s,al.Uy (λk=>?_) (λk=>?_)⟩
  ·exact Ok.mk ⟨⟨_,rfl,λ_=>k▸QZ n,λ_=>oM⟩,rfl⟩
  ·refine⟨_,oM,P+1,an oM,oM,rfl,?_,rfl⟩
   rw[Qw,n];intro t;rcases Q6.1 t with h|h
   ·exact g h
   ·simp at h;exact k h
 ·rw[Qz oM]at g
  exact Ok.mk ⟨⟨_,rfl,λh=>oM,λh=>Zz h g⟩,rfl⟩
def xY{D:XM}(P:Row LM 16 b D d a f4):
  ZH 259 #[.slice d a c,.string w] b (Ok λe f=>e= .bool (decide (w∈f4))/\b=f):=by
 refine iF (PC.ok (Eu P) ?_);rintro _ _ ⟨⟨h,rfl,g⟩,rfl⟩;exact⟨_,rfl,Ok.mk ⟨by rw[decide_eq_decide.2 g],rfl⟩⟩
def pW{D:ak}(P:aT b a f D):ZH 191 #[XP a] b (Ok (tY b a f (d_ D))):=by
 refine vD (PC.ok (vR P) ?_);rintro _ m ⟨n,o,p,G,rfl,h,c,q⟩;have r:D.list.length<=64:=by rw[mP];exact P.ok.many
 refine⟨_,_,_,rfl,PC.ok (xY (h.row dC ba)) ?_⟩;rintro _ _ ⟨rfl,rfl⟩;have g:(aP∈D.list)↔(aq D.files aP).isSome=true:=CD;refine⟨_,rfl,al.dec (λd=>PC.ok (wB (P.af c)) λi j k=>kW i j c ?_) (λd=>?_)⟩
 ·have e:d_ D=D.delete aP:=by unfold d_;rw[Zx (g.1 d)]
  rw[e];exact k
 ·have e:d_ D=(0,D):=by unfold d_;rw[Zq λl=>d (g.2 l)]
  rw[e];exact Ok.mk (tY.same (P.af c) c.keep)
def Au(C:oV b)(u:Row aM 8 b f d a q)(v:∀j∈q,aN j)(hD:∀e,f e->e<b.heap.size)(E:q.length<=64):
  ZH 195 #[.agg #[.slice d a c]] b (Ok (vh fF 5 b (bJ q))):=by
 have F:=u.len;refine vE (PA.mk λH I s1 w=>⟨_,_,_,ae w rfl,PC.ok (zG (m:=(a:Int)) bb (Row.nil H λ_=>False) ba λ_ J=>J.elim) ?_⟩);rintro _ L ⟨a2,n2,c2,M,rfl,x,y,N⟩;have O:ai b L:=I.then y;have Q:dR (a:Int)=bg ((a:Int)::q.take 0):=by simp[bg]
 rw[List.nil_append,Q]at x;refine⟨_,_,_,rfl,_,_,_,ae (y.get w id) rfl,λz m n o i A=>∃P:Nat,i=P/\P<=a/\z=a-P/\∃B,aV fF 5 B A m n o (bg ((a:Int)::q.take P))/\ai b A/\∀e,B e->b.heap.size<=e,
  ⟨_,0,rfl,Qj _,rfl,M,x,O,λe k=>by have:=N e k;omega⟩,?_⟩
 rintro z m n o i _ R ⟨P,rfl,hj,rfl,S,g,h,a0⟩;have a1:(bg ((a:Int)::q.take P)).length<=9*(P+1):=by
  have h1:=fw (l:=(a:Int)::q.take P) (by
   intro j K;rcases Q2.1 K with rfl|K
   ·unfold aN;omega
   ·exact v j (List.mem_of_mem_take K))
  have h2:((a:Int)::q.take P).length=P+1:=by simp;omega
  omega
 have a3:=g.len dC;refine al.dec (λa5=>?_) (λa6=>?_)
 ·obtain⟨e,p,j,rfl,K,T,U⟩:=(u.af h).lq (i:=P) oM
  refine⟨e,p,rfl,oM,oM,_,U,PC.ok (zG T (g.row (bytes:=1) dC ba) ba g.aE) ?_⟩;rintro _ V ⟨W,X,Y,r,rfl,l,s,t⟩;refine⟨_,_,_,rfl,_,?_,P+1,an oM,oM,rfl,r,?_,h.then s,λe k=>by have:=t e k;have:=h.size;omega⟩
  ·omega
  ·have Z:bg ((a:Int)::q.take (P+1))=bg ((a:Int)::q.take P)++dR j:=by
    rw[Qw,K,<-List.cons_append,ig]
    congr 1
    simp[bg]
   rw[Z];exact l
 ·obtain rfl:P=a:=oM
  rw[Qz oM,F]at g
  change aV fF 5 S R m n o (gD q)at g
  have a7:=vY v E;refine PC.ok (Cq (C.af h) (g.row (bytes:=1) dC ba) g.aE) ?_;rintro _ V ⟨_,rfl,W,X,Y,r,rfl,l,s,t⟩;rw[show jO 2 (gD q)=(bJ q,0) by unfold jO bJ;rw[Zq dC,Zq oM]]at l⊢;exact⟨_,_,_,_,rfl,Ok.mk ⟨_,_,_,r,rfl,l,h.then s,λe k=>by have:=t e k;have:=h.size;omega⟩⟩
def Av{D:ak}(ht:oV b)(hD:aT b a f D)(hl:Row aM 8 b a2 d c q)(a8:∀b8∈q,aN b8)(a3:∀P,a2 P->P<b.heap.size/\¬f P)(a9:∀P,f P->P≠2/\P≠3):
  ZH 139 #[XP a,.agg #[.slice d c j]] b (Ok (tY b a f (bw D q))):=by
 have hn:=hl.len;refine vl (PA.mk λw1 k1 s1 g1=>PA.mk λk U s2 g2=>PA.mk λw3 H s3 g3=>⟨_,_,_,ae (H.get g2 id) rfl,al.dec (λh=>?_) (λh=>?_)⟩)
 ·refine PS.mk g3 sM λp B s4 g4=>⟨_,ae g4 rfl,?_⟩
  have l:bw D q=(3,D):=by unfold bw;rw[Zx oM]
  rw[l];have y:ai b p:=((k1.then U).then H).new B λP e=>.inr oM;exact Ok.mk (tY.same (hD.af y) y.keep)
 refine PA.mk λp B s4 g4=>?_;have y:ai b p:=((k1.then U).then H).then B;have l:bw D q=ni q 0 5 D:=by unfold bw;rw[Zq oM]
 rw[l];have I:=hD.aE;refine⟨λa1 M m=>∃(u:Nat) (J:ak) (v:XM),M=u/\u<=5/\a1=5-u/\ni q 0 5 D=ni q u (5-u) J/\aT m a v J/\aj (λP=>f P\/P=k.heap.size) p m/\(∀P,v P->f P\/p.heap.size<=P)/\m.heap[k.heap.size]? =some (.cells #[QH 0] 34 (0,0)),
  ⟨_,0,D,f,rfl,oM,rfl,rfl,hD.af y,aj.refl _,λP e=>.inl e,B.get g3 id⟩,?_⟩
 rintro a1 M _ x ⟨u,J,v,rfl,hi,rfl,N,C,E,V,ge⟩;have W:∀P,b.heap.size<=P->P<p.heap.size->¬v P:=λP h1 h2 hf=>by
  rcases V P hf with h|h
  ·have:=I P h;omega
  ·omega
 have O:x.heap[b.heap.size]? =some (.cells #[XP a] 87 (0,0)):=E.get (B.get (H.get (U.get g1 id) id) id) (λr=>r.elim (λh=>by have:=I _ h;omega) (λh=>oM));have gm:x.heap[w1.heap.size]? =some (.cells #[.slice d c j] 230 (0,0)):=E.get (B.get (H.get g2 id) id) (λr=>r.elim (λh=>by have:=I _ h;omega) (λh=>oM));have Q:=E.get g4 (λr=>r.elim (λh=>by have:=I _ h;omega) (λh=>oM));have c6:=E.size;have w:∀(l:Int) (R:ak) (G:XM) (i:World),aT i a G R->aj (λP=>f P\/P=k.heap.size) p i->(∀P,G P->f P\/p.heap.size<=P)->i.heap[k.heap.size]? =some (.cells #[QH l] 34 (0,0))->
   ni q 0 5 D=(l,if l≠0 then(d_ R).2 else R)->
   Lv XG (λb0=>∃A:Int,b0.cell? ⟨k.heap.size,0,none⟩=some (QH A)/\Ok (tY b a f (ni q 0 5 D)) (.returned (QH A)) b0) (λch m=>Ok (tY b a f (ni q 0 5 D)) (.panicked ch) m)
    ([{target:=.fn (.func 190) #[XP k.heap.size,XP b.heap.size],args:= #[]}]:List Deferred) .returning i:=by
  intro l R G i hE s hG X hr;have b9:i.heap[b.heap.size]? =some (.cells #[XP a] 87 (0,0)):=s.get (B.get (H.get (U.get g1 id) id) id) (λr=>r.elim (λh=>by have:=I _ h;omega) (λh=>oM));have n:∀o (K:XM) (E':ak),aT o a K E'->cO G i K o->ni q 0 5 D=(l,E')->∃A:Int,o.cell? ⟨k.heap.size,0,none⟩=some (QH A)/\Ok (tY b a f (ni q 0 5 D)) (.returned (QH A)) o:=by
   intro o K E' a4 t a0;have c0:¬G k.heap.size:=λh=>(hG _ h).elim (λh=>by have:=I _ h;omega) (λh=>oM);have c7:=s.size;refine⟨l,ae (t.keep.get X c0) rfl,Ok.mk ?_⟩;rw[a0];refine⟨K,rfl,a4,?_,λP e=>?_⟩
   ·have c1:aj f b i:=y.keep.new s λP e=>e.imp id λh=>by omega
    exact c1.new t.keep λP e=>(hG P e).imp id λh=>by omega
   ·rcases t.new P e with h|h
    ·exact(hG P h).imp id λh=>by omega
    ·exact .inr oM
  refine Lv.one sM kR (CallsD.mono (qD (R:=λe' o=>e'= .returned (.tuple #[])/\∃A:Int,o.cell? ⟨k.heap.size,0,none⟩=some (QH A)/\Ok (tY b a f (ni q 0 5 D)) (.returned (QH A)) o) ⟨_,ae X rfl,al.dQ (λY=>?_) (λZ=>?_)⟩) ?_)
  ·refine⟨_,ae b9 rfl,PC.ok (pW hE) ?_⟩
   rintro _ o ⟨K,rfl,a4,t⟩;exact⟨_,rfl,rfl,n o K _ a4 t (by rw[hr,Zx Y])⟩
  ·exact⟨rfl,n i G R hE (cO.refl _ _) (by rw[hr,Zq (by simpa using Z)])⟩
  ·rintro e' u' o ⟨rfl,rfl,hX⟩
   exact Lv.ret rfl hX
 refine al.dec (λc8=>?_) (λc9=>?_)
 ·have b1:u<5:=oM
  have step:∀κ ε,(∀z m,tY x a v (nN q u J) z m->κ z m)->∃b2:Value,x.cell? ⟨w3.heap.size,0+Int.toNat (u:Int),none⟩=some b2/\∃a5 a7 b3,b2= .func (.func a5) a7 b3/\enters XG a5=true/\PC XG a5 (a7++ #[]++b3) x κ ε:=by
   intro κ ε g;rw[Qx,Xz];have n:∀{b4:Int×ak} {z m},tY x a v b4 z m->∃M:Int,z= QH M/\Ok (tY x a v b4) (.returned (QH M)) m:=λh=>kW _ _ (aj.refl _) h
   match u,b1,g with
   |0,_,g=>exact⟨_,ae Q rfl,_,_,_,rfl,kR,PC.ok (su ⟨_,ae O rfl,PC.ok (pW C) λz m h=>n h⟩) g⟩
   |1,_,g=>exact⟨_,ae Q rfl,_,_,_,rfl,kR,PC.ok (sv ⟨_,ae O rfl,PC.ok (wC C) λz m h=>n h⟩) g⟩
   |2,_,g=>
    refine⟨_,ae Q rfl,_,_,_,rfl,kR,PC.ok (φ:=tY x a v (nN q 2 J)) (sw λi d6=>?_) g⟩;have s:ai x i:=d6.keep;have F:aj (λP=>f P\/P=k.heap.size) p i:=E.then s.keep;have c2:Row aM 8 i a2 d c q:=(hl.af y).keep F λP e r=>r.elim (a3 P e).2 λh=>by have:=(a3 P e).1;omega
    have c3:oV i:=by
     have:=(ht.af y)
     have d0:b.heap.size<=p.heap.size:=y.size;have h1:=ht.lt;have hz:=F.size;refine⟨λS hj=>?_,λS hj=>?_,oM⟩
     ·exact(this.lower S hj)▸F.cell (a:=⟨2,S,none⟩) (by show 2<_;omega) (λr=>r.elim (λh=>(a9 _ h).1 rfl) (λh=>by have h:2=k.heap.size:=h;omega))
     ·exact(this.upper S hj)▸F.cell (a:=⟨3,S,none⟩) (by show 3<_;omega) (λr=>r.elim (λh=>(a9 _ h).2 rfl) (λh=>by have h:3=k.heap.size:=h;omega))
    refine⟨v,W _ (Q4 _) oM,_,ae (s.get O id) rfl,_,_,_,ae (s.get gm id) rfl,PC.ok (Au c3 c2 a8 (λP e=>by have:=(a3 P e).1;have:=y.size;have:=F.size;omega) oM) ?_⟩;rintro _ o ⟨d1,n7,d2,F7,rfl,a6,L,c4⟩;have d3:=pX q;have d4:=vY a8 oM;refine⟨_,_,_,rfl,L.keep,PC.ok (wD ((C.af s).af L) (a6.row dC ba) (λl=>a6.LF l) λP e=>⟨a6.aE P e,λhf=>by have:=C.aE P hf;have:=c4 P e;have:=s.size;omega⟩) ?_⟩;rintro _ w8 ⟨F8,rfl,c5,t⟩;exact⟨_,rfl,t.keep,Ok.mk ⟨F8,rfl,c5,(cO.mk (ai.keep (s.then L)) λ_ h=>.inl h:cO v x v o).trans t⟩⟩
   |3,_,g=>exact⟨_,ae Q rfl,_,_,_,rfl,kR,PC.ok (sx ⟨_,ae O rfl,PC.ok (Cj C) λz m h=>n h⟩) g⟩
   |4,_,g=>exact⟨_,ae Q rfl,_,_,_,rfl,kR,PC.ok (sC ⟨_,ae O rfl,PC.ok (Gp C) λz m h=>n h⟩) g⟩
  refine⟨_,_,rfl,oM,oM,step _ _ ?_⟩;rintro _ i ⟨F6,rfl,h6,t⟩;have b5:∀P,F6 P->P≠k.heap.size:=λP e l=>by
   subst l;rcases t.new _ e with h|h
   ·exact W _ oM oM h
   ·omega
  have b6:∀P,F6 P->f P\/p.heap.size<=P:=λP e=>by
   rcases t.new P e with h|h
   ·exact V P h
   ·exact .inr oM
  have F:aj (λP=>f P\/P=k.heap.size) p i:=E.new t.keep λP e=>(V P e).imp .inl id;refine⟨_,rfl,PS.mk (t.keep.get ge (W _ oM oM)) sM λo L s7 T=>?_⟩;have h7:=h6.keep L λP e=>b5 P e;have b7:aj (λP=>f P\/P=k.heap.size) p o:=F.then (L.mono λP _ e=>.inr e);rw[Mr q b1]at N;refine⟨_,ae T rfl,al.dQ (λY=>?_) (λZ=>?_)⟩
  ·refine⟨_,ae T rfl,PS.mk T sM λw8 k8 s8 g8=>?_⟩
   exact w _ _ F6 w8 (h7.keep k8 λP e=>b5 P e) (b7.then (k8.mono λP _ e=>.inr e)) b6 g8 (by rw[N,Zx Y,Zx Y])
  ·rw[Zq (by simpa using Z)]at N
   rw[Z]at T;exact⟨rfl,_,oM,u+1,_,F6,an oM,oM,rfl,N,h7,b7,b6,T⟩
 ·obtain rfl:u=5:=oM
  refine⟨_,ae ge rfl,PS.mk ge sM λi s s6 X=>?_⟩;refine w 0 J v i (C.keep s λP e l=>W P oM oM e) (E.then (s.mono λP _ e=>.inr e)) V X ?_;rw[N];rfl
def BI{D:ak}(ht:oV b)(hD:aT b a f D):
  ZH 136 #[XP a] b (Ok λQ i=>∃n o p G,Q= .tuple #[.agg #[.slice n o p],.bool (du D).isSome]/\aV aM 3 G i n o p ((du D).getD [])/\ai b i/\∀P,G P->b.heap.size<=P):=by
 refine xG (PA.mk λA C s1 g1=>PC.ok (vQ (hD.af C)) ?_);rintro _ w2 ⟨_,rfl,a7,n2,c2,F2,rfl,u,R,e7⟩
 change aV fF 5 F2 w2 a7 n2 c2 (D.read bO).1 at u
 have b3:(D.read bO).1.length<=262144:=by
  unfold ak.read;split
  ·simp
  ·split
   ·simp
   ·rename_i e8 hf;exact hD.ok.len (b_ hf)
 have a3:∀{i},ai A i->i.heap[b.heap.size]? =some (.cells #[.slice none 0 0] 230 (0,0)):=λhk=>hk.get g1 id;have e:du D=none->∀v,ai A v->PS v ⟨b.heap.size,0,none⟩ (.slice none 0 0) λw=>∃(b4:XU) (b5:Nat) (b6:Nat),w.cell? ⟨b.heap.size,0,none⟩=some (.slice b4 b5 b6)/\
   Ok (λQ i=>∃n o p G,Q= .tuple #[.agg #[.slice n o p],.bool (du D).isSome]/\aV aM 3 G i n o p ((du D).getD [])/\ai b i/\∀P,G P->b.heap.size<=P) (.returned (.tuple #[.agg #[.slice b4 b5 b6],.bool false])) w:=by
  intro S v E;refine PS.mk (a3 E) sM λw4 T s4 U=>⟨_,_,_,ae U rfl,?_⟩
  rw[S];exact Ok.mk ⟨none,0,0,λ_=>False,rfl,aV.nil w4,(C.then E).new T λP c=>.inr oM,λ_ h=>h.elim⟩
 refine⟨_,_,_,_,rfl,al.dQ (λl=>e (by unfold du;exact Zx l) w2 R) (λS=>?_)⟩;have B:du D=h_ (D.read bO).1:=by unfold du;exact Zq λh=>h S
 generalize(D.read bO).1=F at u b3 B;have d5:=u.len dC;refine PC.ok (Cr (ht.af (C.then R)) (u.row (bytes:=1) dC ba) u.mL u.aE) ?_;rintro _ v ⟨c3,n3,d1,F3,rfl,b7,E,e9⟩;refine⟨_,_,_,_,_,_,rfl,PA.mk λw4 T s4 U=>PS.mk U sM λw5 k5 s5 g5=>PS.mk g5 sM λx k6 s6 g6=>?_⟩;have V:x.heap[v.heap.size]? =some (.cells #[QH (bq F).kind,.slice c3 n3 d1] 292 (0,0)):=g6;have W:ai v x:=(T.new k5 λP c=>.inr oM).new k6 λP c=>.inr oM;have s:ai A x:=(R.then E).then W;have f0:=W.size;refine al.dQ (λl=>e (by rw[B];unfold h_;exact Zx (.inl l)) x s) (λb8=>?_);refine al.dQ (λl=>e (by rw[B];unfold h_;exact Zx (.inr (.inl λg=>l (by rw[g,d5])))) x s) (λg0=>?_);refine⟨_,ae V rfl,al.dQ (λl=>e (by rw[B];unfold h_;exact Zx (.inr (.inr l))) x s) (λd6=>?_)⟩;have X:du D=if gB (jF (bq F).body).2≠0 then none else some (jF (bq F).body).1:=by
  rw[B];unfold h_;refine Zq ?_;rintro(h|h|h)
  ·exact h b8
  ·exact h oM
  ·exact h d6
 have Y:=b7.af W;obtain⟨g2,h9,d7⟩:=uh b8;generalize(bq F).body=d at Y X d7 V b7;refine⟨_,_,_,ae V rfl,PC.ok (Cn (Y.row (bytes:=1) dC ba) Y.aE) ?_⟩;rintro _ w ⟨H,a4,rfl,I,k7,hP⟩;refine⟨_,rfl,PA.mk λw8 k8 s8 g8=>PC.ok (Gs (m:=64) (I.af k8)) ?_⟩;rintro _ t ⟨rfl,Z,k9⟩;have b9:=I.aE;have hq:=I.self;have g3:=b9 H hq;have g7:=hP H hq;obtain⟨c1,a8,c0,c4⟩:=gA.Fit.count (r:=⟨d,0,0⟩) ⟨Qj _,.inl rfl⟩ (m:=64) oM;have g9:t.heap[w.heap.size]? =some (.cells #[.slice none 0 0] 230 (0,0)):=k9.get g8 (λg=>oM);have J:jF d=aU (bB 64 ⟨d,0,0⟩).1.toNat (bB 64 ⟨d,0,0⟩).2:=rfl;have K:ai A t:=((s.then k7).then k8).new k9 λP c=>.inr (by have:=s.size;omega);generalize h2:bB 64 ⟨d,0,0⟩=ct at Z c1 a8 c0 c4 J;obtain⟨cn,L⟩:=ct;simp only at Z c1 a8 c0 c4 J;refine⟨_,rfl,λm a5 i=>∃j:Nat,a5=j/\(j:Int)<=cn/\m=cn.toNat-j/\eZ i H a4 (aU j L).2/\ai A i/\∃n o p G,i.heap[w.heap.size]? =some (.cells #[.slice n o p] 230 (0,0))/\aV aM 3 G i n o p (aU j L).1/\(∀P,G P->t.heap.size<=P)/\t.heap.size<=i.heap.size,
  ⟨_,0,rfl,a8,rfl,Z,K,none,0,0,λ_=>False,g9,aV.nil t,λ_ h=>h.elim,Q4 _⟩,?_⟩
 have h3:=k9.size;rintro m a5 _ c5 ⟨j,rfl,hj,rfl,a0,M,c6,c7,c8,c9,a9,y,q,f2⟩;have d8:∀P,a4 P->P<t.heap.size:=λP c=>by have:=b9 P c;omega
 refine al.dec (λh4=>?_) (λh5=>?_)
 ·intro N b0
  have k:ai c5 N:=b0.keep;refine⟨(λP=>P=H\/c9 P),λhs=>hs.elim (λg=>oM) (λg=>by have:=q _ g;omega),_,_,_,ae (k.get a9 id) rfl,PC.ok (DW (a0.af k)) ?_⟩;rintro _ d0 ⟨rfl,d2,r⟩;obtain⟨f1,f4,f3,f5⟩:=c1.ints j;obtain⟨f7,f6,f8⟩:=f1.int;refine⟨_,rfl,r.mono λP _ c=>.inl c,?_⟩;have a1:=(y.af k).keep r λP c g=>by have:=q P c;omega
  refine PA.mk λh6 z h7 d9=>⟨z.keep,?_⟩
  have d4:=a1.af z;have d3:(aU j L).1.length=j:=f3;refine kj d4 q_ (D:=(·=d0.heap.size)) (Row.lit d9 [(eQ (aU j L).2).1] rfl (λf9 hx=>by simp at hx;subst hx;exact f6) (by unfold aS;simp)) (λP g=>⟨oM,λe2=>by have:=a1.aE P (a1.self P e2);omega⟩) (by rw[d3];unfold aS;simp;omega) (by rw[d3];unfold maxLen;simp;omega) λb1 e0 e1 h8 a2 O _ e3=>?_
  replace a2:=a2.alone
  have e4:e1.heap[w.heap.size]? =some (.cells #[.slice c6 c7 c8] 230 (0,0)):=O.get (z.get (r.get (k.get a9 id) (λg=>oM)) id) (λg=>by have:=q _ (y.self _ g);omega);have z1:=k.size;have z2:=r.size;have z3:=z.size;have z4:=O.size;have a6:∀P,aI b1=some P->t.heap.size<=P:=λP c=>by
   rcases e3 P c with h|h
   ·exact q P h
   ·omega
  refine⟨_,_,_,rfl,PS.mk e4 sM λi0 b2 i1 e5=>⟨_,oM,j+1,an oM,oM,rfl,?_,?_,b1,_,e0,(λP=>aI b1=some P),e5,?_,a6,oM⟩⟩
  ·refine(((d2.af z).keep O λP c g=>by have:=d8 P c;have:=q P (y.self P g);omega)).keep b2 λP c g=>by have:=I.aE P c;omega
  ·refine((((M.then k).new r λP c=>.inr (by have:=s.size;omega)).then z).new O λP c=>.inr (by have:=q P (y.self P c);have:=K.size;omega)).new b2 λP c=>.inr (by have:=(s.then k7).size;omega)
  ·exact a2.keep b2 λP c g=>by have:=a6 P c;omega
 ·obtain rfl:cn=(j:Int):=oM
  rw[Qx]at J;rw[<-J]at a0 y;refine PC.ok (Ku a0) ?_;rintro _ N ⟨rfl,b0⟩;have k:ai c5 N:=b0.keep;refine⟨_,rfl,al.dQ (λl=>e (by rw[X];exact Zx l) N (M.then k)) (λh0=>?_)⟩;have hS:du D=some (jF d).1:=by rw[X];exact Zq λh=>h h0
  rw[hS];refine⟨_,_,_,ae (k.get a9 id) rfl,PS.mk (a3 (M.then k)) sM λd0 r i2 e6=>⟨_,_,_,ae e6 rfl,Ok.mk ⟨c6,c7,c8,c9,rfl,?_,?_,?_⟩⟩⟩
  ·exact(y.af k).keep r λP c g=>by have:=q P c;have:=K.size;omega
  ·exact(C.then (M.then k)).new r λP c=>.inr oM
  ·intro P c;have:=q P c;have:=K.size;omega
def HS{x y:Operand}{a b c d:Int}{w:World}:(do eqGuard .eql 39 x y (.agg #[QH a,QH b]) (.agg #[QH c,QH d]);binOp .eql 39 (.agg #[QH a,QH b]) (.agg #[QH c,QH d]):Sem Value).run XG w= .ok (.bool (a==c&&b==d)) w:=by
 have g:Tryz.prog.underlying 39=some (.struct (Tryz.prog.fieldsOf 39)):=kR
 have f:Tryz.prog.underlying 3=some (.int .i64):=kR
 have P:(Tryz.prog.fieldsOf 39).toList.map (λe=>(e.name,e.type,e.offset))=[("Origin",3,0),("Seq",3,1)]:=kR
 rw[Sem.run_bind,run_eqGuard_agg w .eql _ x y _ _ kR,Result.andThen_ok,run_eql_struct,run_equalIn_struct w 9999 _ _ _ g kR];generalize(Tryz.prog.fieldsOf 39).toList=h at P
 match h,P with
 |[e,t],P=>
  simp only[QY,List.map_nil,List.cons.injEq,Prod.mk.injEq,and_true]at P;obtain⟨⟨i,j,k⟩,l,m,n⟩:=P;have o:(isAgg 3).run XG w= .ok false w:=dS _ _ _ kR ⟨_,f⟩ w;have p:=run_equalIn_int (P:=XG) w 9998 3 .i64 .i64 a c f;have q:=run_equalIn_int (P:=XG) w 9998 3 .i64 .i64 b d f;unfold Op.eqFields Op.eqFields Op.eqFields;rw[i,j,k,l,m,n]
  cases r:a==c<;>simp[part,o,p,q,r]
  by_cases s:b=d<;>simp[s]
 |[],P=>simp at P
 |[_],P=>simp at P
 |_::_::_::_,P=>simp at P
def rq{xs ys:List Int}{D u:XM}(f:Row aM 8 b D d a xs)(m:Row aM 8 b u t c ys):
  ZH 22 #[.slice d a j,.slice t c p] b (Ok λv g=>v= .bool (decide (xs=ys))/\bY b g):=by
 have w:=f.len;have x:=m.len;have y:=f.ef;unfold aS at y;refine yV (al.dQ (λn=>?_) (λn=>?_))
 ·have h:xs≠ys:=by rintro rfl;simp[w,x]at n
  exact Ok.mk ⟨by simp[h],bY.refl b⟩
 ·refine⟨λo i g=>∃P:Nat,i=P/\P<=a/\o=a-P/\xs.take P=ys.take P/\bY b g,⟨_,0,rfl,Qj _,rfl,rfl,bY.refl b⟩,?_⟩
  rintro o i _ K ⟨P,rfl,L,rfl,q,e⟩;refine al.dec (λz=>?_) (λz=>?_)
  ·obtain⟨A,B,M,rfl,r,_,C⟩:=(f.af e.keep).lq (i:=P) oM
   obtain⟨E,F,N,rfl,k,_,H⟩:=(m.af e.keep).lq (i:=P) oM;refine⟨A,B,rfl,oM,oM,_,C,E,F,rfl,oM,oM,_,H,λO s=>?_⟩;refine al.dQ (λl=>?_) (λl=>?_)
   ·have h:xs≠ys:=by rintro rfl;rw[r]at k;cases k;exact l rfl
    exact Ok.mk ⟨by simp[h],e.then s⟩
   ·subst l
    exact⟨_,oM,P+1,an oM,oM,rfl,Mc q r k,e.then s⟩
  ·have:xs=ys:=by
    have I:xs.take P=xs:=Qz oM;have J:ys.take P=ys:=Qz oM;rw[<-I,<-J,q]
   exact Ok.mk ⟨by simp[this],e⟩
def rp{D:XM}(k:Row aM 8 b D d a q):
  ZH 94 #[.slice d a c] b (Ok (vh aM 3 b q)):=by
 have F:=k.len;have u:=k.ef;unfold aS at u;refine za ⟨λo p P r i s=>i=(P:Int)/\P<=a/\o=a-P/\∃f,aV aM 3 f s p P r (q.take P)/\ai b s/\∀e,f e->b.heap.size<=e,
  ⟨_,rfl,Qj _,rfl,λ_=>False,by simpa using aV.nil b,aj.refl _,λ_ h=>h.elim⟩,?_⟩
 rintro o p P r i _ H ⟨rfl,I,rfl,f,g,j,l⟩;refine al.dec (λv=>?_) (λv=>?_)
 ·obtain⟨e,m,x,rfl,w,y,z⟩:=(k.af j).lq (i:=P) oM
  have t:(q.take P).length=P:=by simp;omega
  refine⟨e,m,rfl,oM,oM,_,z,Fj g q_ (x:=x) (D:=λ_=>False) ⟨rfl,y⟩ (λ_ h=>h.elim) (by rw[t];unfold aS;omega) (by rw[t];unfold maxLen;omega) λJ K L A B C E _=>?_⟩;refine⟨_,_,_,rfl,a-(P+1),oM,an oM,oM,rfl,A,?_,j.new C λe n=>.inr (l e (g.self e n)),?_⟩
  ·rw[Qw,w];exact B
  ·intro e n
   rcases E e n with h|h|h
   ·exact l e h
   ·exact h.elim
   ·exact Xx j.size h
 ·obtain rfl:P=a:=oM
  rw[Qz oM]at g;exact Ok.mk ⟨_,_,_,f,rfl,g,j,l⟩
def AY{D y:XM}(z:Row aM 8 b D d a l.aJ)(A:Row aM 8 b y t c K.aJ):
  ZH 51 #[.agg (aF l d a j).toArray,.agg (aF K t c p).toArray] b (Ok λn h=>n= .bool (decide (l=K))/\ai b h):=by
 have no:∀{h},ai b h->l≠K->Ok (λn h=>n= .bool (decide (l=K))/\ai b h) (.returned (.bool false)) h:=λB C=>Ok.mk ⟨by rw[Xv C],B⟩;refine xC (PA.mk λI E J F=>PA.mk λr s L k=>?_);have e:=s.get F id;have m:ai b r:=E.then s;refine⟨_,_,ae e rfl,ae e rfl,_,_,ae k rfl,ae k rfl,aG.mk HS ⟨_,rfl,al.mk (λo=>?_) (λo=>?_)⟩⟩
 rotate_left
 ·exact no m λP=>by subst P;simp at o
 refine⟨_,ae e rfl,_,ae k rfl,al.dU (λu=>?_) (λu=>no m λP=>u (by rw[P]))⟩;refine⟨_,_,_,ae e rfl,_,_,_,ae k rfl,PC.ok (rq (z.af m) (A.af m)) ?_⟩;rintro _ v ⟨rfl,H⟩;have q:ai r v:=H.keep;have e:=q.get e id;have i:=q.get k id;have g:ai b v:=m.then q;refine⟨_,rfl,al.dec (λw=>?_) (λw=>no g λP=>w (by rw[P]))⟩;refine⟨_,ae e rfl,_,ae i rfl,al.dU (λM=>?_) (λf=>no g λP=>f (by rw[P]))⟩;refine⟨_,ae e rfl,_,ae i rfl,al.dU (λN=>?_) (λf=>no g λP=>f (by rw[P]))⟩;refine⟨_,ae e rfl,_,ae i rfl,al.dU (λO=>?_) (λf=>no g λP=>f (by rw[P]))⟩;refine⟨_,ae e rfl,_,ae i rfl,al.dU (λQ=>?_) (λf=>no g λP=>f (by rw[P]))⟩;refine⟨_,ae e rfl,_,ae i rfl,al.dU (λR=>?_) (λf=>no g λP=>f (by rw[P]))⟩;refine⟨_,ae e rfl,_,ae i rfl,Ok.mk ⟨?_,g⟩⟩
 congr 1
 have S:l.origin=K.origin/\l.seq=K.seq:=by simpa using o
 by_cases x:l.key=K.key
 ·have:l=K:=by cases l;cases K;simp_all
  subst this;simp
 ·rw[Xv λP=>x (by rw[P])]
  simp[x]
def Jj{D:XM}(h:Row iC 96 b D d a B):
  ZH 65 #[.slice d a c] b (Ok λn j=>n= .bool (decide ((∃e∈B,100<e.aJ.length)\/200<B.length))/\b=j):=by
 have w:=h.len;have o:=h.ef;unfold aS at o;refine DI ⟨λl i j=>∃f:Nat,i=f/\f<=a/\l=a-f/\(∀e∈B.take f,¬100<e.aJ.length)/\b=j,⟨_,0,rfl,Qj _,rfl,sM,rfl⟩,?_⟩;rintro l i _ x ⟨f,rfl,y,rfl,k,rfl⟩;refine al.dec (λp=>?_) (λp=>?_)
 ·obtain⟨q,r,s,z,rfl,_,_,m,t,A,C,E,rfl,u,F⟩:=h.BR (i:=f) oM
  have H:=u.len;refine⟨q,r,rfl,oM,oM,_,_,_,t 3 dC,al.dec (λv=>?_) (λv=>?_)⟩
  ·exact Ok.mk ⟨by rw[Zy (.inl ⟨s,QZ m,oM⟩)],rfl⟩
  ·refine⟨_,oM,f+1,an oM,oM,rfl,λe P=>?_,rfl⟩
   rw[Qw,m]at P;rcases Q6.1 P with P|P
   ·exact k e P
   ·simp at P;subst P;omega
 ·rw[Qz oM]at k
  refine Ok.mk ⟨?_,rfl⟩
  congr 1
  refine decide_eq_decide.2 ⟨λg=>.inr oM,λg=>g.elim (λ⟨e,P,g⟩=>Zz g (k e P)) λg=>oM⟩
end Go.Proofs.YtblabbpipmodgaaGreatDoor
namespace Go.au
open Go.ChangeShapes Go.WideShapes Go.ChangeAt Go.RowKit
def jk{P:Type}(a:Program)(b:TypeId)(c:DataW P):Prop:=∀d∈c.weights a b,d<=reachBytes
abbrev In(P:World):XM:=λa=>a<P.heap.size
variable{e:Int}{a c:Nat}{i:Type}{g n:TypeId}{v:Value}
section
variable {H:Type} {enc:TypeId×Value->H} {P:Program} {w:World} {base:Nat} {held:Bool}
def Gu{a:List TypeId}{b:List (DataW H)}(d:(DataW.weightsEach P a b).all (·<=reachBytes)=true){j:Nat}{c:DataW H}(e:a[j]? =some g)(f:b[j]? =some c):jk P g c:=
 λh i=>by simpa using ZY.1 d _ (DataW.weights_mem_each e f h i)
def pD{c:TypeId}:∀{a:List (DataW H)} {d:DataW H},d∈a->∀b∈d.weights P c,b∈DataW.weightsAll P c a
 |x::a,d,h,b,e=>by
  simp only[DataW.weightsAll,Q6];rcases Q2.1 h with rfl|h
  ·exact Or.inl e
  ·exact Or.inr (pD h b e)
def Reads{d:Type}(P:Program)(e:jK d)(b:TypeId):Prop:=
 ∀(H:Type) (enc:TypeId×Value->H) (w:World) (held:Bool) (a:Nat) (cs:List Value) (c:DataW H×List MemPlace),DataW.trod enc P w 0 (λ_=>true) held a b cs=some c->jk P b c.1->∃f,e.rep w (In w) f cs
def ko{b:Option _}(P:w.cell? ⟨a,c,b⟩=some v):a<w.heap.size:=by
 unfold World.cell? at P
 by_cases d:a<w.heap.size
 ·exact d
 ·rw[show w.heap[a]? =none by simp;omega]at P;cases P
def open_row{k:jK i}{bytes v:Nat}{cs:List Value}{B:DataW H×List MemPlace}(I:P.underlying g=some (.slice n))(Q:P.cellsOf n=k.k)(J:0<k.k)(R:P.bytesOf n=bytes)(S:Reads P k n)(p:DataW.trod enc P w 0 (λ_=>true) held v g cs=some B)(T:jk P g B.1):
  ∃b q f U,cs=[.slice b q f]/\q<=f/\(b=none->q=0/\f=0)/\Row k bytes w (In w) b q U:=by
 rcases DataW.trod_slice I p with⟨rfl,rfl⟩|⟨b,c,f,a,h,q,_,rfl,rfl,hb,V,hm,a4,W,a5,a6⟩
 ·exact⟨none,0,0,[],rfl,Q4 _,λ_=>⟨rfl,rfl⟩,Row.nil _ _⟩
 ·have x:∀l∈(a.length+h.length)*P.bytesOf n::(DataW.weightsAll P n (a.map (·.1))++DataW.weightsAll P n (h.map (·.1))),l<=reachBytes:=by
   have:=T;simpa only[jk,DataW.weights,I,Q8]using this
  have read:∀e,e<c->∃d l,a[e]? =some l/\d.length=k.k/\(∀j,j<k.k->w.cell? (b.add (e*k.k+j))=d[j]?)/\DataW.trod enc P w 0 (λ_=>true) held q n d=some l:=by
   intro e o;have K:=W e o;rw[Q,Qq (by omega:e<a.length)]at K;obtain⟨d,A,y⟩:=Option.bind_eq_some_iff.1 K;obtain⟨_,C,s⟩:=World.cells?_some A;exact⟨d,_,Qq oM,C,λj E=>by rw[<-Addr.add_add];exact s j E,y⟩
  have X:0<c->b.spot=none:=by
   intro Y;obtain⟨d,l,_,C,s,_⟩:=read 0 Y;have:=s 0 J;rw[Nat.zero_mul,Nat.add_zero,Qq oM]at this;have n:b.add 0=b:=by simp[Addr.add]
   rw[n]at this;unfold World.cell? at this;split at this
   ·cases t:b.spot with
    |none=>rfl
    |some L=>rw[t]at this;simp at this
   ·cases this
  have one:∀e,e<c->∃r,∃u z M,some b=some ⟨u,z,none⟩/\u<w.heap.size/\In w u/\(∀j,j<k.k->w.cell? ⟨u,z+e*k.k+j,none⟩=M[j]?)/\k.rep w (In w) r M:=by
   intro e o;have t:=X oM;have N:∀F,b.add F=⟨b.block,b.off+F,none⟩:=by
    intro F;obtain⟨u,Z,L⟩:=b;simp only at t;subst t;unfold Addr.add;split
    ·next p=>subst p;rfl
    ·rfl
   obtain⟨d,l,y,C,s,h5⟩:=read e o;have a0:jk P n l.1:=λr m=>x r (QJ _ (ZV _ (pD (d:=l.1) (Xk.2 ⟨l,QZ y,rfl⟩) r m)));obtain⟨r,m⟩:=S H enc w held q d l h5 a0;have O:b.block<w.heap.size:=by
    have:=s 0 J;rw[N,Qq oM]at this;exact ko this
   refine⟨r,b.block,b.off,d,?_,O,O,λj E=>?_,m⟩
   ·obtain⟨u,Z,L⟩:=b
    simp only at t;rw[t]
   ·have:=s j E
    rw[N]at this;rw[<-this,Nat.add_assoc]
  have a1:c*bytes<=aS:=by
   have A:=x _ (QV ..);have y:c*P.bytesOf n<=(a.length+h.length)*P.bytesOf n:=Q0 _ oM;rw[R]at A y;unfold reachBytes at A;unfold aS;omega
  by_cases m:c=0
  ·subst m
   exact⟨some b,0,f,[],rfl,Qj _,λp=>(by cases p),rfl,sM,λe B o=>(by simp at o)⟩
  ·have a2:Nonempty i:=⟨(one 0 oM).choose⟩
   haveI:Inhabited i:=⟨Classical.choice a2⟩
   obtain⟨a3,hf⟩:=Go.Deep.choose_lt one;refine⟨some b,c,f,(List.range c).map a3,rfl,V,λp=>(by cases p),sM,a1,λe r m=>?_⟩
   by_cases o:e<c
   ·rw[Q9,List.getElem?_range o]at m
    cases m
    exact hf e o
   ·rw[Q7 bc]at m;cases m
def aO(P:(Lit.int .i64 e).wf=true):aN e:=by
 have:IntKind.i64.min<=e/\e<=IntKind.i64.max:=by simpa[Lit.wf]using P
 exact this
def Cm(b:P.underlying g=some (.int .i64)):Reads P aM g:=λH enc w held a cs f c h=>by
 obtain⟨d,rfl,-,e⟩:=DataW.trod_int b c;exact⟨d,rfl,aO e⟩
end
section
variable {H:Type} {enc:TypeId×Value->H} {P:Program} {w:World} {held:Bool} {r:Reach} {b0:Nat} {v:Value} {d:DataW H} {ps:List MemPlace}
def Su(b:P.underlying g=some (.int .i64))(c:Value.okWide P w r b0 g v)(e:DataW.Trod enc P w 0 (λ_=>true) held g v d ps):∃a,v= QH a/\aN a:=by
 obtain⟨a,rfl,-,-,f⟩:=open_int b c e;exact⟨a,rfl,aO f⟩
def Sv{b:jK i}{bytes:Nat}(h:P.underlying g=some (.slice n))(l:P.cellsOf n=b.k)(m:0<b.k)(o:P.bytesOf n=bytes)(p:Reads P b n)(q:Value.okWide P w r b0 g v)(s:DataW.Trod enc P w 0 (λ_=>true) held g v d ps)(t:jk P g d):
  ∃e c a f,v= .slice e c a/\c<=a/\(e=none->c=0/\a=0)/\Row b bytes w (In w) e c f:=by
 obtain⟨e,c,b,rfl⟩:=okWide_slice h q;obtain⟨j,u⟩:=s;obtain⟨y,z,A,f,k,x⟩:=open_row h l m o p u t;simp only[Value.cells]at k
 cases k
 exact⟨_,_,_,f,rfl,x⟩
end
variable{o:Array Value}{a5:Func}{f5:List MemPlace}{b k:World}
def ai.below(P:ai b k):Below b.heap.size b k:=⟨P.os,P.tape,P.output,P.size,λa c=>P.block a c id⟩
section
variable {H:Type} {enc:TypeId×Value->H} {P:Program}
def uj(j:laidOutB P=true){f k:World}(l:ai f k){m:Nat->Bool}:∀{c:List TypeId} {n:List Value} {o:List (DataW H)} {d:List MemPlace},c.all (λg=>P.readableRec g&&decide (g<P.types.size))=true->(∀a∈d,a.block<f.heap.size)->(∀a∈d,m a.block=true)->
  DataW.TrodAll enc P f 0 (λ_=>true) true c n o d->DataW.TrodAll enc P k 0 m true c n o d
 |[],_,_,_,_,_,_,b=>by
  obtain⟨rfl,rfl,rfl⟩:=trodAll_nil b;exact trodAll_mk0
 |g::c,_,_,_,e,p,q,b=>by
  obtain⟨t,u,v,w,x,y,rfl,rfl,rfl,r,s⟩:=trodAll_cons b;simp only[List.all_cons,QK,Zk]at e;refine trodAll_cons_mk (WideElems.Trod_stays j e.1.1 e.1.2 r (λh i=>l.below.same (p h (ZV _ i))) λh i=>q h (ZV _ i)) (uj j l (by simpa using e.2) (λa b=>p a (ZW _ b)) (λa b=>q a (ZW _ b)) s)
def LU{d:ChangeSpec}{f n:List (DataW H)}{tb:TypeId}{a i E j:Bool}(F:laidOutB P=true)(u:a5.resultTypes= #[tb])(v:P.underlying tb=some .bool)(w:d.vars=[])(I:(d.fn H (f++n)).results=[.lit (.bool true)])(J:(d.fn H (f++n)).args=f)(K:(d.fn H (f++n)).vars=[])(L:a5.params.toList.all (λx=>P.readableRec x&&decide (x<P.types.size))=true)(p:DataW.Whole enc P a5.params.toList d.vars a b o.toList f n f5)(q:ai b k):d.post enc P a5 a i E j b o (.bool true) k:=by
 have M:=p;have r:=λc e=>p.lt c e;obtain⟨c,V,N,y,O,Q,R⟩:=p;rw[w]at y;obtain⟨rfl,rfl⟩:=trodVars_none y;obtain rfl:f5=c:=by simpa using O
 have z:∀g:Nat->Bool,(∀c∈f5,g c.block=true)->DataW.TrodAll enc P k 0 g true a5.params.toList o.toList (d.fn H (f++[])).args f5:=λg S=>by
  rw[J];exact uj F q L (λs t=>by simpa using r s t) (λs t=>S s t) N
 have A:∀(h:Nat) (g:Nat->Bool) (B:Bool),DataW.TrodAll enc P k h g B a5.resultTypes.toList ((Value.bool true).resultList a5.resultTypes.size) (d.fn H (f++[])).results []:=λh g B=>by
  rw[u,I];exact trodAll_cons_mk (shut_bool v _) trodAll_mk0
 have C:∀g:Nat->Bool,DataW.TrodVars enc P k g d.vars (d.fn H (f++[])).vars []:=λg=>by rw[K,w];exact rfl
 have T:∀c∈f5,(λh=>decide (h<b.heap.size)) c.block=true:=λc e=>by simpa using r c e
 refine⟨f,[],f5,[],f5,[],M,A _ _ _,z _ T,C _,World.keptBut_mono (λc e=>⟨e,Or.inr (by simpa using e)⟩) (q.below.frame (·∈f5)),λ_=>?_⟩;refine⟨ok_one u rfl (okWide_bool_mk v _),_,_,([]++f5)++[],⟨[]++f5,[],trodAll_append (z _ (λ_ _=>rfl)) (A _ _ _),C _,rfl,?_,?_⟩,?_⟩
 ·intro h l e
  have m:MemPlace.cell h l∈f5:=by simpa using e
  rw[q.below.frozen (p:=⟨h,l,none⟩) (r _ m)];exact Q h l (by simpa using m)
 ·intro U
  simpa using R U
 ·intro c e _
  simpa using e
end
end Go.au
namespace Go.Proofs.YtblabbpipmodgaaGreatDoor
open Go.au
def aZ(b a:World)(e:Nat)(D:ak)(c:XM):Prop:=∃d,aT a e d D/\ai b a/\(∀P,d P->b.heap.size<=P/\¬c P)/\∀P,c P->P<a.heap.size
abbrev no:XM:=λ_=>False
abbrev dK(P:XM):XM:=λa=>¬P a
variable{o:Array Value}{y:FuncId}{e:Int}{d2:Int×ak}{s:List UInt8}{a c:Nat}{f:XM}{d:XU}
section
variable {w0 w w1 w':World} {p:Nat} {D D':ak} {X Y:XM}
def aZ.gr(P:aZ w0 w p D X):ai w0 w:=by obtain⟨b,c,a,d,e⟩:=P;exact a
def aZ.ok(P:aZ w0 w p D X):D.Ok:=by obtain⟨b,a,c,d,e⟩:=P;exact a.ok
def aZ.af(a:aZ w0 w p D X)(P:ai w w'):aZ w0 w' p D X:=by
 obtain⟨b,c,d,e,f⟩:=a;exact⟨b,c.af P,d.af P,e,λg h=>Qk (f g h) P.size⟩
def aZ.mono(d:aZ w0 w p D X)(b:∀P,Y P->X P):aZ w0 w p D Y:=by
 obtain⟨e,f,g,c,h⟩:=d;exact⟨e,f,g,λP a=>⟨(c P a).1,λi=>(c P a).2 (b P i)⟩,λP a=>h P (b P a)⟩
def aZ.add(a:aZ w0 w p D X)(c:ai w w')(d:∀P,Y P->w.heap.size<=P/\P<w'.heap.size):aZ w0 w' p D (λP=>X P\/Y P):=by
 obtain⟨g,e,h,f,i⟩:=a;exact⟨g,e.af c,h.af c,λP b=>⟨(f P b).1,λj=>j.elim (f P b).2 λk=>by have:=e.aE P b;have:=(d P k).1;omega⟩,λP b=>b.elim (λa=>Qk (i P a) c.size) λa=>(d P a).2⟩
def aZ.of(b:ai w0 w)(c:ai w w')(g:aT w' p f D)(d:∀P,f P->w.heap.size<=P)(e:∀P,X P->P<w.heap.size):aZ w0 w' p D X:=
 ⟨f,g,b.af c,λP a=>⟨Xx b.size (d P a),λh=>by have:=d P a;have:=e P h;omega⟩,λP a=>Qk (e P a) c.size⟩
def mj(w0 w:World)(p:Nat)(X:XM)(P:Int×ak)(a:Value)(w':World):Prop:=a= QH P.1/\aZ w0 w' p P.2 X/\aj (dK X) w w'
def aZ.TJ(f:aZ w0 w p D X)(e:ai w w1)(j:∀b,aT w1 p b D->(∀P,b P->w0.heap.size<=P/\P<w.heap.size/\¬X P)->ZH y o w1 (Ok (tY w1 p b d2))):ZH y o w1 (Ok (mj w0 w1 p X d2)):=by
 obtain⟨b,g,h,c,i⟩:=f;refine Calls.ok (j b (g.af e) λP a=>⟨(c P a).1,g.aE P a,(c P a).2⟩) ?_;rintro q w' ⟨k,l,m,d⟩;have:=e.size;have:=h.size;have:=d.keep.size;exact⟨l,⟨k,m,(h.af e).new d.keep λP a=>.inr (c P a).1,λP a=>(d.new P a).elim (c P) λf=>⟨oM,λn=>by have:=i P n;omega⟩,λP a=>by have:=i P a;omega⟩,d.keep.mono λP _ a=>(c P a).2⟩
def aZ.call(b:aZ w0 w p D X)(c:∀a,aT w p a D->(∀P,a P->w0.heap.size<=P/\P<w.heap.size/\¬X P)->ZH y o w (Ok (tY w p a d2))):ZH y o w (Ok (mj w0 w p X d2)):=b.TJ (aj.refl w) c
def aZ.append{g:ByteArray}(b:aZ w0 w p D X)(e:Row fF 1 w f d a s)(k:d=none->a=0/\c=0)(h:∀P,f P->P<w0.heap.size\/X P):
  ZH 156 #[XP p,.string g,.slice d a c] w (Ok (mj w0 w p X (D.append g s))):=by
 have q:=b.gr.size;have l:∀P,X P->P<w.heap.size:=by obtain⟨m,r,t,u,n⟩:=b;exact n
 exact b.call λm o i=>wD o e k λP e=>⟨(h P e).elim (λb=>oM) (l P),λj=>(h P e).elim (λb=>by have:=(i P j).1;omega) (i P j).2.2⟩
def aZ.create{P:ByteArray}(a:aZ w0 w p D X):ZH 169 #[XP p,.string P] w (Ok (mj w0 w p X (D.create P))):=a.call λc b _=>wC b
def aZ.sync{P:ByteArray}(a:aZ w0 w p D X):ZH 158 #[XP p,.string P] w (Ok (mj w0 w p X (D.sync P))):=a.call λc b _=>Cj b
def aZ.mq{k:ByteArray}(P:aZ w0 w p D X):ZH 188 #[XP p,.string k,QH e] w (Ok (mj w0 w p X (D.mq k e))):=P.call λb a _=>NI a
def aZ.delete{P:ByteArray}(a:aZ w0 w p D X):ZH 119 #[XP p,.string P] w (Ok (mj w0 w p X (D.delete P))):=a.call λc b _=>wB b
def aZ.read{k:ByteArray}(l:aZ w0 w p D X):ZH 181 #[XP p,.string k] w (Ok λe w'=>∃b c d a,e= .tuple #[.slice b c d,QH (D.read k).2]/\aV fF 5 a w' b c d (D.read k).1/\(∀P,a P->w.heap.size<=P)/\aZ w0 w' p D (λP=>X P\/a P)/\ai w w'):=by
 obtain⟨a,f,m⟩:=l;refine Calls.ok (vQ f) ?_;rintro e w' ⟨n,rfl,b,c,d,G,rfl,g,h,i⟩;exact⟨b,c,d,G,rfl,g,i,aZ.add ⟨a,f,m⟩ h λP j=>⟨i P j,g.aE P j⟩,h⟩
def aZ.list(k:aZ w0 w p D X):ZH 176 #[XP p] w (Ok λe w'=>∃b c d a,e= .slice b c d/\aV LM 9 a w' b c d D.list/\(∀P,a P->w.heap.size<=P)/\aZ w0 w' p D (λP=>X P\/a P)/\ai w w'):=by
 obtain⟨a,f,l⟩:=k;refine Calls.ok (vR f) ?_;rintro e w' ⟨b,c,d,G,rfl,g,h,i⟩;exact⟨b,c,d,G,rfl,g,i,aZ.add ⟨a,f,l⟩ h λP j=>⟨i P j,g.aE P j⟩,h⟩
end
def gg(P:Nat):ak:=⟨P,[],false,0,false⟩
variable{z:XR}{q:List Int}{b k:World}
def rL(h:ai b k)(m:64<=e)(n:e<=262144):ZH 34 #[QH e] k (Ok λc a=>∃P,c= .tuple #[XP P,QH 0]/\aZ b a P (gg e.toNat) (λd=>d<k.heap.size)/\ai k a):=by
 refine Calls.ok LN ?_;intro c a f;rw[Zq oM]at f;obtain⟨P,o,rfl,i,g,j⟩:=f;exact⟨P,rfl,aZ.of h g i j λd l=>l,g⟩
def GJ{D:ak}(P:D.Ok)(a:ByteArray):(D.read a).1.length<=262144:=by
 unfold ak.read;split
 ·simp
 ·split
  ·simp
  ·rename_i c b;exact P.len (b_ b)
def nA:ByteArray:=⟨#[97]⟩
open Go.au Go.ChangeShapes Go.WideShapes Go.ChangeAt Go.RowKit
section
variable {w0 w w1 w':World} {p:Nat} {D D':ak} {X Y:XM}
def aZ.bw(b:aZ w0 w p D X)(h:oV w0)(k:Row aM 8 w f d a q)(l:∀m∈q,aN m)(i:∀P,f P->P<w0.heap.size\/X P):
  ZH 139 #[XP p,.agg #[.slice d a c]] w (Ok (mj w0 w p X (bw D q))):=by
 have t:=b.gr.size;have n:∀P,X P->P<w.heap.size:=by obtain⟨o,u,v,x,r⟩:=b;exact r
 have y:=h.lt;exact b.call λo s g=>Av (h.af b.gr) s k l (λP e=>⟨(i P e).elim (λb=>oM) (n P),λj=>(i P e).elim (λb=>by have:=(g P j).1;omega) (g P j).2.2⟩) λP e=>by have:=(g P e).1;omega
def aZ.h_(d:aZ w0 w p D X)(k:oV w0):ZH 136 #[XP p] w (Ok λe w'=>∃a b c G,e= .tuple #[.agg #[.slice a b c],.bool (du D).isSome]/\aV aM 3 G w' a b c ((du D).getD [])/\
  (∀P,G P->w.heap.size<=P)/\aZ w0 w' p D (λP=>X P\/G P)/\ai w w'):=by
 have l:=d.gr;obtain⟨m,f,n⟩:=d;refine Calls.ok (BI (k.af l) f) ?_;rintro e w' ⟨a,b,c,G,rfl,g,h,i⟩;exact⟨a,b,c,G,rfl,g,i,aZ.add ⟨m,f,n⟩ h λP j=>⟨i P j,g.aE P j⟩,h⟩
end
def KI{D:XM}{a bytes:Nat}(c:Row aM bytes b D d a q):∀P∈q,aN P:=λP e=>by
 obtain⟨f,g⟩:=List.mem_iff_getElem?.1 e;obtain⟨j,h,k,-,-,-,-,i⟩:=c.el f P g;exact i.2
def Cb{D:ak}:((du D).getD []).length<=64:=by
 unfold du;split
 ·simp
 ·cases P:h_ (D.read bO).1 with
  |none=>simp
  |some a=>exact(Ms P).2
def tn:(aP==bO)=false:=by decide+kernel
def PW:cV aP=true:=by decide+kernel
def Gh:cV bO=true:=by decide+kernel
def xQ:lv:=⟨[(6,[(8,.slice none 0 0),(9,QH 0)])],[],[],[],[]⟩
def xR(a0:PC_ 120 #[.ii e] b (λa3 a4=>∃o,a3= .string o/\PC_ 181 #[.pointer d,.string o] a4 (λa5 p=>∃q l m r,a5= .tuple #[.slice q l m,.ii r]/\al (r !=0) (rt z ((.tuple #[.slice none 0 0,.ii 0])) p) ((∃n:Nat->XU->Nat->Nat->Int->XT,(∃k,n k none 0 0 0 p)/\∀(k:Nat) (f:XU) (g:Nat) (h:Nat) (c:Int) (c9:Nat->Value) (s:World),n k f g h c s->((0:Int)<=c/\(c:Int)<=(l:Int)/\PC_ 182 #[.slice (cE q (Int.toNat c) m 1) (l-Int.toNat c) (m-Int.toNat c)] s (λa6 i=>∃t u v w x y,a6= .tuple #[.agg #[.ii t,.slice u v w],.ii x,.ii y]/\PA i (.cells #[.ii 0,.slice none 0 0] 292) λa7=>PS a7 (ab_ i 0) (.ii t) λa8=>PS a8 (ab_ i (0+1)) (.slice u v w) λj=>al (y !=0) (rt z ((.tuple #[.slice f g h,.ii c])) j) ((rI j (ab_ i 0) λa9=>al (a9 !=1) (rt z ((.tuple #[.slice f g h,.ii c])) j) ((rS j (ab_ i (0+1)) λb0 b1 b2=>PC_ 257 #[.slice b0 b1 b2] j (λb3 P=>∃A B D C E G F H I J K L M,b3= .tuple #[.agg #[.ii A,.ii B,.ii D,.slice C E G,.ii F,.ii H,.ii I,.ii J,.ii K,.ii L],.ii M]/\PA P (.cells #[.ii 0,.ii 0,.ii 0,.slice none 0 0,.ii 0,.ii 0,.ii 0,.ii 0,.ii 0,.ii 0] 55) λb4=>PS b4 (ab_ P 0) (.ii A) λb5=>PS b5 (ab_ P (0+1)) (.ii B) λb6=>PS b6 (ab_ P (0+2)) (.ii D) λb7=>PS b7 (ab_ P (0+3)) (.slice C E G) λb8=>PS b8 (ab_ P (0+4)) (.ii F) λb9=>PS b9 (ab_ P (0+5)) (.ii H) λc0=>PS c0 (ab_ P (0+6)) (.ii I) λc1=>PS c1 (ab_ P (0+7)) (.ii J) λc2=>PS c2 (ab_ P (0+8)) (.ii K) λc3=>PS c3 (ab_ P (0+9)) (.ii L) λa=>al (M !=0) (rt z ((.tuple #[.slice f g h,.ii c])) a) ((∃N O Q R S T U V W X Y Z,a.cell? (ab_ P 0)=some (.ii N)/\a.cell? (ab_ P (0+1))=some (.ii O)/\a.cell? (ab_ P (0+2))=some (.ii Q)/\a.cell? (ab_ P (0+3))=some (.slice R S T)/\a.cell? (ab_ P (0+4))=some (.ii U)/\a.cell? (ab_ P (0+5))=some (.ii V)/\a.cell? (ab_ P (0+6))=some (.ii W)/\a.cell? (ab_ P (0+7))=some (.ii X)/\a.cell? (ab_ P (0+8))=some (.ii Y)/\a.cell? (ab_ P (0+9))=some (.ii Z)/\PA a (.cells #[.ii N,.ii O,.ii Q,.slice R S T,.ii U,.ii V,.ii W,.ii X,.ii Y,.ii Z] 55) λc4=>PR_ (ap_ 50 (.slice f g h) (.slice (some (ab_ a 0)) 1 1)) c4 (kS_ λc5 c6 c7 c8=>(∃a2,a2<k/\n a2 c5 c6 c7 (XH .i64 (c+x)) c8)) (pV z)))) (pE z)))))) (pE z))))) (pE z)) (pE z)):ZH 187 #[.pointer d,.ii e] b z:=DC xQ Tryz.func187 rfl a0
end Go.Proofs.YtblabbpipmodgaaGreatDoor
namespace Go.au
open Go
variable{B:List ah}{l:ah}
def pk(P:l.Ok)(a:l.aJ.length<=64):gi l=(mi l,0):=by
 have d:=Cz P a;have b:iJ l=(bg (fx l),0):=by unfold iJ;rw[Zq oM]
 have c:jO 1 (bg (fx l))=(mi l,0):=by unfold jO mi;rw[Zq dC,Zq oM]
 unfold gi;rw[b];simp only;rw[c];simp
def wv(a:¬l.aJ.length<=64):gi l=([],3):=by
 have P:iJ l=([],3):=by unfold iJ;rw[Zx oM]
 unfold gi;rw[P];simp
def ends(P:List ah):List Int:=(List.range P.length).map λa=>((az (P.take (a+1))).length:Int)
def Ap{l:List ah}{i j:Nat}(P:i<=j):(az (l.take i)).length<=(az (l.take j)).length:=by
 have:l.take j=l.take i++(l.take j).drop i:=by
  conv=>lhs;rw[<-ZX i (l.take j)]
  rw[List.take_take,X2 P]
 rw[this,fI,QX];omega
def F_(a:∀P∈B,P.Ok/\P.aJ.length<=64):(az B).length<=675*B.length:=by
 induction B with
 |nil=>simp[az]
 |cons P B b=>
  rw[gF,QX,Xq];have e:=HF (a P (QV ..)).1 (a P (QV ..)).2;have f:=b λc d=>a c (QJ _ d);omega
end Go.au
namespace Go.Proofs.YtblabbpipmodgaaGreatDoor
open Go.au
variable{e:Int}
def GX(c:0<=e)(d:e<1000000000000):cV (⟨(aw e).toArray⟩:ByteArray)=true:=by
 have f:=AL e;have g:=sY e.toNat;have b:=lk c d;have h:(⟨(aw e).toArray⟩:ByteArray).size=(aw e).length:=by simp[ByteArray.size]
 unfold cV;rw[h,QK,QK,Zk,Zk];refine⟨⟨by rw[b,QX];show 1<=4+_;omega,f⟩,?_⟩;show(aw e).all ez=true;rw[b,List.all_append,QK];refine⟨dC,ZY.2 λP a=>?_⟩;have:=ZY.1 g.2.1 P a;have i:∀P:UInt8,gh P=true->ez P=true:=by
  intro P;have j:(List.range 256).all (λe=>!(gh (UInt8.ofNat e))||ez (UInt8.ofNat e))=true:=by decide+kernel
  have:=ZY.1 j P.toNat (List.mem_range.2 P.toNat_lt);rw[UInt8.ofNat_toNat]at this;intro k;rw[k]at this;simpa using this
 exact i P this
end Go.Proofs.YtblabbpipmodgaaGreatDoor
namespace Go.au
open Go
end Go.au
namespace Go.Proofs.YtblabbpipmodgaaGreatDoor
section
open Go.au
variable{B:List ah}{a c:Nat}{f:XM}{d:XU}{i:Type}{b:World}{l:ah}
def Cc{D:XM}(r:Laid b)(s:Row aM 8 b D d a l.aJ)(j:l.Ok)(t:∀e,D e->e<b.heap.size):
  ZH 155 #[.agg (aF l d a c).toArray] b (Ok λu k=>∃m n o p,u= .tuple #[.slice m n o,QH (gi l).2]/\aV fF 5 p k m n o (gi l).1/\ai b k/\∀e,p e->b.heap.size<=e):=by
 refine xL (PA.mk λC f E P=>?_);refine⟨_,_,_,_,_,_,_,_,_,_,_,_,ae P rfl,ae P rfl,ae P rfl,ae P rfl,ae P rfl,ae P rfl,ae P rfl,ae P rfl,ae P rfl,ae P rfl,
  PC.ok (LQ (s.af f) j λe i=>Qk (t e i) f.size) ?_⟩
 rintro _ v ⟨_,rfl,F,H,I,J,rfl,q,g,K⟩;refine⟨_,_,_,_,rfl,al.dQ (λw=>?_) (λx=>?_)⟩
 ·rw[show gi l=([],(iJ l).2) by unfold gi;rw[Zx w]]
  exact Ok.mk ⟨none,0,0,λ_=>False,rfl,aV.nil v,f.then g,λ_ h=>h.elim⟩
 rw[show gi l=jO 1 (iJ l).1 by unfold gi;rw[Zq (by simpa using x)]];have L:(iJ l).1.length<=666:=by
  by_cases h:64<l.aJ.length
  ·simp[iJ,h]
  ·have:=Cz j oM
   simpa[iJ,h]using this
 refine PC.ok (Cq (r.af (f.then g)).mQ (q.row (bytes:=1) dC ba) q.aE) ?_;rintro _ M ⟨_,rfl,N,O,Q,y,rfl,z,A,B⟩;refine⟨_,_,_,_,rfl,Ok.mk ⟨_,_,_,y,rfl,z,(f.then g).then A,λe i=>?_⟩⟩;have:=B e i;have:=(f.then g).size;omega
def OZ{P:List i}(c:P.length=a)(b:Nat):(P.take a).drop b=P.drop b:=by rw[Qz oM]
def OE{D:ak}{no:Int}(O:Laid b)(Q:aT b a f D)(hn:aN no):
  ZH 187 #[XP a,QH no] b (Ok λB e=>∃o p q G,B= .tuple #[.slice o p q,QH ((bC (D.read (cz (aw no))).1).2:Int)]/\
   aV py 55 G e o p q (bC (D.read (cz (aw no))).1).1/\ai b e/\(∀c,G c->b.heap.size<=c)/\(bC (D.read (cz (aw no))).1).1.length<=262144):=by
 refine xR (PC.ok (jj O hn) ?_);rintro _ w1 ⟨rfl,u⟩;refine⟨_,rfl,PC.ok (vQ (Q.af u)) ?_⟩;rintro _ r ⟨_,rfl,a4,R,c2,F2,rfl,m,C,c3⟩;have S:=GJ Q.ok (cz (aw no));have E:(D.read (cz (aw no))).2≠0->(D.read (cz (aw no))).1=[]:=by
  unfold ak.read;split
  ·intro _;rfl
  ·split
   ·intro _;rfl
   ·intro h;exact Zz rfl h
 generalize D.read (cz (aw no))=rd at m S E;obtain⟨d,er⟩:=rd;simp only at m S E⊢;refine⟨_,_,_,_,rfl,al.dQ (λl=>?_) (λhe=>?_)⟩
 ·rw[E l,pU]
  exact Ok.mk ⟨none,0,0,λ_=>False,rfl,aV.nil r,u.then C,λ_ h=>h.elim,sM⟩
 have b2:=m.len dC;have b3:=m.mL;have a9:Row fF 1 r F2 a4 R d:=m.row dC ba;refine⟨λT v w y F e=>∃(P:Nat) (i:List ah) (G:XM),F=P/\P<=d.length/\T=d.length-P/\bC d=(i++(bC (d.drop P)).1,P+(bC (d.drop P)).2)/\i.length<=P/\
  aV py 55 G e v w y i/\ai r e/\∀c,G c->r.heap.size<=c,⟨_,0,[],λ_=>False,rfl,Qj _,rfl,sM,sM,aV.nil r,aj.refl _,λ_ h=>h.elim⟩,?_⟩
 rintro T v w y _ _ U ⟨P,i,G,rfl,c5,rfl,V,c6,s,n,H⟩;refine⟨oM,oM,?_⟩;have W:ai b U:=(u.then C).then n;have X:=(a9.af n).part (lo:=P) (hi:=R) (cap:=c2) oM (Q4 _) b3;rw[OZ b2.symm]at X;rw[Qx];refine PC.ok (Cr (O.af W).mQ X oM λc g=>by have:=m.aE c g;have:=n.size;omega) ?_;rintro _ I ⟨b0,n4,c4,F4,rfl,b4,z,c8⟩;have j:¬((bq (d.drop P)).no=0/\(bq (d.drop P)).kind=1/\(ij (bq (d.drop P)).body).2=0)->∀e,ai I e->
   Ok (λB e=>∃o p q G,B= .tuple #[.slice o p q,QH ((bC d).2:Int)]/\aV py 55 G e o p q (bC d).1/\ai b e/\(∀c,G c->b.heap.size<=c)/\(bC d).1.length<=262144) (.returned (.tuple #[.slice v w y,QH (P:Int)])) e:=by
  intro h e Y;rw[V,AK h];refine Ok.mk ⟨v,w,y,G,sM,by simpa using(s.af z).af Y,(W.then z).then Y,λc g=>?_,by simp;omega⟩;have:=H c g;have:=(u.then C).size;omega
 refine⟨_,_,_,_,_,_,rfl,PA.mk λw5 k5 s5 g5=>?_⟩;refine storeAll [QH (bq (d.drop P)).kind,.slice b0 n4 c4] g5 rfl λJ k6 s6 Z=>?_;have t:ai I J:=k5.new k6 λc g=>.inr oM;refine al.dQ (λl=>j (λh=>l h.1) J t) (λa0=>?_);refine⟨_,ae Z rfl,al.dQ (λl=>j (λh=>l h.2.1) J t) (λb1=>?_)⟩;obtain⟨b5,h9,c9⟩:=uh a0;rw[XZ]at b5;have a1:=b4.af t;refine⟨_,_,_,ae Z rfl,PC.ok (LR (a1.row (bytes:=1) dC ba) a1.aE) ?_⟩;rintro _ w7 ⟨a7,n7,c7,F7,rfl,K,k7,a3⟩;obtain⟨L,a5⟩:=O_ (bq (d.drop P)).body;generalize M:ij (bq (d.drop P)).body=b6 at K L a5;obtain⟨x,xe⟩:=b6;simp only at K L a5;refine⟨_,_,_,_,_,_,_,_,_,_,_,_,_,rfl,PA.mk λw8 k8 s8 g8=>?_⟩;refine storeAll (aF x a7 n7 c7) g8 rfl λA k9 s9 k=>?_;have a6:ai w7 A:=k8.new k9 λc g=>.inr oM;have a8:ai I A:=(t.then k7).then a6;refine al.dQ (λl=>j (λh=>l (by have:=h.2.2;rw[M]at this;exact this)) A a8) (λb7=>?_);refine⟨_,_,_,_,_,_,_,_,_,_,_,_,ae k rfl,ae k rfl,ae k rfl,ae k rfl,ae k rfl,ae k rfl,ae k rfl,ae k rfl,ae k rfl,ae k rfl,?_⟩;have N:ai U A:=z.then a8;have b8:=s.af N;have a2:=K.af a6;have d0:=(z.then t).size;refine Fj b8 E_ (x:=x) (D:=F7) ⟨a7,n7,c7,F7,rfl,a2,λ_ h=>h,L,by unfold aS;omega⟩ (λc g=>⟨a2.aE c g,λhc=>?_⟩) ba (by unfold maxLen;omega) λa' c' d1 F' b9 c0 c1 _=>?_
 ·have h1:=s.aE c (s.self c hc)
  have h2:=a3 c g;omega
 refine⟨_,_,_,rfl,_,?_,P+(bq (d.drop P)).n,i++[x],F',?_,oM,rfl,?_,by simp;omega,b9,?_,?_⟩
 ·omega
 ·rw[wrap_i64 bb];omega
 ·rw[V,w_ ⟨a0,b1,by rw[M];exact b7⟩,M,List.drop_drop]
  simp only[XQ,List.cons_append,List.nil_append,Nat.add_assoc]
 ·exact(n.then N).new c0 λc g=>.inr (H c (s.self c g))
 ·intro c g
  have hz:=(n.then N).size;have d2:=n.size;rcases c1 c g with h|h|h
  ·exact H c h
  ·have:=a3 c h;omega
  ·omega
def BO{D:XM}(x:Row aM 8 b D d a l.aJ):
  ZH 44 #[.agg (aF l d a c).toArray] b (Ok λy p=>∃q r s t,y= .agg (aF l q r s).toArray/\aV aM 3 t p q r s l.aJ/\ai b p/\∀P,t P->b.heap.size<=P):=by
 refine xI (PA.mk λL z M u=>PA.mk λA h N B=>?_);have v:ai b A:=z.then h;refine⟨_,_,_,ae (h.get u id) rfl,PC.ok (rp (x.af v)) ?_⟩;rintro _ O ⟨i,j,k,C,rfl,E,m,n⟩;have F:=m.get (h.get u id) id;have H:=m.get B id;refine⟨_,_,_,rfl,PS.mk F sM λI o Q J=>?_⟩;have e:I.heap[b.heap.size]? =some (.cells (aF l i j k).toArray 55 (0,0)):=by rw[J];rfl
 have K:=o.get H oM;refine⟨_,_,_,_,_,_,_,_,_,_,_,_,ae e rfl,ae e rfl,ae e rfl,ae e rfl,ae e rfl,ae e rfl,ae e rfl,ae e rfl,ae e rfl,ae e rfl,?_⟩;refine storeAll (aF l i j k) K rfl λR w S f=>?_;refine⟨_,_,_,_,_,_,_,_,_,_,_,_,ae f rfl,ae f rfl,ae f rfl,ae f rfl,ae f rfl,ae f rfl,ae f rfl,ae f rfl,ae f rfl,ae f rfl,
  Ok.mk ⟨i,j,k,C,rfl,?_,?_,λP g=>by have:=n P g;omega⟩⟩
 ·exact(E.keep o λP g l=>by have:=n P g;omega).keep w λP g l=>by have:=n P g;omega
 ·exact((v.then m).new o λP g=>.inr oM).new w λP g=>.inr oM
def zS{D:XM}(m:Row iC 96 b D d a B)(E:∀F∈B,F.aJ.length<=100):
  ZH 15 #[.slice d a c] b (Ok (vh py 55 b B)):=by
 have T:=m.len;have H:=m.ef;unfold aS at H;refine vu ⟨λr s e t i u=>i=(e:Int)/\e<=a/\r=a-e/\∃l,aV py 55 l u s e t (B.take e)/\ai b u/\∀P,l P->b.heap.size<=P,
  ⟨_,rfl,Qj _,rfl,λ_=>False,by simpa using aV.nil b,aj.refl _,λ_ h=>h.elim⟩,?_⟩
 rintro r s e t i _ U ⟨rfl,V,rfl,l,g,k,n⟩;refine al.dec (λv=>?_) (λv=>?_)
 ·obtain⟨P,o,w,W,rfl,_,_,x,p,X,Y,Z,rfl,I,J⟩:=(m.af k).BR (i:=e) oM
  have y:(B.take e).length=e:=by simp;omega
  have f:=λi (K:i<10)=>p i K;refine⟨P,o,rfl,oM,oM,_,_,_,_,_,_,_,_,_,_,_,_,f 0 dC,f 1 dC,f 2 dC,f 3 dC,f 4 dC,f 5 dC,f 6 dC,f 7 dC,f 8 dC,f 9 dC,?_⟩;refine PC.ok (BO I) ?_;rintro _ w2 ⟨L,M,N,z,rfl,A,q,C⟩;have a3:=E w (QZ x);refine⟨_,_,_,_,_,_,_,_,_,_,_,_,rfl,Fj (g.af q) E_ (x:=w) (D:=z) ⟨L,M,N,z,rfl,A,λ_ h=>h,J,by unfold aS;omega⟩ (λP j=>⟨A.aE P j,λp=>?_⟩) (by rw[y];unfold aS;omega) (by rw[y];unfold maxLen;omega) λa' c' w3 O Q R S _=>?_⟩
  ·have v:=g.aE P (g.self P p);have h2:=C P j;omega
  refine⟨_,_,_,rfl,a-(e+1),oM,an oM,oM,rfl,O,?_,(k.then q).new R λP j=>.inr (n P (g.self P j)),?_⟩
  ·rw[Qw,x];exact Q
  ·intro P j
   have:=k.size;have:=(k.then q).size;rcases S P j with h|h|h
   ·exact n P h
   ·have:=C P h;omega
   ·omega
 ·obtain rfl:e=a:=oM
  rw[Qz oM]at g;exact Ok.mk ⟨_,_,_,l,rfl,g,k,n⟩
end
section
open Go.au
variable{o:Array Value}{y:FuncId}{e:Int}{d2:Int×ak}{q:List Int}{a c:Nat}{f:XM}{d:XU}{b:World}
def cC{D:XM}(h:Row aM 8 b D d a q)(g:∀P,D P->P<b.heap.size):
  ZH 102 #[.slice d a c] b (Ok (vh aM 3 b q)):=by
 have x:=h.len;have e:=h.ef;refine mX (jQ q_.under ⟨_,rfl,al.mk (λf=>?_) (λf=>PA.mk λk i y l=>?_)⟩)
 ·have:q=[]:=by
   cases d with
   |none=>
    cases q with
    |nil=>rfl
    |cons m z=>obtain⟨P,n,A,o,_⟩:=h.el 0 m rfl;cases o
   |some p=>cases f
  subst this;exact Ok.mk ⟨none,0,0,λ_=>False,rfl,aV.nil b,aj.refl _,λ_ h=>h.elim⟩
 ·cases d with
  |none=>cases f
  |some p=>
   have r:aV aM 3 (·=b.heap.size) k (XL b.heap.size) 0 0 []:=
    ⟨⟨[],λ_=>False,Own.yz (cur:= #[]) l rfl (Qj _),rfl,λ_ h=>h.elim⟩,λP e=>by simpa[aI]using e.symm,λP e=>oM⟩
   refine kj r q_ (D:=D) (h.af i) (λP e=>⟨by have:=g P e;omega,by have:=g P e;simp only[aI];intro s;cases s;omega⟩) bc (by unfold aS at e;unfold maxLen;simp;omega) λj t B C u v _ w=>?_;refine⟨_,_,_,rfl,Ok.mk ⟨j,_,t,λP=>aI j=some P,rfl,by have h:=u.alone;rw[List.nil_append]at h;exact h,i.new v λP e=>.inr ?_,λP e=>?_⟩⟩
   ·simp only[aI,Q1]at e;omega
   ·rcases w P e with h|h<;>omega
def eu(P:Int)(a:ByteArray):Int:=if(gu a).2 then max P ((gu a).1+1)else P
def rC(P:List ByteArray):Int:=P.foldl eu 1
def gK(D:ak):Int:=rC D.list
def Cy(P:ByteArray):0<=(gu P).1/\(gu P).1<1000000000000:=by
 unfold gu;split
 ·rename_i b a
  have:=(Am a).2;simp;omega
 ·simp
def Eo(a:1<=e/\e<=1000000000000)(P:ByteArray):1<=eu e P/\eu e P<=1000000000000:=by
 have:=Cy P;unfold eu;split<;>omega
def GR:∀(a:List ByteArray) (P:Int),(1<=P/\P<=1000000000000)->1<=a.foldl eu P/\a.foldl eu P<=1000000000000
 |[],P,b=>b
 |s::a,P,b=>GR a _ (Eo b s)
def qs(P:List ByteArray):1<=rC P/\rC P<=1000000000000:=GR P 1 oM
def GS{D:ak}(s:Laid b)(i:aT b a f D):
  ZH 135 #[XP a] b (Ok λt e=>t= QH (gK D)/\ai b e):=by
 refine Bq (PC.ok (vR i) ?_);rintro _ j ⟨u,d,z,G,rfl,k,l,A⟩;have B:D.list.length<=64:=by rw[mP];exact i.ok.many
 have C:=k.len dC;have v:Row LM 16 j G u d D.list:=k.row dC ba;refine⟨_,_,_,rfl,λm n o e=>∃P:Nat,o=P/\P<=d/\m=d-P/\n=rC (D.list.take P)/\ai j e,⟨_,0,rfl,Qj _,rfl,rfl,aj.refl _⟩,?_⟩;rintro m n o _ E ⟨P,rfl,F,rfl,rfl,c⟩;refine al.dec (λH=>?_) (λI=>?_)
 ·obtain⟨w,g,p,rfl,x,_,y⟩:=(v.af c).lq (i:=P) oM
  refine⟨w,g,rfl,oM,oM,_,y,PC.ok (yR (s.af (l.then c))) ?_⟩;rintro _ J ⟨rfl,q⟩;have K:=Cy p;have L:=qs (D.list.take P);have r:rC (D.list.take (P+1))=eu (rC (D.list.take P)) p:=by
   unfold rC;rw[Qw,x,List.foldl_append];rfl
  refine⟨_,_,rfl,al.mk (λh=>⟨_,?_,P+1,an oM,oM,rfl,?_,c.then q⟩) (λh=>⟨_,?_,P+1,an oM,oM,rfl,?_,c.then q⟩)⟩
  ·omega
  ·rw[r,wrap_i64 bb]
   unfold eu;rw[Zx h];split<;>omega
  ·omega
  ·rw[r];unfold eu;rw[Zq (by simp[h])]
 ·obtain rfl:P=d:=oM
  rw[Qz oM];exact Ok.mk ⟨rfl,l.then c⟩
structure dm where
 size:Int
 a_:List Int
 bytes:Int
 next:Int
structure iH (w:World) (p q:Nat) (G:XM) (V:dm):Prop where
 body:∃a n c E,w.heap[q]? =some (.cells #[XP p,QH V.size,.slice a n c,QH V.bytes,QH V.next] 228 (0,0))/\aV aM 3 E w a n c V.a_/\∀b,E b->G b/\b≠q
 self:G q
 aE:∀b,G b->b<w.heap.size
 many:V.a_.length<=64
 zl:aN V.next
section
variable {w0 w w1 w':World} {p q:Nat} {D D':ak} {V V':dm} {X Y G S:XM}
def iH.keep(a:iH w p q G V)(b:aj S w w')(d:∀P,G P->¬S P):iH w' p q G V:=by
 obtain⟨f,g,h,i,j,k,e⟩:=a.body;exact⟨⟨f,g,h,i,b.get j (d q a.self),k.keep b λP c=>d P (e P c).1,e⟩,a.self,λP c=>Qk (a.aE P c) b.size,a.many,a.zl⟩
def iH.af(P:iH w p q G V)(a:ai w w'):iH w' p q G V:=P.keep a λ_ _ P=>P
def cy(w0 w:World)(p q:Nat)(V:dm)(D:ak)(X:XM):Prop:=∃G,aZ w0 w p D (λP=>X P\/G P)/\iH w p q G V/\∀P,G P->w0.heap.size<=P/\¬X P
def cy.gr(P:cy w0 w p q V D X):ai w0 w:=by obtain⟨G,a,b,c⟩:=P;exact a.gr
def cy.ok(P:cy w0 w p q V D X):D.Ok:=by obtain⟨G,a,b,c⟩:=P;exact a.ok
def cy.many(P:cy w0 w p q V D X):V.a_.length<=64:=by obtain⟨G,b,a,c⟩:=P;exact a.many
def cy.zl(P:cy w0 w p q V D X):aN V.next:=by obtain⟨G,b,a,c⟩:=P;exact a.zl
def cy.aE(a:cy w0 w p q V D X):∀P,X P->P<w.heap.size:=by obtain⟨G,⟨d,e,f,g,b⟩,h,i⟩:=a;exact λP c=>b P (.inl c)
def cy.UQ(a:cy w0 w p q V D X):q<w.heap.size/\w0.heap.size<=q/\¬X q:=by obtain⟨G,c,P,b⟩:=a;exact⟨P.aE q P.self,b q P.self⟩
def cy.sO(P:cy w0 w p q V D X):aZ w0 w p D X:=by obtain⟨G,a,c,d⟩:=P;exact a.mono λe b=>.inl b
def cy.af(a:cy w0 w p q V D X)(P:ai w w'):cy w0 w' p q V D X:=by
 obtain⟨G,b,c,d⟩:=a;exact⟨G,b.af P,c.af P,d⟩
def cy.mono(d:cy w0 w p q V D X)(b:∀P,Y P->X P):cy w0 w p q V D Y:=by
 obtain⟨G,e,f,c⟩:=d;exact⟨G,e.mono λP a=>a.imp (b P) id,f,λP a=>⟨(c P a).1,λg=>(c P a).2 (b P g)⟩⟩
def cy.add(f:cy w0 w p q V D X)(b:ai w w')(c:∀P,Y P->w.heap.size<=P/\P<w'.heap.size):cy w0 w' p q V D (λP=>X P\/Y P):=by
 obtain⟨G,g,d,e⟩:=f;refine⟨G,(g.add b c).mono λP a=>?_,d.af b,λP a=>⟨(e P a).1,λh=>h.elim (e P a).2 λi=>by have:=d.aE P a;have:=(c P i).1;omega⟩⟩;rcases a with(a|a)|a
 ·exact .inl (.inl a)
 ·exact .inr a
 ·exact .inl (.inr a)
def cy.other(g:cy w0 w p q V D X)(b:aj Y w w')(c:∀P,Y P->X P/\w0.heap.size<=P):cy w0 w' p q V D X:=by
 obtain⟨G,⟨h,i,j,e,k⟩,l,f⟩:=g;exact⟨G,⟨h,i.keep b λP a d=>(e P a).2 (.inl (c P d).1),j.new b λP a=>.inr (c P a).2,e,λP a=>Qk (k P a) b.size⟩,l.keep b λP a d=>(f P a).2 (c P d).1,f⟩
def cy.on(e:cy w0 w p q V D X)(f:∀b,(∀P,X P->b P)->aZ w0 w p D b->ZH y o w (Ok (mj w0 w p b d2))):ZH y o w (Ok λc w'=>c= QH d2.1/\cy w0 w' p q V d2.2 X/\aj (dK X) w w'):=by
 obtain⟨G,g,h,i⟩:=e;refine Calls.ok (f _ (λP a=>.inl a) g) ?_;rintro c w' ⟨j,k,d⟩;exact⟨j,⟨G,k,h.keep d λP a l=>l (.inr a),i⟩,d.mono λP _ a m=>a (.inl m)⟩
def dm.last(V:dm):ByteArray:=cz (aw (V.a_.getLast?.getD 0))
def iH.row(e:iH w p q G V):∃a P c b,w.heap[q]? =some (.cells #[XP p,QH V.size,.slice a P c,QH V.bytes,QH V.next] 228 (0,0))/\Row aM 8 w b a P V.a_/\(∀d,b d->G d/\d≠q)/\P=V.a_.length:=by
 obtain⟨a,P,c,b,g,f,h⟩:=e.body;have:=e.many;exact⟨a,P,c,b,g,f.row dC ba,h,f.len dC⟩
def GU(e:Laid w)(c:iH w p q G V)(f:V.a_≠[]):ZH 157 #[XP q] w (Ok λg w'=>g= .string V.last/\ai w w'):=by
 obtain⟨u,a,v,x,h,i,y,j⟩:=c.row;have z:0<V.a_.length:=List.length_pos_iff.2 f;have A:=c.many;refine tI λw1 k=>?_;have P:ai w w1:=k.keep;have d:=P.get h id;have l:XH .i64 ((a:Int)-1)=((a-1:Nat):Int):=by rw[wrap_i64 bb];omega
 obtain⟨m,b,n,rfl,o,r,s⟩:=(i.af P).lq (i:=a-1) oM;refine⟨q,0,rfl,_,_,_,ae d rfl,q,0,rfl,_,_,_,ae d rfl,m,b,rfl,?_⟩;rw[l];refine⟨oM,oM,n,s,PC.ok (jj (e.af P) r) ?_⟩;rintro _ B ⟨rfl,t⟩;refine⟨_,rfl,Ok.mk ⟨?_,P.then t⟩⟩;unfold dm.last;rw[List.getLast?_eq_getElem?,<-j,o];rfl
def GV(j:Laid w0)(g:cy w0 w p q V D X)(k:V.a_≠[]):ZH 92 #[XP q] w (Ok λl w'=>l= QH (D.sync V.last).1/\cy w0 w' p q V (D.sync V.last).2 X/\aj (dK X) w w'):=by
 refine tF λw1 m=>?_;have d:ai w w1:=m.keep;have n:=g.af d;obtain⟨G,o,P,h⟩:=n;obtain⟨y,z,A,B,r,C,E,i⟩:=P.row;have F:=h q P.self;have H:=P.aE q P.self;refine⟨λb=>b≠q/\¬X b,q,0,rfl,λs=>s.1 rfl,_,ae r rfl,PC.ok (GU (j.af (g.gr.then d)) P k) ?_⟩;rintro _ I ⟨rfl,c⟩;have t:=P.af c;have u:=o.af c;refine⟨_,rfl,c.keep,PC.ok u.sync ?_⟩;rintro _ J ⟨rfl,v,e⟩;refine⟨_,rfl,e.mono λb _ a=>⟨λx=>a (.inr (x▸P.self)),λf=>a (.inl f)⟩,Ok.mk ⟨rfl,⟨G,v,t.keep e λb a i=>i (.inr a),h⟩,?_⟩⟩;exact(ai.keep (d.then c)).then (e.mono λb _ a f=>a (.inl f))
def DS(P:iH w p q G V):ZH 118 #[XP q] w (Ok (vh aM 3 w V.a_)):=by
 obtain⟨j,k,l,m,b,c,d,n⟩:=P.row;refine oq ⟨q,0,rfl,_,_,_,ae b rfl,PC.ok (cC c λa e=>P.aE a (d a e).1) ?_⟩;rintro _ w1 ⟨o,r,s,f,rfl,g,h,i⟩;exact⟨_,_,_,rfl,Ok.mk ⟨_,_,_,f,rfl,g,h,i⟩⟩
def NC(P:iH w p q G V):ZH 117 #[XP q] w (Ok λa w'=>a= QH V.next/\w=w'):=by
 obtain⟨c,d,e,f,b,g,h,i⟩:=P.row;exact tH ⟨q,0,rfl,_,ae b rfl,Ok.mk ⟨rfl,rfl⟩⟩

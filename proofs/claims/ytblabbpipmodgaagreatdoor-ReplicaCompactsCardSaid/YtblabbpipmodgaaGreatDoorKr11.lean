import Derived.Test.YtblabbpipmodgaaGreatDoorKr10
import Derived.Lib.AppendIntMem
import Derived.Laws.Concat
import Derived.Shelf.SlSortCmp.WholeK
import Derived.Shelf.SlMaps.Clone
import Derived.Ground.SlsfProg
import Derived.Ground.SlmcProg
import Derived.Shelf.SlGeneric
import Derived.Shelf.SlSortCmp.NoneTotal
import Derived.Laws.StructEq
import Derived.Carry
import Derived.SizedLaws
import Derived.WalkKit
import Derived.ProofKit
import Derived.OpenShut
import Derived.Deep.DeepHandedRow
import Derived.Deep.Slices
set_option maxHeartbeats 4000000
set_option linter.all false
set_option maxRecDepth 100000
open Go.IntKind renaming wrap→ZG
namespace Go.aw
open Go
def cF(P:List UInt8):ByteArray:=⟨P.toArray⟩
def nn(P:List UInt8):(cF P).data.toList=P:=by simp[cF]
def UL(P:ByteArray):cF P.data.toList=P:=by simp[cF]
variable{a7 v:List UInt8}{a:Nat}{S Y:Operand}{h:Program}{g:TypeId}{m t:ZR}{b:World}
def Mu(P:cF v=cF a7):v=a7:=by rw[<-nn v,P,nn]
def iH(P:List UInt8):(cF P).size=P.length:=by simp[cF,ByteArray.size]
def gB(P:ByteArray):Int×Bool:=match iV P.data.toList with
 |some a=>(a,true)
 |none=>(0,false)
def Xf{a P:List UInt8}(d:a.length+P.length<=1000000000)(c:m (.string (cF (a++P))) b):
  aG h (do eqGuard .add g S Y (.string (cF a)) (.string (cF P));binOp .add g (.string (cF a)) (.string (cF P))) b m t:=by
 refine aG.mk (v:=.string (cF a++cF P)) (w':=b) ?_ ?_
 ·rw[Sem.run_bind,show(eqGuard .add g S Y (.string (cF a)) (.string (cF P))).run h b= .ok () b from rfl,Result.andThen_ok,binOp_string_add,run_string_add_sum b (cF a) (cF P) (by rw[iH,iH];omega)]
 have:cF a++cF P=cF (a++P):=by
  apply ByteArray.ext;simp[cF]
 rw[this];exact c
def ai.SY{P:Array Obj}:ai b (Sort.grow (b.drewN a) P):=
 ⟨rfl,rfl,rfl,sM,λd c _=>by rw[Sort.heap_grow_old _ _ (by simpa using c)];rfl⟩
end Go.aw
namespace Go.Proofs.YtblabbpipmodgaaGreatDoor
section
open Go.aw
structure Laid (w:World):Prop where
 nH:pU w
 pow:Lib.TabIs ZP w "internal/strconv.uint64pow10" .u64 Lib.pow10Tab
variable{w:ByteArray}{e:Int}{a7 v:List UInt8}{b k:World}
def Laid.af(P:Laid b)(a:ai b k):Laid k:=⟨P.nH.af a,Lib.tabBelow_of_tabIs P.pow k a.below⟩
def strconv_Itoa{P:Int}{a:World}(d:Laid a)(b:aN P):YX 173 #[ZH P] a (Ok λe c=>e= .string (cF (Lib.itoa P))/\ai a c):=by
 refine(Any.strconv_Itoa Tryz.Re P b.1 b.2 a d.pow).mono ?_;rintro f c ⟨rfl,g,h,rfl⟩;exact Ok.mk ⟨rfl,ai.SY⟩
def jv(a:Laid b)(c:aN e):YX 120 #[ZH e] b (Ok λd f=>d= .string (cF (ax e))/\ai b f):=by
 refine Ax (al.dec (λP=>?_) (λh=>al.dec (λP=>?_) (λi=>PC.ok (strconv_Itoa a c) ?_)))
 ·exact Ok.mk ⟨by unfold ax;rw[Zx (.inl P)];rfl,aj.refl _⟩
 ·exact Ok.mk ⟨by unfold ax;rw[Zx (.inr P)];rfl,aj.refl _⟩
 rintro _ j ⟨rfl,g⟩;refine⟨_,rfl,Xf (a:=dF) ?_ ⟨_,rfl,Ok.mk ⟨?_,g⟩⟩⟩
 ·have:=oD (u:=e.toNat) oM
  unfold Lib.itoa;rw[Zq oM];show 4+_<=_;omega
 ·rw[lJ oM oM]
  unfold Lib.itoa;rw[Zq oM]
def BY:YX 328 #[.string (cF v),.string (cF a7)] b (Ok λc d=>c= .bool (decide (v.take a7.length=a7))/\b=d):=by
 refine g_ ?_;rw[iH,iH];refine al.dec (λP=>⟨oM,oM,Ok.mk ⟨?_,rfl⟩⟩) (λP=>Ok.mk ⟨?_,rfl⟩)
 ·rw[Qx]
  have a:ByteArray.toList (ByteArray.extract (cF v) 0 a7.length)=v.take a7.length:=by
   rw[ByteArray.toList_eq,ByteArray.data_extract];simp[cF]
  have e:ByteArray.toList (cF a7)=a7:=by rw[ByteArray.toList_eq,nn]
  rw[a,e]
  congr 1
  by_cases P:v.take a7.length=a7<;>simp[P]
 ·have:v.take a7.length≠a7:=λa=>by have:=Zj List.length a;simp at this;omega
  rw[Xv this]
def Ds:YX 248 #[.string (cF v),.string (cF a7)] b (Ok λa c=>a= .tuple (if v.take a7.length=a7 then #[.string (cF (v.drop a7.length)),.bool true]else #[.string (cF v),.bool false])/\b=c):=by
 refine rR (PC.ok (φ:=λa c=>a= .tuple (if v.take a7.length=a7 then #[.string (cF (v.drop a7.length)),.bool true]else #[.string (cF v),.bool false])/\b=c) (gY (PC.ok BY ?_)) ?_)
 ·rintro _ _ ⟨rfl,rfl⟩
  refine⟨_,rfl,?_⟩;rw[iH,iH]
  by_cases P:v.take a7.length=a7
  ·rw[Zx P,Zy P]
   have f:a7.length<=v.length:=by have:=Zj List.length P;simp at this;omega
   refine al.ff rfl ⟨oM,oM,Ok.mk ⟨?_,rfl⟩⟩;have d:ByteArray.extract (cF v) (Int.toNat ((a7.length:Nat):Int)) v.length=cF (v.drop a7.length):=by
    apply ByteArray.ext;rw[Qx,ByteArray.data_extract];have e:List.take (v.length-a7.length) (List.drop a7.length v)=List.drop a7.length v:=Qz sM;simp[cF,e]
   rw[d]
  ·rw[Zq P,Xv P]
   exact al.tt rfl (Ok.mk ⟨rfl,rfl⟩)
 ·rintro _ _ ⟨rfl,rfl⟩
  split
  ·exact⟨_,_,rfl,Ok.mk ⟨rfl,rfl⟩⟩
  ·exact⟨_,_,rfl,Ok.mk ⟨rfl,rfl⟩⟩
def Aj(y:Laid b):YX 177 #[.string w] b (Ok λl e=>l= .tuple #[ZH (gB w).1,.bool (gB w).2]/\ai b e):=by
 rw[<-UL w];generalize w.data.toList=f;have d:(⟨#[115,101,103,46]⟩:ByteArray)=cF dF:=rfl;unfold gB;rw[nn];refine wC ?_;rw[d];refine PC.ok Ds ?_;rintro _ _ ⟨rfl,rfl⟩;have no:∀e,iV f=none->ai b e->Ok (λl e=>l= .tuple #[ZH (match iV f with|some m=>((m:Int),true)|none=>(0,false)).1,.bool (match iV f with|some m=>((m:Int),true)|none=>(0,false)).2]/\ai b e) (.returned (.tuple #[ZH 0,.bool false])) e:=λe p z=>by
  rw[p];exact Ok.mk ⟨rfl,z⟩
 by_cases g:f.take dF.length=dF
 ·rw[Zx g]
  refine⟨_,_,rfl,al.ff rfl ?_⟩;have q:f=dF++f.drop 4:=by
   have:=ZX 4 f;rw[show f.take 4=dF from g]at this;exact this.symm
  change al (decide (((ByteArray.size (cF (f.drop 4)):Nat):Int)>12)) _ _
  generalize S:f.drop 4=a at q;subst q;rw[iH];refine al.dec (λp=>no _ (LC (by rw[QX];show 16<4+_;omega)) (aj.refl _)) (λT=>?_);refine Be Tryz.underlying9 λU A B V=>⟨λr s e=>∃P,r=a.length-P/\P<=a.length/\s=(eU (a.take P):Int)/\e.heap[b.heap.size]? =some (.stringIter (cF a) P)/\ai b e/\(a.take P).all gu=true,⟨_,0,rfl,Qj _,rfl,A,B,rfl⟩,?_⟩
  rintro r s W X ⟨P,rfl,Y,rfl,C,h,i⟩;have E:=xj _ i;refine F_ C (λF=>.inl ⟨rfl,?_⟩) λd t u j Z=>.inr ⟨_,_,rfl,?_⟩
  ·rw[iH]at F
   rw[Qz oM]at i E⊢;have a0:10 ^ a.length<=10 ^ 12:=Nat.pow_le_pow_right oM oM;have H:(10:Nat) ^ 12=1000000000000:=dC
   refine PC.ok (jv (y.af h) bb) ?_;rintro _ t ⟨rfl,j⟩;have v:=GK i oM;refine⟨_,rfl,al.Xr (λI=>no _ ?_ (h.then j)) (λJ=>?_)⟩
   ·rw[v,Zq λK=>I (by rw[K])]
   ·rw[v,Zx (Mu J)]
    exact Ok.mk ⟨rfl,h.then j⟩
  ·have n:P<a.length:=by rwa [iH]at d
   have k:ai b t:=h.new j λa1 x=>.inr oM;have o:a[P]? =some ((cF a)[P]'d):=by
    rw[Qq n]
    congr 1
   have c:gu ((cF a)[P]'d)=false->iV (dF++a)=none:=λL=>Jl (List.all_eq_false.2 ⟨_,QZ o,by simp[L]⟩)
   by_cases x:((cF a)[P]'d).toNat<128
   ·rw[decode_ascii _ P d x]at u⊢
    simp only;refine al.dec (λM=>no _ (c ?_) k) (λN=>al.dec (λO=>no _ (c ?_) k) (λQ=>?_))
    ·unfold gu;exact Xv oM
    ·unfold gu;exact Xv oM
    ·have a2:10 ^(a.take P).length<=10 ^ 12:=Nat.pow_le_pow_right oM bc
     have H:(10:Nat) ^ 12=1000000000000:=dC
     refine⟨_,oM,P+1,rfl,oM,?_,u,k,?_⟩
     ·rw[Qw,o]
      show _=((eU (a.take P++[_]):Nat):Int);rw[fJ];have R:ZG .i32 ((((cF a)[P]'d).toNat:Int)-48)=(((cF a)[P]'d).toNat:Int)-48:=by
       unfold ZG;simp[IntKind.signed,IntKind.bits];omega
      rw[R,wrap_i64 (x:=(((cF a)[P]'d).toNat:Int)-48) bb,wrap_i64 (x:=10*_) bb,wrap_i64 bb];omega
     ·rw[Qw,o,List.all_append,i]
      simp[gu];omega
   ·have hh:=(decode_high _ P d oM).1
    refine al.dec (λM=>oM) (λN=>al.dec (λO=>no _ (c ?_) k) (λQ=>oM));unfold gu;exact Xv oM
 ·rw[Zq g]
  exact⟨_,_,rfl,al.tt rfl (no _ (Ov g) (aj.refl _))⟩
end
section
open Go.aw
def TM:jq ZP 27 3 1 8:=⟨kR,kR,dC⟩
def fC(a:List Int)(P:Int):Int:=if P<0 then 0 else max (a.getD P.toNat 0) 0
variable{e q:Int}{b2 s:List Int}{a c i o:Nat}{d r:YQ}{b:World}{l:ah}
def Tg(a:0<=e)(P:s[e.toNat]? =some q):fC s e=max q 0:=by
 unfold fC;rw[Zq oM];simp[List.getD,P]
def Rr(P:(s.length:Int)<=e):fC s e=0:=by
 unfold fC;split
 ·rfl
 ·have:s[e.toNat]? =none:=by simp;omega
  simp[List.getD,this]
def nB{i:Int}(g:Ints b d a s):
  YX 105 #[.slice d a c,ZH i] b (Ok λh j=>h= ZH (fC s i)/\b=j):=by
 refine Nj ?_;refine al.mk (λe=>?_) (λe=>al.mk (λP=>?_) (λP=>?_))
 ·have:=XV e
  exact Ok.mk ⟨by simp[fC,this],rfl⟩
 ·have P:=XV P
  exact Ok.mk ⟨by rw[Rr (by rw[<-g.len];exact P)],rfl⟩
 ·have e:=Xy e
  have P:=Xy P;obtain⟨k,f,l,rfl,o,m,p,n⟩:=g.at (i:=i) oM oM;refine⟨k,f,rfl,oM,oM,l,n,Ok.mk ⟨?_,rfl⟩⟩;rw[Tg oM m]
  congr 1
  omega
def pT(a b:List Int)(c:Nat):List Int:=(List.range c).map λ(P:Nat)=>max (fC a P) (fC b P)
def jX(P a:List Int):List Int:=pT P a (max P.length a.length)
def Ju(a b:List Int)(P:Nat):pT a b (P+1)=pT a b P++[max (fC a P) (fC b P)]:=by simp[pT,List.range_succ]
def sk(a b:List Int)(P:Nat):(pT a b P).length=P:=by simp[pT]
def GO(a:World)(f:TypeId)(g:List Int)(h:Value)(b:World):Prop:=
 ∃P c d,h= .slice P c d/\Own b f 1 P c d (ints g)/\ai a b/\∀e,aH P=some e->a.heap.size<=e
def Th:(if q>e then q else e)=max e q:=oM
def Ah(j:Ints b d a s)(P:Ints b r c b2):
  YX 100 #[.slice d a i,.slice r c o] b (Ok (GO b 3 (jX s b2))):=by
 have v:=j.len;have w:=P.len;have x:=j.dO;have y:=P.dO;unfold aO at x y;refine Kc ⟨λn k e p q t=>q=(e:Int)/\e<=max a c/\n=max a c-e/\Own t 3 1 k e p (ints (pT s b2 e))/\ai b t/\∀r,aH k=some r->b.heap.size<=r,
  ⟨_,rfl,oM,rfl,Own.nil _ _ _,aj.refl _,by simp[aH]⟩,?_⟩
 rintro n k e p q _ C ⟨rfl,E,rfl,u,f,l⟩;refine al.mk (λg=>?_) (λg=>?_)
 ·have g:=XV g
  refine PC.ok (nB (j.af f)) ?_;rintro _ _ ⟨rfl,rfl⟩;refine⟨_,rfl,PC.ok (nB (P.af f)) ?_⟩;rintro _ _ ⟨rfl,rfl⟩;refine⟨_,rfl,PA.mk λF m H z=>?_⟩;refine LU TM (u.af m) z ba λI J K A B h=>?_;refine⟨_,_,_,rfl,_,?_,?_,oM,rfl,?_,(f.af m).new B ?_,?_⟩
  ·omega
  ·rw[wrap_i64 bb];simp
  ·rw[Ju,<-Th];exact A
  ·intro r P;exact .inr (l r P.symm)
  ·intro r P
   rcases h with h|h
   ·exact l r (h▸P)
   ·rw[h]at P;cases P;have:=f.size;have:=m.size;omega
 ·have g:=Xy g
  have:e=max a c:=oM
  subst this;refine Ok.mk ⟨_,_,_,rfl,?_,f,l⟩;unfold jX;rw[<-v,<-w];exact u
def yf(P a:List Int):Nat->Int
 |0=>0
 |k+1=>if fC P k<fC a k then Pq .i64 (yf P a k) 1 else if fC P k>fC a k then Pq .i64 (yf P a k) 2 else yf P a k
def qP(P a:List Int):Int:=yf P a (max P.length a.length)
def MJ(h:Ints b d a s)(j:Ints b r c b2):
  YX 101 #[.slice d a i,.slice r c o] b (Ok λq k=>q= ZH (qP s b2)/\b=k):=by
 have t:=h.len;have u:=j.len;have v:=h.dO;have w:=j.dO;unfold aO at v w;refine Ni ⟨λm n p k=>∃P:Nat,p=P/\P<=max a c/\m=max a c-P/\n=yf s b2 P/\k=b,
  ⟨_,0,rfl,oM,rfl,rfl,rfl⟩,?_⟩
 rintro m n p _ x ⟨P,rfl,y,rfl,rfl,rfl⟩;refine al.mk (λg=>?_) (λg=>?_)
 ·have g:=XV g
  refine PC.ok (nB h) ?_;rintro _ _ ⟨rfl,rfl⟩;refine⟨_,rfl,PC.ok (nB j) ?_⟩;rintro _ _ ⟨rfl,rfl⟩;have l:ZG .i64 ((P:Int)+1)=((P+1:Nat):Int):=by rw[wrap_i64 bb];simp
  refine⟨_,rfl,al.mk (λe=>?_) (λe=>al.mk (λf=>?_) (λf=>?_))⟩
  ·have e:=XV e
   exact⟨_,oM,P+1,l,oM,rfl,by simp[yf,e],rfl⟩
  ·have e:=Xy e
   have f:=XV f;exact⟨_,oM,P+1,l,oM,rfl,by simp[yf,e,f],rfl⟩
  ·have e:=Xy e
   have f:=Xy f;exact⟨_,oM,P+1,l,oM,rfl,by simp[yf,e,f],rfl⟩
 ·have g:=Xy g
  have:P=max a c:=oM
  subst this;exact Ok.mk ⟨by unfold qP;rw[<-t,<-u],rfl⟩
structure jW where
 bU:Int
 pF:Int
 lb:Int
 least:Int
 deriving DecidableEq
structure bu where
 kind:Int
 dW:Int
 floor:Bool
 bz:List jW
 deriving DecidableEq
structure jo where
 aY:Int
 field:Int
 group:Int
 EN:Int
 make:Int
 deriving DecidableEq
structure aS where
 types:List (List bu)
 projs:List jo
 deriving DecidableEq
structure lf where
 aY:Int
 agg:Int
 field:Int
 op:Int
 arg:Int
 expect:Int
 key:Int
 deriving DecidableEq
structure cY where
 n:Int
 set:List Int
 deriving DecidableEq
structure lZ where
 version:Int
 cells:List cY
 deriving DecidableEq
structure cR where
 ev:ah
 void:Bool
 EN:Int×Int
structure dR where
 group:Int
 value:Int
 count:Int
 deriving DecidableEq
abbrev oT(P:Int):Int:=ZG .i64 P
def within(P a b:Int):Bool:=decide (a<=P)&&decide (P<=b)
def aS.at(P:aS)(a:Int):List bu:=if within a 0 (P.types.length-1)then P.types.getD a.toNat []else []
def aS.Dk(P:aS)(a b:Int):Option bu:=
 if within a 0 (P.types.length-1)&&within b 0 ((P.at a).length-1)then(P.at a)[b.toNat]? else none
def qA(P:Int):Int:=if P=1 then 1 else if P=2 then 2 else if P=3 then 3 else if P=4 then 3 else if P=5 then 4 else 0
def kV(a:aS)(b c op arg:Int):Int:=match a.Dk b c with
 |none=>8
 |some P=>if !within op 1 5||qA op !=P.kind then 2 else if op==1&&arg==0||op==5&& !within arg 0 (P.bz.length-1)then 1 else 0
def qO(P:aS):Bool:=
 if !within P.types.length 1 8||decide (8<P.projs.length)then true else
 P.types.any λb=>!within b.length 1 8||b.any λa=>if a.kind==4 then !within a.bz.length 1 16 else decide (0<a.bz.length)
def RC(a:List bu)(b P:Int):Bool:=within b 0 (a.length-1)&&((a[b.toNat]?).map (·.kind)==some P)
def QH(P a:Int):Bool:=a==1||a==2&&within P 2 4||a==3&&P==2
def fv(P:List bu)(f:bu):Int:=
 if !within f.kind 1 4 then 2 else if !within f.dW 1 3|| !QH f.kind f.dW||f.floor&&f.kind !=1 then 1 else
 if f.bz.any λm=>decide (m.bU<0)||decide (m.pF<0)||m.lb== -1&&m.least !=0 then 1 else
 if f.bz.any λm=>m.lb != -1&& !RC P m.lb 1 then 8 else 0
def lL(a:aS)(P:jo):Int:=
 if(a.Dk P.aY P.field).isNone then 8 else
 if P.group==3&& !RC (a.at P.aY) P.EN 2||P.group !=3&&P.EN !=0 then 8 else
 if !within P.group 1 3|| !within P.make 1 5 then 2 else 0
def cK{a:Type}(P:a->Int):List a->Int
 |[]=>0
 |x::b=>if P x !=0 then P x else cK P b
def dy(P:aS):Int:=
 if qO P then 3 else
 let a:=cK (λb=>cK (fv b) b) P.types
 if a !=0 then a else cK (lL P) P.projs
def aX(P:ah):Int×Int:=(P.origin,P.seq)
def eM(a P:ah):Bool:=decide (a.aB<P.aB)||a.aB==P.aB&&(decide (a.origin<P.origin)||a.origin==P.origin&&decide (a.seq<P.seq))
def sf(P a:ah):Int:=if eM P a then-1 else if eM a P then 1 else 0
def dh(P:ah)(a:Nat):Int:=
 if P.origin<0\/(a:Int)<=P.origin\/min P.seq P.aB<1\/min P.agg P.key<0\/P.aJ.length≠a\/P.aJ.any (λb=>decide (b<0))then 1 else
 if P.aJ.getD P.origin.toNat 0≠oT (P.seq-1)then 9 else
 if P.op<1\/5<P.op then 2 else if min P.aY P.field<0\/8<=P.aY\/8<=P.field then 8 else 0
def AL(P a:ah):Bool:=decide (P.seq<=fC a.aJ P.origin)
def uR(P a:ah):Bool:=aX P !=aX a&& !AL P a&& !AL a P
structure au where
 n:Nat
 l:List ah
def dH(P:ah):List ah->List ah
 |[]=>[P]
 |x::a=>if eM P x then P::x::a else x::dH P a
def au.Fg(P:au)(a:Nat):Nat:=P.l.countP λb=>b.origin==(a:Int)
def au.vec(P:au):List Int:=(List.range P.n).map λa=>(P.Fg a:Int)
def au.get(P:au)(id:Int×Int):Option ah:=P.l.find? λa=>aX a==id
def au.top(P:au):Int:=P.l.foldl (λa b=>max a b.aB) 0
def au.lO(e:au)(P:ah)(b:Nat):Bool:=
 let c:=P.aJ.getD b 0
 c==0||match e.get (b,c)with
  |none=>false
  |some a=>decide (a.aB<P.aB)&&(List.range a.aJ.length).all λd=>decide (a.aJ.getD d 0<=P.aJ.getD d 0)
def au.add(P:au)(a:ah):Int×au:=
 let no:=dh a P.n
 if no≠0 then(no,P)else
 if(P.get (aX a)).isSome then(16,P)else
 if a.seq≠(P.vec.getD a.origin.toNat 0)+1 then(9,P)else
 if(List.range P.n).any λb=>!P.lO a b then(9,P)else(0,{P with l:=dH a P.l})
def au.eE(P:au)(l:List ah):au:=l.foldl (λP a=>(P.add a).2) P
def au.missing(b:au)(c:List Int)(P:Int):List ah:=(b.l.filter λa=>decide (max 0 (fC c a.origin)<a.seq)).take (max 0 P).toNat
def au.keyed(P:au)(key:Int):Option ah:=P.l.find? λa=>key !=0&&a.key==key
def dX(P:List bu):List cY:=P.map λ_=>⟨0,[]⟩
def LX(P a:Int):Bool:=decide (P<oT (P+a))==decide (0<a)
def vX(f:List bu)(d:List cY)(P c arg:Int):Int:=
 let e:=f.getD P.toNat ⟨0,0,false,[]⟩
 let a:=d.getD P.toNat ⟨0,[]⟩
 let g:Bool:=
  if c=1 then(arg==0||LX a.n arg)&& !(e.floor&&decide (oT (a.n+arg)<0))
  else if c=3 then decide (arg∈a.set)||decide (a.set.length<64)
  else if c=5 then(let b:=e.bz.getD arg.toNat ⟨0,0,0,0⟩;a.n==b.bU&&(decide (b.lb<0)||decide (b.least<=(d.getD b.lb.toNat ⟨0,[]⟩).n)))
  else true
 if g then 0 else 10
def pN(P:Int):List Int->List Int
 |[]=>[P]
 |y::a=>if P<y then P::y::a else if P=y then y::a else y::pN P a
def RQ(d:List bu)(b:List cY)(P c arg:Int):List cY:=
 let e:=d.getD P.toNat ⟨0,0,false,[]⟩
 let a:=b.getD P.toNat ⟨0,[]⟩
 if c=1 then b.set P.toNat {a with n:=oT (a.n+arg)}
 else if c=2 then b.set P.toNat {a with n:=arg}
 else if c=3 then b.set P.toNat {a with set:=pN arg a.set}
 else if c=4 then b.set P.toNat {a with set:=a.set.filter λf=>f !=arg}
 else if c=5 then b.set P.toNat {a with n:=(e.bz.getD arg.toNat ⟨0,0,0,0⟩).pF}
 else b
def eO(b:bu)(a P:Int×Int):Bool:=
 if b.kind=2 then a.1==2&&P.1==2&&a !=P
 else if b.kind=4 then a.1==5&&P.1==5&&a !=P
 else if b.kind=3 then a==(3,P.2)&&P==(4,a.2)||a==(4,P.2)&&P==(3,a.2)
 else false
def lX(f:bu)(P a:ah):Bool:=(f.dW==2||f.dW==3&&decide (a.arg<P.arg))&&eO f (P.op,P.arg) (a.op,a.arg)&&uR P a
structure bg where
 decl:aS
 entries:List cR
 eL:List ((Int×Int)×lZ)
 done:List ((Int×Int×Int)×List ah)
def bg.new(P:aS):bg:=⟨P,[],[],[]⟩
def bg.try(a:bg)(P:ah):Bool×(Int×Int)×bg:=
 if kV a.decl P.aY P.field P.op P.arg≠0 then(true,(0,0),a)else
 let d:=a.decl.at P.aY
 let c:=(P.aY,P.agg,P.field)
 match((aq a.done c).getD []).find? λf=>lX (d.getD P.field.toNat ⟨0,0,false,[]⟩) f P with
 |some f=>(true,aX f,a)
 |none=>
  let e:=aq a.eL (P.aY,P.agg)
  let b:=match e with
   |some e=>e.cells
   |none=>dX d
  if vX d b P.field P.op P.arg≠0 then(true,(0,0),a)else
  (false,(0,0),{a with
   eL:=aI a.eL (P.aY,P.agg) ⟨oT ((e.getD ⟨0,[]⟩).version+1),RQ d b P.field P.op P.arg⟩
   done:=aI a.done c ((aq a.done c).getD []++[P])})
def bg.add(c:bg)(a:ah):cR×bg:=
 let P:=c.try a
 let b:cR:=⟨a,P.1,P.2.1⟩
 (b,{P.2.2 with entries:=P.2.2.entries++[b]})
def bg.state(P:bg)(a b:Int):Option lZ:=aq P.eL (a,b)
def cD(P:aS)(a:List ah):bg:=a.foldl (λb c=>(b.add c).2) (bg.new P)
def kp(c:List cR)(d a e:Int)(P:Nat):List cR×Bool:=
 let own:=(c.filter λb=>b.ev.aY==d&&b.ev.agg==a).drop (max e 0).toNat
 (own.take P,decide (P<own.length))
def nu(c:List dR)(P:Int)(a:Nat):List dR×Bool:=
 let b:=c.dropWhile λd=>decide (d.group<=P)
 (b.take a,decide (a<b.length))
def jt(a:aS)(P:lf):Int:=if P.agg<0\/P.key<0\/P.expect< -1 then 1 else kV a P.aY P.field P.op P.arg
def aZ(a:lf)(P:Int)(b:List Int)(c:Int):Int×ah:=
 let no:ah:=⟨0,0,0,[],0,0,0,0,0,0⟩
 if P<0\/(b.length:Int)<=P\/c<0 then(1,no)else
 if fC b P=9223372036854775807\/c=9223372036854775807 then(13,no)else
 (0,⟨P,fC b P+1,c+1,jX b [],a.aY,a.agg,a.field,a.op,a.arg,a.key⟩)
def lD(e:aS)(c:au)(i:bg)(a start:Int)(P:lf):ah×Bool×Int:=
 let no:ah:=⟨0,0,0,[],0,0,0,0,0,0⟩
 let f:=jt e P
 if f≠0 then(no,false,f)else
 match c.keyed P.key with
 |some j=>(j,false,0)
 |none=>
  let g:=e.at P.aY
  let h:=i.state P.aY P.agg
  let b:=match h with
   |some k=>k.cells
   |none=>dX g
  if¬(P.expect= -1\/P.expect=(h.getD ⟨0,[]⟩).version)then(no,false,11)else
  if vX g b P.field P.op P.arg≠0 then(no,false,10)else
  let d:=aZ P a c.vec (max c.top start)
  (d.2,decide (d.1=0),d.1)
structure dK where
 p:jo
 rows:List (Int×dR)
def lI(P:jo)(a:dR)(arg:Int):Int:=
 if P.make=1 then a.count else if P.make=2 then oT (a.value+arg)else
 if P.make=5\/a.count=1/\(P.make=3\/P.make=4)then arg else
 if P.make=3 then min a.value arg else if P.make=4 then max a.value arg else 0
def dK.add(P:dK)(e:cR)(c:Int):dK:=
 let b:=if P.p.group=1 then some e.ev.agg else if P.p.group=2 then some e.ev.arg else if P.p.group=3 then some c else none
 match b with
 |none=>P
 |some b=>
  if e.void||e.ev.aY !=P.p.aY||e.ev.field !=P.p.field then P else
  let a:=(aq P.rows b).getD ⟨0,0,0⟩
  let a:dR:=⟨b,a.value,oT (a.count+1)⟩
  {P with rows:=aI P.rows b ⟨b,lI P.p a e.ev.arg,a.count⟩}
def mq(P:dR):List dR->List dR
 |[]=>[P]
 |y::a=>if P.group<y.group then P::y::a else y::mq P a
def dK.list(P:dK):List dR:=(P.rows.map (·.2)).foldr mq []
structure jT where
 view:bg
 rows:List dK
def jT.new(P:aS):jT:=⟨bg.new P,P.projs.map λa=>⟨a,[]⟩⟩
def se(P:Option lZ)(a:jo):Int:=match P with
 |none=>0
 |some P=>((P.cells[a.EN.toNat]?).map (·.n)).getD 0
def jT.add(b:jT)(P:ah):jT:=
 let a:=b.view.add P
 let d:=a.2.state P.aY P.agg
 ⟨a.2,b.rows.map λc=>c.add a.1 (se d c.p)⟩
def et(P:aS)(a:List ah):jT:=a.foldl jT.add (jT.new P)
def eN(P:Nat)(a:List ah)(b:ah):Bool×List ah:=
 if P<=a.length\/a.any (λc=>aX c==aX b)then(false,a)else(true,dH b a)
def dI(P:au):List ah->Option (ah×au×List ah)
 |[]=>none
 |e::b=>if(P.add e).1=0 then some (e,(P.add e).2,b)else(dI P b).map λa=>(a.1,a.2.1,e::a.2.2)
def dm:Nat->au->List ah->List ah->List ah×List ah
 |0,b,a,P=>(P,a)
 |k+1,b,a,P=>match dI b a with
  |none=>(P,a)
  |some (c,d,e)=>dm k d e (P++[c])
def bH(a:au)(P:List ah):List ah×List ah:=
 let P:=P.filter λb=>(a.get (aX b)).isNone
 dm (P.length+1) a P []
structure dd where
 kind:Int
 bU:Int
 pF:Int
 vec:List Int
 events:List ah
def gT(P:dd)(a:Int):Int:=if 0<P.events.length then 8 else if(P.vec.length:Int)≠a then 1 else if P.vec.any (λb=>decide (b<0))then 1 else 0
def eS(a:dd)(b:Nat)(P:Int):Int:=if 0<a.vec.length then 8 else if a.events.length<1\/P<(a.events.length:Int)then 3 else cK (λc=>dh c b) a.events
def eR(m:dd)(b:Nat)(a:Int):Int:=
 let P:=!(decide (0<=m.bU)&&decide (m.bU<b))|| !(decide (0<=m.pF)&&decide (m.pF<b))||m.bU==m.pF
 if m.kind=3 then(if P then 1 else eS m b a)
 else if m.kind=1\/m.kind=2\/m.kind=4 then(if P then 1 else gT m b)
 else 2
def km(P:au)(a b:Int):dd:=⟨1,a,b,P.vec,[]⟩
def y_(P:au)(a b:Int):dd:=⟨4,a,b,P.vec,[]⟩
def lH(d:au)(P:Int)(a:dd)(b:Int):List dd:=
 if a.kind≠1/\a.kind≠2 then []else
 let e:=d.missing a.vec (max 1 (min b 32))
 let g:List dd:=if 0<e.length then [⟨3,P,a.bU,[],e⟩]else []
 let f:=qP a.vec d.vec
 let h:List dd:=if a.kind=1/\(f=2\/f=3)then [⟨2,P,a.bU,d.vec,[]⟩]else []
 let c:=g++h
 if c.isEmpty then [y_ d P a.bU]else c
def FT:(if q<e then q else e)=min e q:=oM
def Se{D:ZN}(j:Row aM 8 b D d a s):
  YX 200 #[.slice d a c,.func (.func 199) #[] #[]] b (Ok λh P=>h= .bool (s.any λe=>decide (e<0))/\b=P):=by
 have w:=j.len;have q:=j.dO;unfold aO at q;refine ju (PC.ok (φ:=λh P=>(∃g:Int,h= ZH g/\(0<=g↔(s.any λe=>decide (e<0))=true))/\b=P) (kC ⟨λm g P=>∃f:Nat,g=f/\f<=a/\m=a-f/\((s.take f).any λe=>decide (e<0))=false/\b=P,
  ⟨_,0,rfl,Qj _,rfl,sM,rfl⟩,?_⟩) ?_)
 ·rintro m g _ _ ⟨f,rfl,x,rfl,k,rfl⟩
  refine al.dec (λr=>?_) (λr=>?_)
  ·obtain⟨t,l,n,rfl,o,_,u⟩:=j.lN (i:=f) oM
   refine⟨t,l,rfl,oM,oM,_,u,199,_,_,rfl,kR,PC.ok (φ:=λh P=>h= .bool (decide (n<0))/\b=P) (yN (Ok.mk ⟨rfl,rfl⟩)) ?_⟩;rintro _ _ ⟨rfl,rfl⟩;refine⟨_,rfl,al.dec (λp=>?_) (λp=>?_)⟩
   ·exact Ok.mk ⟨⟨_,rfl,λ_=>List.any_eq_true.2 ⟨n,QZ o,by simpa using p⟩,λ_=>oM⟩,rfl⟩
   ·refine⟨_,oM,f+1,an oM,oM,rfl,?_,rfl⟩
    rw[Qw,o,List.any_append,k];simp;omega
  ·rw[Qz oM]at k
   exact Ok.mk ⟨⟨_,rfl,λi=>oM,λi=>by rw[k]at i;cases i⟩,rfl⟩
 ·rintro _ _ ⟨⟨g,rfl,v⟩,rfl⟩
  exact⟨_,rfl,Ok.mk ⟨by cases i:(s.any λe=>decide (e<0))<;>simp[i]at v⊢<;>omega,rfl⟩⟩
def xB{D:ZN}(m:Row aM 8 b D d a l.aJ)(I:i<4611686018427387904):
  YX 140 #[.agg (aD l d a c).toArray,ZH (i:Int)] b (Ok λj k=>j= ZH (dh l i)/\ai b k):=by
 have J:=m.len;have x:=m.dO;unfold aO at x;refine CI (PA.mk λy n K g=>⟨_,ae g rfl,?_⟩);have f:(l.origin<0\/(i:Int)<=l.origin\/min l.seq l.aB<1\/min l.agg l.key<0\/l.aJ.length≠i\/l.aJ.any (λp=>decide (p<0))=true)->Ok (λj k=>j= ZH (dh l i)/\ai b k) (.returned (ZH 1)) y:=λP=>by
  refine Ok.mk ⟨?_,n⟩;unfold dh;rw[Zx P]
 refine al.dec (λP=>f (.inl P)) λL=>⟨_,ae g rfl,al.dec (λP=>f (.inr (.inl P))) λM=>⟨_,ae g rfl,_,ae g rfl,?_⟩⟩
 with_reducible (conv=>whnf)
 rw[FT];refine al.dec (λP=>f (.inr (.inr (.inl P)))) λN=>⟨_,ae g rfl,_,ae g rfl,?_⟩
 with_reducible (conv=>whnf)
 rw[FT];refine al.dec (λP=>f (.inr (.inr (.inr (.inl P))))) λO=>⟨_,_,_,ae g rfl,al.dV (λP=>f (.inr (.inr (.inr (.inr (.inl oM)))))) λQ=>⟨_,_,_,ae g rfl,PC.ok (Se (m.af n)) ?_⟩⟩
 rintro _ _ ⟨rfl,rfl⟩;refine⟨_,rfl,al.mk (λP=>f (.inr (.inr (.inr (.inr (.inr P)))))) λz=>⟨_,_,_,ae g rfl,_,ae g rfl,?_⟩⟩;obtain⟨A,q,B,rfl,C,R,E⟩:=(m.af n).lN (i:=l.origin.toNat) oM;have t:¬(l.origin<0\/(i:Int)<=l.origin\/min l.seq l.aB<1\/min l.agg l.key<0\/l.aJ.length≠i\/l.aJ.any (λp=>decide (p<0))=true):=by
  rw[z];simp only[Bool.false_eq_true,or_false,not_or];omega
 refine⟨A,q,rfl,oM,oM,_,E,_,ae g rfl,λu v=>?_⟩;have F:ai b u:=n.then v.keep;have h:=(bX.keep (S:=λ_=>False) v).get g id;have w:l.aJ.getD l.origin.toNat 0=B:=by rw[QQ,C];rfl
 have e:∀r:Int,dh l i=r->Ok (λj k=>j= ZH (dh l i)/\ai b k) (.returned (ZH r)) u:=λr P=>Ok.mk ⟨by rw[P],F⟩;refine al.dV (λP=>e 9 (by unfold dh;rw[Zq t,w,Zx P])) λH=>⟨_,ae h rfl,?_⟩
 have s:dh l i=if l.op<1\/5<l.op then 2 else if min l.aY l.field<0\/8<=l.aY\/8<=l.field then 8 else 0:=by
  unfold dh;rw[Zq t,w,Zq (by simpa using H)]
 refine al.dec (λP=>e 2 (by rw[s,Zx (.inl P)])) λS=>⟨_,ae h rfl,al.dec (λP=>e 2 (by rw[s,Zx (.inr P)])) λT=>⟨_,ae h rfl,_,ae h rfl,?_⟩⟩
 with_reducible (conv=>whnf)
 rw[FT];have o:dh l i=if min l.aY l.field<0\/8<=l.aY\/8<=l.field then 8 else 0:=by rw[s,Zq oM]
 refine al.dec (λP=>e 8 (by rw[o,Zx (.inl P)])) λU=>⟨_,ae h rfl,al.dec (λP=>e 8 (by rw[o,Zx (.inr (.inl P))])) λV=>⟨_,ae h rfl,al.dec (λP=>e 8 (by rw[o,Zx (.inr (.inr P))])) λW=>e 0 (by rw[o,Zq oM])⟩⟩
end
end Go.Proofs.YtblabbpipmodgaaGreatDoor
namespace Go.aw
open Go
def Wc(a P:Value):Bool:=match a with
 | .int b _=>match P with
  | .int c _=>decide (c=b)
  |_=>false
 | .bool _=>match P with
  | .bool _=>true
  |_=>false
 | .string _=>match P with
  | .string _=>true
  |_=>false
 | .slice _ _ _=>match P with
  | .slice _ _ _=>true
  |_=>false
 | .pointer _=>match P with
  | .pointer _=>true
  |_=>false
 | .map _=>match P with
  | .map _=>true
  |_=>false
 |_=>true
def UP:List Value->List Value->Bool
 |[],[]=>true
 |z::P,a::b=>Wc z a&&UP P b
 |_,_=>false
def RG(z P:Value):Bool:=match z with
 | .agg a=>match P with
  | .agg cs=>UP a.toList cs.toList
  |_=>false
 |z=>Wc z P
variable{p:Array Value}{a c:Nat}{C:Nat×Nat}{h:Program}{g n:TypeId}{c0 u:Value}{T:Value->Prop}{b:World}{x:ZU}
def Ro{φ:Value->Prop}(a:Wc u c0=true)(P:φ c0):ON u φ:=by
 unfold ON
 cases u<;>cases c0<;>simp[Wc]at a<;>first
  |exact⟨_,P⟩
  |exact⟨_,_,_,P⟩
  |(subst a;exact⟨_,P⟩)
def LJ:∀{a cs:List Value} {φ:List Value->Prop},UP a cs=true->φ cs->Qi a φ
 |[],[],φ,_,b=>b
 |[],_::_,φ,P,_=>by simp[UP]at P
 |_::_,[],φ,P,_=>by simp[UP]at P
 |z::a,c::e,φ,P,b=>by
  simp only[UP,QK]at P;exact Ro (φ:=λc=>Qi a λd=>φ (c::d)) P.1 (LJ (φ:=λd=>φ (c::d)) P.2 b)
def cm(P:RG u c0=true)(a:T c0):Cx u T:=by
 unfold Cx;split
 ·rename_i d
  cases c0<;>simp[RG]at P
  rename_i cs;exact LJ (φ:=λb=>T (.agg b.toArray)) P (by simpa using a)
 ·rename_i c
  refine Ro ?_ a
  cases u<;>first|exact P|exact Zz rfl (c _)
def ye{c:World}{d:Addr}{e:Prop}:∀{cs:List Value} {P:Nat},(∀a v,cs[a]? =some v->c.cell? (d.add (P+a))=some v)->e->iz c d P cs e
 |[],P,_,b=>b
 |v::i,P,f,b=>⟨f 0 v rfl,ye (λa g h=>by have:=f (a+1) g (by simpa using h);rwa [show P+1+a=P+(a+1) by omega]) b⟩
def iI(P:Program)(a:TypeId)(cs:List Value):Bool:=tQ P a&&(match fD P a with
 | .agg b=>Nat.beq (lE P a) b.size&&UP b.toList cs
 |_=>false)&&Nat.beq cs.length (lE P a)&&cs.all Value.oneCell'
def LK{cs:List Value}(f:iI h g cs=true)(j:∀d e,cs[d]? =some e->b.cell? ⟨a,c+d,none⟩=some e)(k:T (.agg cs.toArray)):
  oW h g (.pointer (some ⟨a,c,none⟩)) b T:=by
 simp only[iI,QK]at f;obtain⟨⟨⟨l,P⟩,n⟩,o⟩:=f;unfold oW;simp only[l]
 revert P
 cases fD h g<;>simp only[Bool.false_eq_true,false_implies]
 rename_i p;intro P;simp only[QK]at P;simp only[P.1];exact LJ (φ:=λi=>iz b ⟨a,c,none⟩ 0 i (T (.agg i.toArray))) P.2 (ye (λd e m=>by rw[Xz,Addr.add_lit];exact j d e m) k)
def ar{cs:List Value}(P:iI h g cs=true)(c:b.heap[a]? =some (.cells cs.toArray n C))(d:T (.agg cs.toArray)):
  oW h g (ZL a) b T:=LK P (λf i e=>ae c (by rw[Xz];simpa using e)) d
def UD{cs:List Value}(e:iI h g cs=true)(f:b.heap[a]? =some (.cells p n C))(i:∀P d,cs[P]? =some d->p[c+P]? =some d)(j:T (.agg cs.toArray)):
  oW h g (.pointer (some ⟨a,c,none⟩)) b T:=LK e (λP d k=>ae f (i P d k)) j
def bB{a c k:Nat}{es:List Value}(e:iI h g es=true)(f:es.length=k)(i:∀P,P<k->b.cell? ⟨a,c+P,none⟩=es[P]?)(j:T (.agg es.toArray)):
  oW h g (.pointer (some ⟨a,c,none⟩)) b T:=LK e (λP l d=>by rw[i P (by rw[<-f];exact(Qv.1 d).1)];exact d) j
def EI{c e:Nat}{h:TypeId}{i:ZU}:∀(b:List Value) (a:Nat) {P:World} {cs:Array Value},P.heap[c]? =some (.cells cs h (0,0))->e+a+b.length<=cs.size->
  (∀d,aj (·=c) P d->d.heap.size=P.heap.size->d.heap[c]? =some (.cells (Ch cs (e+a) b) h (0,0))->i d)->jh ⟨c,e,none⟩ a b P i
 |[],a,P,cs,f,j,g=>g P (aj.refl _) rfl f
 |v::b,a,P,cs,f,j,g=>by
  unfold jh;rw[Addr.add_lit];rw[Xq]at j;exact PS.mk f oM λr k l m=>EI b (a+1) m bc λn o p q=>g n (k.then o) (p.trans l) q
def UQ{cs:List Value}(d:iI h g cs=true)(e:b.heap[a]? =some (.cells p n (0,0)))(o:c+cs.length<=p.size)(f:∀P,aj (·=a) b P->P.heap.size=b.heap.size->P.heap[a]? =some (.cells (Ch p c cs) n (0,0))->x P):yo h g (.pointer (some ⟨a,c,none⟩)) (.agg cs.toArray) b x:=by
 simp only[iI,QK]at d;obtain⟨⟨⟨i,q⟩,j⟩,k⟩:=d;unfold yo;have l:Nat.beq cs.toArray.size (lE h g)=true:=by simpa using j
 have m:cs.toArray.toList.all Value.oneCell'=true:=by simpa using k
 simp only[i,l,m];exact EI cs 0 e oM f
def aC{cs:List Value}(c:iI h g cs=true)(d:b.heap[a]? =some (.cells p n (0,0)))(e:cs.length=p.size)(f:∀P,aj (·=a) b P->P.heap.size=b.heap.size->P.heap[a]? =some (.cells cs.toArray n (0,0))->x P):yo h g (ZL a) (.agg cs.toArray) b x:=
 UQ c d oM λP i j k=>f P i j (by rw[k,EH e])
end Go.aw
namespace Go.Proofs
open Go.Shelf
def Tryz.OA:Go.Shelf.Ren:=⟨λ|6=>149|15=>207|14=>206|28=>275|29=>276|20=>267|21=>268|22=>269|23=>270|24=>271|25=>272|26=>273|27=>274|46=>306|47=>307|48=>308|49=>309|50=>310|57=>330|n=>n,λ|22=>50|24=>55|25=>249|3=>3|39=>311|0=>0|53=>357|55=>359|4=>4|46=>351|45=>350|50=>180|5=>5|9=>9|66=>386|70=>379|76=>406|77=>407|n=>n,λ|n=>n⟩
def Tryz.TN:Go.Proofs.SlLaysF0.n6 Tryz.prog Tryz.OA:={
 mixed:=by kernel_rfl
 f6:=⟨Tryz.f149.name,am,Tryz.func149.trans ac⟩
 f14:=⟨Tryz.f206.name,am,Tryz.func206.trans ac⟩
 f15:=Tryz.func207.trans ac
 f20:=⟨Tryz.f267.name,am,Tryz.func267.trans ac⟩
 f21:=⟨Tryz.f268.name,am,Tryz.func268.trans ac⟩
 f22:=⟨Tryz.f269.name,am,Tryz.func269.trans ac⟩
 f23:=⟨Tryz.f270.name,am,Tryz.func270.trans ac⟩
 f24:=⟨Tryz.f271.name,am,Tryz.func271.trans ac⟩
 f25:=⟨Tryz.f272.name,am,Tryz.func272.trans ac⟩
 f26:=⟨Tryz.f273.name,am,Tryz.func273.trans ac⟩
 f27:=⟨Tryz.f274.name,am,Tryz.func274.trans ac⟩
 f28:=Tryz.func275.trans ac
 f29:=Tryz.func276.trans ac
 f46:=⟨Tryz.f306.name,am,Tryz.func306.trans ac⟩
 f47:=Tryz.func307.trans ac
 f48:=Tryz.func308.trans ac
 f49:=⟨Tryz.f309.name,am,Tryz.func309.trans ac⟩
 f50:=⟨Tryz.f310.name,am,Tryz.func310.trans ac⟩
 f57:=⟨Tryz.f330.name,am,Tryz.func330.trans ac⟩
 t0:=Tryz.underlying0
 a0:=Tryz.isAgg0
 z0:=Tryz.sizeOf0
 v0:=Tryz.zeroValue0
 t3:=Tryz.underlying3
 a3:=Tryz.isAgg3
 z3:=Tryz.sizeOf3
 v3:=Tryz.zeroValue3
 t4:=Tryz.underlying4
 a4:=Tryz.isAgg4
 z4:=Tryz.sizeOf4
 v4:=Tryz.zeroValue4
 t5:=Tryz.underlying5
 a5:=Tryz.isAgg5
 z5:=Tryz.sizeOf5
 v5:=Tryz.zeroValue5
 t9:=Tryz.underlying9
 a9:=Tryz.isAgg9
 z9:=Tryz.sizeOf9
 v9:=Tryz.zeroValue9
 t22:=Tryz.underlying50
 a22:=Tryz.isAgg50
 z22:=Tryz.sizeOf50
 v22:=Tryz.zeroValue50
 t25:=Tryz.underlying249
 a25:=Tryz.isAgg249
 z25:=Tryz.sizeOf249
 v25:=Tryz.zeroValue249
 t39:=Tryz.underlying311
 a39:=Tryz.isAgg311
 z39:=Tryz.sizeOf311
 v39:=Tryz.zeroValue311
 t45:=Tryz.underlying350
 a45:=Tryz.isAgg350
 z45:=Tryz.sizeOf350
 v45:=Tryz.zeroValue350
 t46:=Tryz.underlying351
 a46:=Tryz.isAgg351
 z46:=Tryz.sizeOf351
 v46:=Tryz.zeroValue351
 t50:=Tryz.underlying180
 a50:=Tryz.isAgg180
 z50:=Tryz.sizeOf180
 v50:=Tryz.zeroValue180
 t53:=Tryz.underlying357
 a53:=Tryz.isAgg357
 z53:=Tryz.sizeOf357
 v53:=Tryz.zeroValue357
 t55:=Tryz.underlying359
 a55:=Tryz.isAgg359
 z55:=Tryz.sizeOf359
 v55:=Tryz.zeroValue359
 t66:=Tryz.underlying386
 a66:=Tryz.isAgg386
 z66:=Tryz.sizeOf386
 v66:=Tryz.zeroValue386
 t70:=Tryz.underlying379
 a70:=Tryz.isAgg379
 z70:=Tryz.sizeOf379
 v70:=Tryz.zeroValue379
 t76:=Tryz.underlying406
 a76:=Tryz.isAgg406
 z76:=Tryz.sizeOf406
 v76:=Tryz.zeroValue406
 t77:=Tryz.underlying407
 a77:=Tryz.isAgg407
 z77:=Tryz.sizeOf407
 v77:=Tryz.zeroValue407}
def Tryz.OB:Go.Shelf.Ren:=⟨λ|6=>395|15=>207|14=>397|28=>275|29=>276|20=>398|21=>399|22=>400|23=>401|24=>402|25=>403|26=>404|27=>405|46=>406|47=>307|48=>308|49=>407|50=>408|57=>409|n=>n,λ|22=>44|24=>269|25=>451|3=>3|39=>311|0=>0|53=>357|55=>359|4=>4|46=>351|45=>350|50=>180|5=>5|9=>9|66=>386|70=>379|76=>406|77=>407|n=>n,λ|n=>n⟩
def Tryz.TO:Go.Proofs.SlLaysF0.n6 Tryz.prog Tryz.OB:={
 mixed:=by kernel_rfl
 f6:=⟨Tryz.f395.name,am,Tryz.func395.trans ac⟩
 f14:=⟨Tryz.f397.name,am,Tryz.func397.trans ac⟩
 f15:=Tryz.func207.trans ac
 f20:=⟨Tryz.f398.name,am,Tryz.func398.trans ac⟩
 f21:=⟨Tryz.f399.name,am,Tryz.func399.trans ac⟩
 f22:=⟨Tryz.f400.name,am,Tryz.func400.trans ac⟩
 f23:=⟨Tryz.f401.name,am,Tryz.func401.trans ac⟩
 f24:=⟨Tryz.f402.name,am,Tryz.func402.trans ac⟩
 f25:=⟨Tryz.f403.name,am,Tryz.func403.trans ac⟩
 f26:=⟨Tryz.f404.name,am,Tryz.func404.trans ac⟩
 f27:=⟨Tryz.f405.name,am,Tryz.func405.trans ac⟩
 f28:=Tryz.func275.trans ac
 f29:=Tryz.func276.trans ac
 f46:=⟨Tryz.f406.name,am,Tryz.func406.trans ac⟩
 f47:=Tryz.func307.trans ac
 f48:=Tryz.func308.trans ac
 f49:=⟨Tryz.f407.name,am,Tryz.func407.trans ac⟩
 f50:=⟨Tryz.f408.name,am,Tryz.func408.trans ac⟩
 f57:=⟨Tryz.f409.name,am,Tryz.func409.trans ac⟩
 t0:=Tryz.underlying0
 a0:=Tryz.isAgg0
 z0:=Tryz.sizeOf0
 v0:=Tryz.zeroValue0
 t3:=Tryz.underlying3
 a3:=Tryz.isAgg3
 z3:=Tryz.sizeOf3
 v3:=Tryz.zeroValue3
 t4:=Tryz.underlying4
 a4:=Tryz.isAgg4
 z4:=Tryz.sizeOf4
 v4:=Tryz.zeroValue4
 t5:=Tryz.underlying5
 a5:=Tryz.isAgg5
 z5:=Tryz.sizeOf5
 v5:=Tryz.zeroValue5
 t9:=Tryz.underlying9
 a9:=Tryz.isAgg9
 z9:=Tryz.sizeOf9
 v9:=Tryz.zeroValue9
 t22:=Tryz.underlying44
 a22:=Tryz.isAgg44
 z22:=Tryz.sizeOf44
 v22:=Tryz.zeroValue44
 t25:=Tryz.underlying451
 a25:=Tryz.isAgg451
 z25:=Tryz.sizeOf451
 v25:=Tryz.zeroValue451
 t39:=Tryz.underlying311
 a39:=Tryz.isAgg311
 z39:=Tryz.sizeOf311
 v39:=Tryz.zeroValue311
 t45:=Tryz.underlying350
 a45:=Tryz.isAgg350
 z45:=Tryz.sizeOf350
 v45:=Tryz.zeroValue350
 t46:=Tryz.underlying351
 a46:=Tryz.isAgg351
 z46:=Tryz.sizeOf351
 v46:=Tryz.zeroValue351
 t50:=Tryz.underlying180
 a50:=Tryz.isAgg180
 z50:=Tryz.sizeOf180
 v50:=Tryz.zeroValue180
 t53:=Tryz.underlying357
 a53:=Tryz.isAgg357
 z53:=Tryz.sizeOf357
 v53:=Tryz.zeroValue357
 t55:=Tryz.underlying359
 a55:=Tryz.isAgg359
 z55:=Tryz.sizeOf359
 v55:=Tryz.zeroValue359
 t66:=Tryz.underlying386
 a66:=Tryz.isAgg386
 z66:=Tryz.sizeOf386
 v66:=Tryz.zeroValue386
 t70:=Tryz.underlying379
 a70:=Tryz.isAgg379
 z70:=Tryz.sizeOf379
 v70:=Tryz.zeroValue379
 t76:=Tryz.underlying406
 a76:=Tryz.isAgg406
 z76:=Tryz.sizeOf406
 v76:=Tryz.zeroValue406
 t77:=Tryz.underlying407
 a77:=Tryz.isAgg407
 z77:=Tryz.sizeOf407
 v77:=Tryz.zeroValue407}
def Tryz.LI:Go.Shelf.Ren:=⟨λ|5=>298|7=>329|n=>n,λ|23=>286|25=>3|3=>269|4=>4|20=>20|n=>n,λ|n=>n⟩
def Tryz.UE:Go.Proofs.SlLaysW.n5 Tryz.prog Tryz.LI:={
 mixed:=by kernel_rfl
 f5:=⟨Tryz.f298.name,am,Tryz.func298.trans ac⟩
 f7:=Tryz.func329.trans ac
 t4:=Tryz.underlying4
 a4:=Tryz.isAgg4
 z4:=Tryz.sizeOf4
 v4:=Tryz.zeroValue4
 t20:=Tryz.underlying20
 a20:=Tryz.isAgg20
 z20:=Tryz.sizeOf20
 v20:=Tryz.zeroValue20
 t23:=Tryz.underlying286
 a23:=Tryz.isAgg286
 z23:=Tryz.sizeOf286
 v23:=Tryz.zeroValue286}
end Go.Proofs
namespace Go.Proofs.YtblabbpipmodgaaGreatDoor
open Go.aw Go.Sort
def bf(P:ah)(a:YQ)(b c:Nat):iI ZP 55 (aD P a b c)=true:=kR
def rA(P:ah)(a:YQ)(b c:Nat):RG (fD ZP 55) (.agg (aD P a b c).toArray)=true:=kR
def G(P a:World):Prop:=∃b c,a=grow (P.drewN b) c
variable{z:ZT}{O e q:Int}{d3:Int×Int}{g9:List ((Int×Int)×ah)}{B e0:List ah}{a c i o:Nat}{f:ZN}{c4:Obj}{d r:YQ}{g:TypeId}{a9 b k:World}{x:ZU}{K l:ah}{E:au}
def G.then(e:G b k)(f:G k a9):G b a9:=by
 obtain⟨P,a,rfl⟩:=e;obtain⟨c,d,rfl⟩:=f;exact⟨P+c,a++d,by show grow (grow ((b.drewN P).drewN c) a) d=_;rw[grow_grow,World.drewN_drewN]⟩
def G.keep{S:ZN}(P:G b k):aj S b k:=by
 obtain⟨e,a,rfl⟩:=P;refine⟨rfl,rfl,rfl,by simp[grow],λc d _=>?_⟩;show(b.heap++a)[c]? =_;rw[Array.getElem?_append_left d]
def G.drew(P:bX b k):G b k:=by obtain⟨a,rfl⟩:=P;exact⟨a,#[],sM⟩
def PA.VO(a:∀P,G b P->P.heap.size=b.heap.size+1->P.heap[b.heap.size]? =some c4->x P):PA b c4 x:=
 a (b.alloc c4) ⟨0,#[c4],by rw[alloc_eq_grow];rfl⟩ sM (heap_alloc_new b c4)
def isNaN:YX 277 #[ZH e] b (Ok λP a=>P= .bool false/\b=a):=yQ (Ok.mk ⟨sM,rfl⟩)
def Js(P a:Int):Int:=if P<a then-1 else if a<P then 1 else 0
def gO:YX 209 #[ZH e,ZH q] b (Ok λc d=>c= ZH (Js e q)/\b=d):=by
 refine uI (PC.ok isNaN ?_);rintro _ _ ⟨rfl,rfl⟩;refine⟨_,rfl,PC.ok isNaN ?_⟩;rintro _ _ ⟨rfl,rfl⟩;refine⟨_,rfl,al.ff rfl (al.ff rfl (al.dec (λP=>Ok.mk ⟨by unfold Js;rw[Zx P],rfl⟩) (λP=>al.dec (λa=>Ok.mk ⟨by unfold Js;rw[Zq P,Zx a],rfl⟩) (λa=>Ok.mk ⟨by unfold Js;rw[Zq P,Zq a],rfl⟩))))⟩
def MK:List Int->Int
 |[]=>0
 |x::P=>if x≠0 then x else MK P
def O_(r:b.heap[a]? =some (.cells #[ZH e,ZH q,ZH O] g (0,0))):
  YX 208 #[.slice (ZM a) 3 3] b (Ok λi f=>i= ZH (MK [e,q,O])/\b=f):=by
 refine FL ⟨λl d f=>∃P:Nat,d=P/\P<=3/\l=3-P/\MK [e,q,O]=MK ([e,q,O].drop P)/\b=f,⟨_,0,rfl,oM,rfl,rfl,rfl⟩,?_⟩;rintro l d _ _ ⟨P,rfl,w,rfl,j,rfl⟩;refine al.dec (λs=>?_) (λs=>?_)
 ·have t:∀h:Int,[e,q,O][P]? =some h->∃m n,(ZM a:YQ)=some ⟨m,n,none⟩/\(0:Int)<=P/\(P:Int)<((3:Nat):Int)/\∃k:Int,b.cell? ⟨m,n+Int.toNat P,none⟩=some (ZH k)/\al (k !=0) (Ok (λi f=>i= ZH (MK [e,q,O])/\b=f) (.returned (ZH k)) b) (∃o,o<3-P/\∃d:Nat,ZG .i64 ((P:Int)+1)=d/\d<=3/\o=3-d/\MK [e,q,O]=MK ([e,q,O].drop d)/\b=b):=by
   intro h c;have p:[e,q,O].drop P=h::[e,q,O].drop (P+1):=by
    rw[X4 bc];congr 1;simpa using(Qv.1 c).2
   refine⟨a,0,rfl,oM,oM,h,ae r ?_,al.dV (λu=>Ok.mk ⟨?_,rfl⟩) (λv=>⟨_,oM,P+1,an oM,oM,rfl,?_,rfl⟩)⟩
   ·rw[Xz]
    match P,c with
    |0,c=>simp at c;simp[c]
    |1,c=>simp at c;simp[c]
    |2,c=>simp at c;simp[c]
    |P+3,c=>simp at c
   ·rw[j,p,MK,Zx u]
   ·rw[j,p,MK,Zq (by simpa using v)]
  have c:P<[e,q,O].length:=by simp;omega
  exact t [e,q,O][P] (by simp[c])
 ·obtain rfl:P=3:=oM
  exact Ok.mk ⟨by rw[j];rfl,rfl⟩
def Hp(P a:ah):MK [Js P.aB a.aB,Js P.origin a.origin,Js P.seq a.seq]=sf P a:=by
 unfold sf eM Js MK MK MK MK
 by_cases e:P.aB<a.aB
 ·simp[e]
 by_cases h:a.aB<P.aB
 ·simp[e,h];omega
 have b:P.aB=a.aB:=oM
 by_cases f:P.origin<a.origin
 ·simp[b,f]
 by_cases i:a.origin<P.origin
 ·simp[b,f,i];omega
 have c:P.origin=a.origin:=oM
 by_cases d:P.seq<a.seq
 ·simp[b,c,d]
 by_cases g:a.seq<P.seq
 ·simp[b,c,d,g]
 ·simp[b,c,d,g]
def Ce:YX 150 #[.agg (aD l d a c).toArray,.agg (aD K r i o).toArray] b (Ok λj k=>j= ZH (sf l K)/\G b k):=by
 refine wB (PA.VO λt m u n=>PA.VO λv g w p=>λx q=>⟨λ_=>False,?_⟩);have P:=G.drew q;have e:=(P.keep (S:=λ_=>False)).get ((g.keep (S:=λ_=>False)).get n id) id;have f:=(P.keep (S:=λ_=>False)).get p id;refine⟨_,ae e rfl,_,ae f rfl,id,_,ae e rfl,id,_,ae f rfl,id,_,ae e rfl,id,_,ae f rfl,PC.ok gO ?_⟩;rintro _ _ ⟨rfl,rfl⟩;refine⟨_,rfl,aj.refl _,PC.ok gO ?_⟩;rintro _ _ ⟨rfl,rfl⟩;refine⟨_,rfl,aj.refl _,PC.ok gO ?_⟩;rintro _ _ ⟨rfl,rfl⟩;refine⟨_,rfl,aj.refl _,PA.VO λy h z s=>⟨h.keep,PC.ok (O_ s) ?_⟩⟩;rintro _ _ ⟨rfl,rfl⟩;exact⟨_,rfl,aj.refl _,Ok.mk ⟨by rw[Hp],((m.then g).then P).then h⟩⟩
structure Rm where
 e:ah
 a:YQ
 n:Nat
 c:Nat
instance:Inhabited Rm:=⟨⟨⟨0,0,0,[],0,0,0,0,0,0⟩,none,0,0⟩⟩
def encS(P:Rm):List Value:=aD P.e P.a P.n P.c
def Rn(a:Rm):∀b∈encS a,b.oneCell'=true:=by
 intro c P;simp only[encS,aD,Q2,List.not_mem_nil,or_false]at P;rcases P with rfl|rfl|rfl|rfl|rfl|rfl|rfl|rfl|rfl|rfl<;>rfl
def zD(P a:Rm):ltOf (λP a:Rm=>sf P.e a.e) P a=eM P.e a.e:=by
 unfold ltOf sf
 cases b:eM P.e a.e
 ·cases c:eM a.e P.e<;>simp[b,c]
 ·simp[b]
def js:eM l K=true↔l.aB<K.aB\/l.aB=K.aB/\(l.origin<K.origin\/l.origin=K.origin/\l.seq<K.seq):=by simp[eM]
def tY:eM l K=false↔¬(l.aB<K.aB\/l.aB=K.aB/\(l.origin<K.origin\/l.origin=K.origin/\l.seq<K.seq)):=by rw[<-js];simp
def VP:SWO (ltOf λP a:Rm=>sf P.e a.e) where
 irrefl P:=by rw[zD,tY];omega
 trans P a z h1 h2:=by rw[zD,js]at*;omega
 ntrans P a z h1 h2:=by rw[zD,tY]at*;omega
def Jt{d:World}{D:ZN}:∀{b:List ah} {cs:List Value},bR ia d D b cs->∃a:List Rm,a.map (·.e)=b/\cs=a.flatMap encS/\∀P∈a,Row aM 8 d D P.a P.n P.e.aJ/\P.e.Ok
 |[],_,f=>⟨[],rfl,f,sM⟩
 |e::b,_,⟨r,s,g,⟨h,i,j,k,l,m⟩,n⟩=>by
  obtain⟨a,o,p,q⟩:=Jt n;refine⟨⟨e,h,i,j⟩::a,by simp[o],by rw[g,k,p];rfl,?_⟩;intro P c;rcases Q2.1 c with rfl|c
  ·exact⟨l,m⟩
  ·exact q P c
def x_{b:World}{D:ZN}:∀{P:List Rm},(∀x∈P,Row aM 8 b D x.a x.n x.e.aJ/\x.e.Ok)->bR ia b D (P.map (·.e)) (P.flatMap encS)
 |[],_=>rfl
 |x::P,a=>⟨encS x,P.flatMap encS,rfl,⟨x.a,x.n,x.c,rfl,(a x (QV ..)).1,(a x (QV ..)).2⟩,x_ λc d=>a c (QJ _ d)⟩
def qV{P:List Rm}(b:a<P.length*10):(P.flatMap encS)[a]? =(encS P[a/10]!)[a % 10]? :=by
 induction P generalizing a with
 |nil=>simp at b
 |cons e P f=>
  have g:(encS e).length=10:=rfl;rw[List.flatMap_cons]
  by_cases c:a<10
  ·rw[XW oM,Nat.div_eq_of_lt c,Nat.mod_eq_of_lt c];rfl
  ·rw[X8 oM,g,f (by simp at b;omega)]
   obtain⟨d,rfl⟩:∃d,a=d+10:=⟨a-10,oM⟩
   rw[Nat.add_sub_cancel,Nat.add_div_right _ dC,Nat.add_mod_right];simp
def gW(P:List Rm):(P.flatMap encS).length=P.length*10:=by
 induction P with
 |nil=>rfl
 |cons a P b=>rw[List.flatMap_cons,QX,b];have c:(encS a).length=10:=rfl;rw[c];simp;omega
def Cf(P:List Rm):(flatK encS 10 P.toArray).toList=P.flatMap encS:=by
 apply X3;intro a
 by_cases b:a<P.length*10
 ·rw[qV b]
  have e:a<(flatK encS 10 P.toArray).size:=by simpa using b
  have c:=get_flatK encS 10 P.toArray a (by simpa using b);rw[getElem!_pos _ a e]at c;have f:(encS P[a/10]!).length=10:=rfl;have d:a % 10<(encS P[a/10]!).length:=by rw[f];omega
  rw[Qq (by simpa using b),Qq d]
  congr 1
  rw[Array.getElem_toList,c];rw[getElem!_pos _ _ (by simpa using d)]
  congr 1
  simp
 ·rw[Q7 (by simpa using b),Q7 (by rw[gW];omega)]
def Cd(P:List ah):Prop:=P.Pairwise λa b=>eM b a=false
def Jp(m:aU ia 55 f b d a c B)(t:B.length<=20000000):
  YX 149 #[.slice d a c,.func (.func 150) #[] #[]] b (Ok λM u=>M= .tuple #[]/\∃A,A.Perm B/\Cd A/\aU ia 55 f u d a c A/\aj (λn=>aH d=some n) b u):=by
 obtain⟨cs,D,C,Z,N⟩:=m.body;obtain⟨e,E,rfl,a4⟩:=Jt Z;have F:=m.len dC;have v:e.length=a:=by rw[F,<-E];simp
 rcases C.cases with⟨rfl,rfl,rfl,h0⟩|⟨h,j,rfl,w,O,H,Q⟩
 ·have hd:e=[]:=QW v
  refine(AnyF.slices_SortFunc_none Tryz.TN none 0 _ b).mono ?_;rintro p u ⟨rfl,rfl⟩;exact Ok.mk ⟨rfl,B,List.Perm.refl _,by rw[<-E,hd];exact List.Pairwise.nil,m,aj.refl _⟩
 ·have R:ia.k=10:=rfl
  rw[R]at Q H;have a5:flatK encS 10 e.toArray=(e.flatMap encS).toArray:=by rw[<-Cf]
  have hH:HoldsK encS 10 b h 0 e.toArray:=by
   intro k q;rw[size_flatK]at q;simp only[List.size_toArray]at q;have S:k<(e.flatMap encS).length:=by rw[gW];exact q
   refine⟨?_,by simp[World.frozen?,w]⟩;have l:(flatK encS 10 e.toArray)[k]! =(e.flatMap encS)[k]:=by
    rw[a5,getElem!_pos _ k (by simpa using S)];simp
   rw[l,Xz];refine ae w ?_;have i:(j.toList.take (a*10))[k]? =some (e.flatMap encS)[k]:=by rw[Q];exact Qq S
   rw[Xw,Zx oM]at i;simpa using i
  have t:=C.row;have I:c<=maxLen:=by
   obtain⟨_,a0,_,T,_,_,_,I,_⟩:=C.row.2.resolve_left (by rintro⟨m,_⟩;cases m);simp only[XX]at T;rw[T.2.2];exact I
  have a6:e.toArray.size<4611686018427387904:=by
   simp only[List.size_toArray,v];omega
  have U:=AnyQ.slices_SortFunc Tryz.TN 10 (λb=>de _ _ _ kR ⟨_,Tryz.underlying55⟩ b) (λb=>Tryz.sizeOf55 b) encS (λ_=>rfl) Rn (λx V=>sf x.e V.e) VP 150 #[] h 0 c e.toArray b
   (enters_of Tryz.func150 kR rfl) (λb0 r dk b1 x V=>(Ce).mono ?_) hH (aA w) a6
  ·rw[show e.toArray.size=a by simpa using v]at U
   refine U.mono ?_;rintro p u ⟨rfl,g,y,r,hp,hs,rfl⟩;obtain⟨p1,p2,W⟩:=hp;have P:g.size=a:=p1.trans (by simpa using v);have X:g.toList.Perm e:=by
    have l:g.extract 0 a=g:=by rw[<-P];exact Array.extract_size
    have i:e.toArray.extract 0 a=e.toArray:=by rw[show a=e.toArray.size by simpa using v.symm];exact Array.extract_size
    rw[l,i]at W;exact W
   have a1:flatK encS 10 g=(g.toList.flatMap encS).toArray:=by rw[<-Cf]
   have J:(sortWorldK encS 10 b h 0 y g r).heap[h]? =some (.cells (putCells id 0 (flatK encS 10 g) j) 55 (0,0)):=by
    have a7:=aA w;show((Sort.ahead b y).heap.modify h _++r)[h]? =_;rw[Array.getElem?_append_left (by simpa[Sort.ahead]using a7),Array.getElem?_modify,Zx rfl];show Option.map _ b.heap[h]? =_;rw[w];rfl
   have z:aj (λn=>aH (ZM h)=some n) b (sortWorldK encS 10 b h 0 y g r):=by
    refine⟨rfl,rfl,rfl,?_,λa2 z F=>?_⟩
    ·show b.heap.size<=((Sort.ahead b y).heap.modify h _++r).size
     simp[Sort.ahead]
    ·show((Sort.ahead b y).heap.modify h _++r)[a2]? =_
     rw[Array.getElem?_append_left (by simpa[Sort.ahead]using z),Array.getElem?_modify,Zq (λp=>F (by rw[p];rfl))]
     rfl
   have a3:(putCells id 0 (flatK encS 10 g) j).size=c*10:=by unfold putCells;rw[Array.size_mapIdx];exact H
   refine Ok.mk ⟨rfl,g.toList.map (·.e),by rw[<-E];exact X.map _,?_,⟨⟨g.toList.flatMap encS,D,⟨⟨?_,.inr ⟨h,c,_,rfl,Qj _,J,O,I,a3,?_⟩⟩⟩,x_ λx hx=>?_,N⟩,m.self,λn t=>Qk (m.aE n t) z.size⟩,z⟩
   ·unfold Cd
    rw[List.pairwise_map,List.pairwise_iff_getElem];intro Y k hi q a8;have l:=hs Y k (Qj _) a8 (by simpa[P]using q);rw[zD,getElem!_pos _ k (by simpa using q),getElem!_pos _ Y (by simpa using hi)]at l;simpa using l
   ·rw[gW,XK,P];rfl
   ·apply X3
    intro s;rw[R,Xw];split
    ·rename_i o
     rw[qV (by rw[XK,P];exact o),<-qV (by rw[XK,P];exact o)];unfold putCells;have a9:s<j.size:=by rw[H];exact Qk o (Q0 _ O)
     rw[Array.getElem?_toList,Array.getElem?_mapIdx,X6 a9];simp only[Option.map_some];have K:s<(flatK encS 10 g).size:=by rw[size_flatK,P];exact o
     rw[Zx ⟨Qj _,by rw[Xz];exact K⟩,Nat.sub_zero,getElem!_pos _ s K];have:(flatK encS 10 g)[s]=(g.toList.flatMap encS)[s]'(by rw[gW,XK,P];exact o):=by
      have i:=Zj (·[s]?) a1;simp only[List.getElem?_toArray]at i;rw[X6 K,Qq (by rw[gW,XK,P];exact o)]at i;exact XJ i
     rw[this];exact(Qq _).symm
    ·rename_i o
     rw[Q7 (by rw[gW,XK,P];omega)]
   ·have L:x∈e:=X.mem_iff.1 hx
    obtain⟨l,i⟩:=a4 x L;exact⟨l.keep z λn t p=>(N n t).2 p,i⟩
  ·rintro p u ⟨M,rfl,rfl,hG⟩
   exact⟨rfl,hG⟩
open Go.aw
abbrev TU(P:List ah):Prop:=P.Pairwise λa b=>eM a b=true
structure au.OK (S:au):Prop where
 n:S.n<=64
 Pa:TU S.l
 ids:(S.l.map aX).Nodup
 VX:∀e∈S.l,dh e S.n=0
 ok:∀e∈S.l,e.Ok
def EY(a:aX l≠aX K):eM l K=true\/eM K l=true:=by
 rw[js,js];have:¬(l.origin=K.origin/\l.seq=K.seq):=λP=>a (by unfold aX;rw[P.1,P.2]);omega
def sT{P a b:ah}(c:eM P a=true)(d:eM a b=true):eM P b=true:=by rw[js]at*;omega
def mD(P:eM l K=true):eM K l=false:=by rw[js]at P;rw[tY];omega
def cT(a:ah):∀P,(dH a P).Perm (a::P)
 |[]=>List.Perm.refl _
 |x::P=>by
  unfold dH;split
  ·exact List.Perm.refl _
  ·exact(List.Perm.cons x (cT a P)).trans (List.Perm.swap a x P)
def vW{d:ah}:∀{a},TU a->(∀x∈a,aX x≠aX d)->TU (dH d a)
 |[],_,_=>by unfold dH;exact List.pairwise_singleton ..
 |x::a,e,f=>by
  obtain⟨g,h⟩:=List.pairwise_cons.1 e;unfold dH;split
  ·rename_i c
   exact List.pairwise_cons.2 ⟨λb P=>by
    rcases Q2.1 P with rfl|P
    ·exact c
    ·exact sT c (g b P),e⟩
  ·rename_i c
   refine List.pairwise_cons.2 ⟨λb P=>?_,vW h λb P=>f b (QJ _ P)⟩;rcases Q2.1 ((cT d a).mem_iff.1 P)with rfl|P
   ·exact(EY (f x (QV ..))).resolve_right (by simpa using c)
   ·exact g b P
def LH(g:Cd B)(i:TU e0)(c:B.Perm e0)(j:(B.map aX).Nodup):B=e0:=by
 refine c.eq_of_pairwise (le:=λa P=>eM P a=false) (λa P k l d e=>?_) g (i.imp λh=>mD h)
 by_cases f:aX a=aX P
 ·have b:P∈B:=c.mem_iff.2 l
  obtain⟨o,m,rfl⟩:=List.getElem_of_mem k;obtain⟨p,n,rfl⟩:=List.getElem_of_mem b;have:=(List.getElem_inj (xs:=B.map aX) (h₀:=by simpa using m) (h₁:=by simpa using n) j).1 (by simpa using f);subst this;rfl
 ·rcases EY f with h|h
  ·rw[h]at e;cases e
  ·rw[h]at d;cases d
def Td(a:(B.map aX).Nodup)(P:l∈B):B.find? (λb=>aX b==aX l)=some l:=by
 induction B with
 |nil=>cases P
 |cons b B c=>
  simp only[QY,List.nodup_cons]at a;rcases Q2.1 P with rfl|P
  ·simp
  ·have d:aX b≠aX l:=λe=>a.1 (e▸Xk.2 ⟨l,P,rfl⟩)
   rw[List.find?_cons_of_neg (by simpa using d)];exact c a.2 P
def au.get_some(P:E.get d3=some l):l∈E.l/\aX l=d3:=
 ⟨List.mem_of_find?_eq_some P,by simpa using List.find?_some P⟩
def au.get_none(a:E.get d3=none):∀P∈E.l,aX P≠d3:=λP b=>by
 have:=List.find?_eq_none.1 a P b;simpa using this
def au.OK.get(P:E.OK)(a:l∈E.l):E.get (aX l)=some l:=Td P.ids a
def Jo(h:E.OK)(d:∀P∈g9,P.1=aX P.2)(e:(g9.map (·.2)).Perm E.l)(l:Tidy g9)(a:Int×Int):aq g9 a=E.get a:=by
 cases b:aq g9 a with
 |none=>
  rw[mX]at b
  symm
  refine List.find?_eq_none.2 λc i=>?_;obtain⟨P,f,rfl⟩:=Xk.1 (e.mem_iff.2 i);intro j;exact b (Xk.2 ⟨P,f,by rw[d P f];simpa using j⟩)
 |some c=>
  have g:=cf b;have k:a=aX c:=d _ g;have:c∈E.l:=e.mem_iff.1 (Xk.2 ⟨_,g,rfl⟩);rw[k,h.get this]
def xk(a:List ah)(P:Int):a.foldl (λP b=>max P b.aB) P=max P (a.foldl (λP b=>max P b.aB) 0)\/P<0:=by
 induction a generalizing P with
 |nil=>simp;omega
 |cons c a d=>
  rw[List.foldl_cons,List.foldl_cons]
  by_cases f:P<0
  ·exact .inr f
  ·rcases d (max P c.aB)with h|h
   ·rcases d (max 0 c.aB)with e|e
    ·left;rw[h,e];omega
    ·omega
   ·omega
def au.Ta(P:au)(a:ah):au.top ⟨P.n,dH a P.l⟩=max P.top a.aB:=by
 show(dH a P.l).foldl _ _=_;rw[(cT a P.l).foldl_eq' (λb _ c _ d=>oM),List.foldl_cons];rcases xk P.l (max 0 a.aB)with h|h
 ·rw[h]
  show max (max 0 a.aB) P.top=_;have:0<=P.top:=by
   rcases xk P.l 0 with h|h
   ·unfold au.top;omega
   ·omega
  omega
 ·omega
def au.Ls(P:au):0<=P.top:=by
 rcases xk P.l 0 with h|h
 ·unfold au.top;omega
 ·omega
def mK(P:dh l a=0):0<=l.origin/\l.origin<a/\1<=l.seq/\1<=l.aB/\0<=l.agg/\0<=l.key/\l.aJ.length=a/\(∀b∈l.aJ,0<=b)/\l.aJ.getD l.origin.toNat 0=oT (l.seq-1)/\1<=l.op/\l.op<=5/\0<=l.aY/\l.aY<8/\0<=l.field/\l.field<8:=by
 unfold dh at P;split at P
 ·simp at P
 ·rename_i c
  split at P
  ·simp at P
  ·rename_i d
   split at P
   ·simp at P
   ·rename_i h
    split at P
    ·simp at P
    ·rename_i i
     simp only[not_or,List.any_eq_true,Zk,not_exists,not_and]at c;obtain⟨j,k,m,b,n,e⟩:=c;refine⟨oM,oM,oM,oM,oM,oM,oM,λf g=>by have:=e f g;omega,by simpa using d,oM,oM,oM,oM,oM,oM⟩
def au.Fh(P:au)(a:ah)(b:Nat):au.Fg ⟨P.n,dH a P.l⟩ b=P.Fg b+if a.origin=(b:Int)then 1 else 0:=by
 unfold au.Fg;show(dH a P.l).countP _=_;rw[(cT a P.l).countP_eq,List.countP_cons]
 congr 1
 simp
def au.QP(P:au)(a:Nat):P.Fg a<=P.l.length:=List.countP_le_length
def au.b_(P:au):P.vec.length=P.n:=by simp[au.vec]
def au.oz(P:au)(b:a<P.n):P.vec[a]? =some (P.Fg a:Int):=by simp[au.vec,b]
def au.uh(S:au)(P:a<S.n):S.vec.getD a 0=(S.Fg a:Int):=by rw[QQ,S.oz P];rfl
def au.Tb(P:au)(c:ah)(f:c.origin=(a:Int)):au.vec ⟨P.n,dH c P.l⟩=P.vec.set a (P.Fg a+1:Int):=by
 apply X3;intro d
 by_cases b:d<P.n
 ·rw[au.oz ⟨P.n,dH c P.l⟩ b,au.Fh,Xj,P.oz b,P.b_]
  by_cases e:a=d
  ·subst e;simp[f,b]
  ·rw[Zq e,Zq oM];simp
 ·rw[Q7 (by rw[au.b_];exact Nat.le_of_not_lt b),Q7 (by rw[List.length_set,P.b_];omega)]
def au.add_def(P:au)(a:ah):P.add a=if dh a P.n≠0 then(dh a P.n,P)else if(P.get (aX a)).isSome then(16,P)else
 if a.seq≠(P.vec.getD a.origin.toNat 0)+1 then(9,P)else if(List.range P.n).any λb=>!P.lO a b then(9,P)else(0,⟨P.n,dH a P.l⟩):=rfl
def au.zN(P:E.OK)(g:l.Ok):(E.add l).2.OK/\(E.add l).2.n=E.n:=by
 rw[au.add_def]
 by_cases c:dh l E.n=0
 rotate_left
 ·rw[Zx c];exact⟨P,rfl⟩
 rw[Zq (by simpa using c)]
 by_cases d:(E.get (aX l)).isSome=true
 ·rw[Zx d];exact⟨P,rfl⟩
 rw[Zq d];split
 ·exact⟨P,rfl⟩
 split
 ·exact⟨P,rfl⟩
 have f:E.get (aX l)=none:=by simpa using d
 have e:=cT l E.l;refine⟨⟨P.n,vW P.Pa (au.get_none f),?_,?_,?_⟩,rfl⟩
 ·refine(e.map aX).nodup_iff.2 ?_
  rw[QY,List.nodup_cons];exact⟨λh=>by obtain⟨b,a,i⟩:=Xk.1 h;exact au.get_none f b a i,P.ids⟩
 ·intro b a
  rcases Q2.1 (e.mem_iff.1 a)with rfl|a
  ·exact c
  ·exact P.VX b a
 ·intro b a
  rcases Q2.1 (e.mem_iff.1 a)with rfl|a
  ·exact g
  ·exact P.ok b a
def au.sQ(P:a<=64):au.OK ⟨a,[]⟩:=⟨P,List.Pairwise.nil,sM,sM,sM⟩
structure au.Cl (S:au):Prop where
 ok:S.OK
 lO:∀e∈S.l,∀o,o<S.n->S.lO e o=true
 le:∀e∈S.l,e.seq<=(S.Fg e.origin.toNat:Int)
 has:∀(o:Nat) (s:Int),o<S.n->1<=s->s<=(S.Fg o:Int)->∃e∈S.l,aX e=((o:Int),s)
def Af:E.lO l a=true↔l.aJ.getD a 0=0\/∃P,E.get ((a:Int),l.aJ.getD a 0)=some P/\P.aB<l.aB/\∀b,b<P.aJ.length->P.aJ.getD b 0<=l.aJ.getD b 0:=by
 unfold au.lO;generalize l.aJ.getD a 0=c;dsimp only
 cases d:E.get ((a:Int),c)with
 |none=>simp
 |some P=>simp
def au.Cl.new(P:a<=64):au.Cl ⟨a,[]⟩:=⟨au.sQ P,sM,sM,λc d _ e b=>by simp[au.Fg]at b;omega⟩
def au.RT(P:au.OK ⟨E.n,dH l E.l⟩)(a:E.get d3=some K):au.get ⟨E.n,dH l E.l⟩ d3=some K:=by
 obtain⟨b,rfl⟩:=au.get_some a;exact P.get ((cT l E.l).mem_iff.2 (QJ _ b))
def au.gP(P:au)(a:ah):((P.add a).1≠0/\(P.add a).2=P)\/(P.add a=(0,⟨P.n,dH a P.l⟩)/\dh a P.n=0/\P.get (aX a)=none/\a.seq=P.vec.getD a.origin.toNat 0+1/\∀b,b<P.n->P.lO a b=true):=by
 rw[au.add_def];split
 ·rename_i c;exact .inl ⟨c,rfl⟩
 rename_i d;split
 ·exact .inl ⟨sM,rfl⟩
 rename_i e;split
 ·exact .inl ⟨sM,rfl⟩
 rename_i f;split
 ·exact .inl ⟨sM,rfl⟩
 rename_i g;refine .inr ⟨rfl,by simpa using d,by simpa using e,by simpa using f,?_⟩;simpa[List.any_eq_false]using g
def au.RU{S:au}(a:dh l S.n=0)(b:S.get (aX l)=none)(c:l.seq=S.vec.getD l.origin.toNat 0+1)(d:∀P,P<S.n->S.lO l P=true):S.add l=(0,⟨S.n,dH l S.l⟩):=by
 rw[au.add_def,Zq (by simpa using a),Zq (by simp[b]),Zq (by simpa using c),Zq];simpa[List.any_eq_false]using d
def au.Cl.add{c:au}(h:c.Cl){b:ah}(q:b.Ok):(c.add b).2.Cl:=by
 have l:=(au.zN h.ok q).1;rcases c.gP b with⟨-,g⟩|⟨i,r,y,s,t⟩
 ·rw[g];exact h
 rw[i]at l⊢;simp only at l⊢;obtain⟨z,A,B,-⟩:=mK r;obtain⟨j,m⟩:∃j:Nat,b.origin=j:=⟨b.origin.toNat,oM⟩
 have u:j<c.n:=oM
 rw[m,Qx,c.uh u]at s;have d:∀P,P∈dH b c.l↔P=b\/P∈c.l:=λP=>by rw[(cT b c.l).mem_iff,Q2]
 have e:∀P f,c.lO P f=true->au.lO ⟨c.n,dH b c.l⟩ P f=true:=λP f a=>by
  rw[Af]at a⊢;rcases a with a|⟨v,i,g⟩
  ·exact .inl a
  ·exact .inr ⟨v,au.RT l i,g⟩
 refine⟨l,λP a f k=>?_,λP a=>?_,λf n k i g=>?_⟩
 ·rcases(d P).1 a with rfl|a
  ·exact e _ _ (t f k)
  ·exact e _ _ (h.lO P a f k)
 ·rw[au.Fh]
  rcases(d P).1 a with rfl|a
  ·rw[m,Qx,Zx rfl];omega
  ·have:=h.le P a
   split<;>omega
 ·rw[au.Fh]at g
  by_cases p:b.origin=(f:Int)
  ·rw[Zx p]at g
   have w:j=f:=oM
   subst w
   by_cases x:n=b.seq
   ·exact⟨b,(d b).2 (.inl rfl),by simp[aX,m,x]⟩
   ·obtain⟨P,a,o⟩:=h.has j n k i oM
    exact⟨P,(d P).2 (.inr a),o⟩
  ·rw[Zq p]at g
   obtain⟨P,a,o⟩:=h.has f n k i oM;exact⟨P,(d P).2 (.inr a),o⟩
def au.Tl(P:au)(a:ah):(P.add a).2.n=P.n:=by
 rcases P.gP a with⟨-,b⟩|⟨c,-⟩
 ·rw[b]
 ·rw[c]
def au.zi(P:au)(a:ah):(P.add a).2.l.length<=P.l.length+1:=by
 rcases P.gP a with⟨-,b⟩|⟨c,-⟩
 ·rw[b];omega
 ·rw[c];show(dH a P.l).length<=_;rw[(cT a P.l).length_eq];simp
def au.qX(P:au)(a:List ah)(b:ah):P.eE (a++[b])=((P.eE a).add b).2:=by unfold au.eE;rw[List.foldl_append];rfl
def au.Ag(P:au)(a b:List ah):P.eE (a++b)=(P.eE a).eE b:=by unfold au.eE;rw[List.foldl_append]
def au.Cl.eE:∀{l:List ah} {S:au},S.Cl->(∀e∈l,e.Ok)->(S.eE l).Cl
 |[],S,P,_=>P
 |e::l,S,P,a=>au.Cl.eE (l:=l) (S:=(S.add e).2) (P.add (a e (QV ..))) λb c=>a b (QJ _ c)
def au.Pl:∀(a:List ah) (P:au),(P.eE a).n=P.n
 |[],P=>rfl
 |e::a,P=>(au.Pl a _).trans (P.Tl e)
def au.mC:∀(a:List ah) (P:au),(P.eE a).l.length<=P.l.length+a.length
 |[],P=>by simp[au.eE]
 |e::a,P=>by
  have b:=au.mC a (P.add e).2;have c:=P.zi e;show((P.add e).2.eE a).l.length<=_;simp only[Xq];omega
def sV{a:ah}:∀{P:List ah},(∀x∈P,eM a x=false)->dH a P=P++[a]
 |[],_=>rfl
 |x::P,b=>by
  unfold dH;rw[Zq (by rw[b x (QV ..)];simp),sV λc d=>b c (QJ _ d)];rfl
def au.Cl.take{P:au}(g:P.Cl):∀{k:Nat},k<=P.l.length->(⟨P.n,[]⟩:au).eE (P.l.take k)=⟨P.n,P.l.take k⟩/\au.Cl ⟨P.n,P.l.take k⟩
 |0,_=>⟨rfl,by simpa using au.Cl.new g.ok.n⟩
 |k+1,U=>by
  obtain⟨I,l⟩:=au.Cl.take g (k:=k) oM;have f:P.l[k]? =some P.l[k]:=Qq oM;have m:P.l[k]∈P.l:=XY oM;generalize P.l[k]=a at f m;have v:P.l=P.l.take k++a::P.l.drop (k+1):=by
   conv=>lhs;rw[<-ZX k P.l]
   congr 1
   rw[X4 oM]
   congr 1
   have:=Qq (l:=P.l) (i:=k) oM;rw[f]at this;exact(XJ this).symm
  have p:=g.ok.Pa;have h:=g.ok.ids;rw[v]at p h;have e:∀x∈P.l,eM x a=true->x∈P.l.take k:=λx c n=>by
   rw[v]at c;rcases Q6.1 c with c|c
   ·exact c
   rcases Q2.1 c with rfl|c
   ·rw[js]at n;omega
   ·have J:=(List.pairwise_append.1 p).2.1
    have q:=(List.pairwise_cons.1 J).1 x c;rw[mD q]at n;cases n
  have b:∀x∈P.l.take k,eM x a=true:=λx c=>(List.pairwise_append.1 p).2.2 x c a (QV ..);have w:au.get ⟨P.n,P.l.take k⟩ (aX a)=none:=by
   cases K:au.get ⟨P.n,P.l.take k⟩ (aX a)with
   |none=>rfl
   |some x=>
    obtain⟨i,j⟩:=au.get_some K;rw[Q3,QY,List.nodup_append]at h;exact Zz j (h.2.2 (aX x) (Xk.2 ⟨x,i,rfl⟩) (aX a) (QV ..))
  have y:=g.ok.VX a m;obtain⟨V,W,L,X,-,-,Y,-,z,-⟩:=mK y;obtain⟨d,r⟩:∃d:Nat,a.origin=d:=⟨a.origin.toNat,oM⟩
  have s:d<P.n:=oM
  have A:∀o,o<P.n->au.lO ⟨P.n,P.l.take k⟩ a o=true:=λo M=>by
   have:=g.lO a m o M;rw[Af]at this⊢;rcases this with B|⟨x,t,C,N⟩
   ·exact .inl B
   ·obtain⟨i,j⟩:=au.get_some t
    refine .inr ⟨x,?_,C,N⟩;rw[<-j];exact l.ok.get (e x i (by rw[js];exact .inl C))
  have E:=g.ok.ok a m;have Q:a.seq=(au.vec ⟨P.n,P.l.take k⟩).getD a.origin.toNat 0+1:=by
   rw[r,Qx,au.uh (S:=⟨P.n,P.l.take k⟩) s];have Z:(au.Fg ⟨P.n,P.l.take k⟩ d:Int)+1<=a.seq:=by
    rcases Int.lt_or_le (au.Fg ⟨P.n,P.l.take k⟩ d:Int) a.seq with n|O
    ·omega
    ·obtain⟨x,R,S⟩:=l.has d a.seq s L O
     have:=au.get_none w x R;exact Zz (S.trans (by simp[aX,r])) this
   have O:a.seq<=(au.Fg ⟨P.n,P.l.take k⟩ d:Int)+1:=by
    have T:oT (a.seq-1)=a.seq-1:=by
     have:=E.seq;exact wrap_i64 (by unfold aN at*;omega)
    rw[T,r,Qx]at z;have:=A d s;rw[Af,z]at this;rcases this with B|⟨x,t,-⟩
    ·omega
    ·obtain⟨i,j⟩:=au.get_some t
     have q:=l.le x i;have F:x.origin=d/\x.seq=a.seq-1:=by
      have:=j;simp only[aX,Prod.mk.injEq]at this;exact this
     rw[F.1,F.2,Qx]at q;omega
   show a.seq=(au.Fg ⟨P.n,P.l.take k⟩ d:Int)+1;omega
  have H:=au.RU (S:=⟨P.n,P.l.take k⟩) y w Q A;have a0:dH a (P.l.take k)=P.l.take (k+1):=by
   rw[sV λx f=>mD (b x f),Qw,f];rfl
  rw[show P.l.take (k+1)=P.l.take k++[a] by rw[Qw,f];rfl,au.qX,I,H];have u:=l.add E;rw[H]at u;rw[show dH a (P.l.take k)=P.l.take k++[a]from sV λx f=>mD (b x f)]at u⊢;exact⟨rfl,u⟩
def au.Cl.TX(P:E.Cl):(⟨E.n,[]⟩:au).eE E.l=E:=by
 have:=(P.take (Q4 _)).1;rw[List.take_length]at this;exact this
def tJ:kf:=⟨[(3,[(6,.slice none 0 0),(16,ZH 0)])],[],[5,12],[],[(5,⟨[0,1,2,4,0,16,40,64,128,128,511,2047],[4095,4094,4093,4091,4095,4079,4055,4031,3967,3967,3839,3583],[0,0,0,1,0,2,2,0,0,0,0,0]⟩),(12,⟨[0,0,2,4,8,0,32,0,208,257,1023],[2047,2047,2045,2043,2039,2047,2015,2047,1839,2046,1791],[0,0,0,0,1,0,2,0,2,0,0]⟩)]⟩
def tK(N:PA b (.cells #[.slice r a c] 230) λv=>(rS v (ab_ b 0) λO w c3=>(∃o:Nat->YQ->Nat->Nat->Int->ZU,(∃e,o e none 0 0 0 v)/\∀(e:Nat) (f:YQ) (g:Nat) (h:Nat) (P:Int) (c4:Nat->Value) (i:World),o e f g h P i->al (decide (P<(w:Int))) ((ix_ O P w λQ R=>(rI i (ad Q (R+Int.toNat P)) λj=>(∀k,bX i k->∃p:ZN,(dr d λx S=>(¬p x/\(rP k (ad x S) λT=>PC_ 120 #[.ii j] k (λU q=>∃y,U= .string y/\(aj p k q/\PC_ 181 #[.pointer T,.string y] q (λV l=>∃W A X B,V= .tuple #[.slice W A X,.ii B]/\(aj p q l/\al (B !=0) (rt z ((.tuple #[.slice f g h,.ii 0])) l) ((dr d λY Z=>(rP l (ad Y Z) λa1=>PC_ 187 #[.pointer a1,.ii j] l (λa2 a3=>∃D C E m,a2= .tuple #[.slice D C E,.ii m]/\PR_ (ap_ 50 (.slice f g h) (.slice D C E)) a3 (kS_ λG F H s=>(dr d λa4 a5=>(rS s (ad a4 (a5+2)) λa6 a7 a8=>PA s (.cells #[.ii j] 3) λa9=>PR_ (ap_ 27 (.slice a6 a7 a8) (.slice (some (ab_ s 0)) 1 1)) a9 (kS_ λb0 b1 b2 b3=>(dr d λb4 b5=>PS b3 (ad b4 (b5+2)) (.slice b0 b1 b2) λb6=>(dr d λb7 b8=>PS b6 (ad b7 (b8+3)) (.ii m) λI=>al (decide (m<(A:Int))) ((∀n,bX I n->∃t:ZN,(dr d λJ b9=>(¬t J/\(rP n (ad J b9) λc0=>PC_ 120 #[.ii j] n (λc1 u=>∃K,c1= .string K/\(aj t n u/\PC_ 188 #[.pointer c0,.string K,.ii m] u (kI_ λc2 L=>(aj t u L/\rt z ((.tuple #[.slice G F H,.ii c2])) L)) (pZ z))) (pZ z)))))) ((∃M,M<e/\o M G F H (ZG .i64 (P+1)) I))))) (pV z)))) (pV z)) (pE z)))))) (pZ z))) (pZ z)))))))) (rt z ((.tuple #[.slice f g h,.ii 0])) i)))):YX 137 #[.pointer d,.agg #[.slice r a c]] b z:=DC tJ Tryz.func137 rfl N
end Go.Proofs.YtblabbpipmodgaaGreatDoor
namespace Go.aw
open Go
def gK(P:List Int):List UInt8:=bk ((P.length:Int)::P)
def bO(P:List Int):List UInt8:=cz 2 (gK P)
def jQ(P:List UInt8):List Int×gH:=aW (bF 64 ⟨P,0,0⟩).1.toNat (bF 64 ⟨P,0,0⟩).2
def il(P:List UInt8):Option (List Int):=
 if(bt P).no≠0\/(bt P).n≠P.length\/(bt P).kind≠2 then none else if gI (jQ (bt P).body).2≠0 then none else some (jQ (bt P).body).1
def Er(P:List UInt8):(∀a∈(jQ P).1,aN a)/\(jQ P).1.length<=64/\(jQ P).2.Fit:=by
 obtain⟨b,f,g,h⟩:=gH.Fit.count (r:=⟨P,0,0⟩) ⟨Qj _,.inl rfl⟩ (m:=64) oM;obtain⟨c,d,e,i⟩:=b.ints (bF 64 ⟨P,0,0⟩).1.toNat;exact⟨d,by show(aW _ _).1.length<=64;rw[e];omega,c⟩
variable{s:List Int}{v:List UInt8}
def NY(P:il v=some s):(∀a∈s,aN a)/\s.length<=64:=by
 unfold il at P;split at P
 ·cases P
 split at P
 ·cases P
 ·cases P
  exact⟨(Er _).1,(Er _).2.1⟩
def xd(b:∀P∈s,aN P)(c:s.length<=64):(gK s).length<=585:=by
 have:=fF (l:=(s.length:Int)::s) (by
  intro P a;rcases Q2.1 a with rfl|a
  ·unfold aN;omega
  ·exact b P a)
 unfold gK;rw[Xq]at this;omega
def qL(P:List Int):(bO P).length=(gK P).length+9:=eT _ _
def nJ(P:∀b∈s,aN b)(c:s.length<=64):il (bO s)=some s:=by
 have k:=xd P c;have d:bt (bO s)=⟨2,gK s,(gK s).length+9,0⟩:=by
  have:=Es (k:=2) (body:=gK s) (r:=[]) dC dC oM
  rwa [List.append_nil]at this
 have e:(gH.mk (gK s) 0 0).At (gK s) (dZ (s.length:Int)++(bk (s++[])++[])):=⟨rfl,Qj _,rfl,by rw[List.drop_zero];simp[gK,kj]⟩
 obtain⟨f,g⟩:=e.count (m:=64) bb oM oM;obtain⟨h,i⟩:=gH.At.ints s g P;have a:jQ (gK s)=aW s.length (bF 64 ⟨gK s,0,0⟩).2:=by unfold jQ;rw[f,Qx]
 have j:gI (jQ (gK s)).2=0:=by rw[a];exact gH.At.done (by simpa[bk]using i)
 unfold il;rw[d,Zq (by simp[qL])];simp only;rw[Zq (by rw[j];simp),a,h]
end Go.aw
namespace Go.Proofs.YtblabbpipmodgaaGreatDoor
open Go.aw
def FO(P:Int)(a:bP):Int:=a.synced+max 0 (min P ((a.bytes.length:Int)-a.synced))
def r_(P:Int)(a:bP):bP:=a.cut (FO P a)
def ak.dY(D:ak)(P:Int):ak:={D with files:=(D.files.filter λa=>a.2.jf).map (λa=>(a.1,r_ P a.2)),iQ:=false,dead:=false}
def ak.HV(D:ak)(P:List (ByteArray×bP)):ak:=⟨D.most,P,D.iQ,D.left,D.dead⟩
def ak.gS(D:ak):ak:={D with files:=D.files.filter λP=>P.2.jf}
def CS(P:List (ByteArray×bP))(a:ByteArray×bP->Bool):eP (P.filter a)<=eP P:=by
 unfold eP
 induction P with
 |nil=>simp
 |cons b P c=>
  rw[List.filter_cons];split
  ·simp;omega
  ·simp;omega
variable{w:ByteArray}{e:Int}{f7:List ByteArray}{s:List Int}{B e0:List ah}{a c i o:Nat}{a4 f:ZN}{d r:YQ}{j:Type}{b:World}{K l:ah}
def qk{P:List (ByteArray×j)}(a:Tidy P)(b:ByteArray×j->Bool):Tidy (P.filter b):=List.Nodup.sublist (List.Sublist.map _ List.filter_sublist) a
def ak.Ok.gS{D:ak}(P:D.Ok):D.gS.Ok:=by
 have d:=CS D.files λa=>a.2.jf;have c:=P.fits;have e:=List.length_filter_le (λa:ByteArray×bP=>a.2.jf) D.files;have f:=P.many;unfold ak.used at c;exact⟨P.most,by show eP (D.files.filter _)<=D.most;omega,by show(D.files.filter _).length<=64;omega,qk P.tidy _,λa b=>P.names a (List.mem_filter.1 b).1,λa b=>P.RE a (List.mem_filter.1 b).1,P.AS,P.AT⟩
def Pz{a:List (ByteArray×j)}(c:Tidy a){l f:ByteArray×j->j}{u m:j}(g:(w,u)∈a)(i:∀b∈a,b.1≠w->f b=l b)(p:f (w,u)=m):
  aI (a.map λP=>(P.1,l P)) w m=a.map λP=>(P.1,f P):=by
 induction a with
 |nil=>cases g
 |cons q a n=>
  obtain⟨P,b⟩:=q;unfold Tidy at c n;simp only[QY,List.nodup_cons]at c;simp only[QY];unfold aI
  by_cases h:(w==P)=true
  ·have r:w=P:=eq_of_beq h
   subst r;have s:b=u:=by
    rcases Q2.1 g with h|h
    ·cases h;rfl
    ·exact Zz (Xk.2 ⟨_,h,rfl⟩) c.1
   subst s;rw[Zx h,p]
   congr 1
   refine List.map_congr_left λd e=>?_;rw[i d (QJ _ e) λk=>c.1 (Xk.2 ⟨d,e,k⟩)]
  ·have o:P≠w:=λk=>h (by rw[k];simp)
   rw[Zq h,i (P,b) (QV ..) o]
   congr 1
   refine n c.2 ?_ λd e=>i d (QJ _ e);rcases Q2.1 g with H|H
   ·cases H;exact Zz rfl o
   ·exact H
def sd(P:Int)(left:List (ByteArray×mZ))(a:ByteArray×bP):bP:=if left.any (λb=>b.1==a.1)then a.2 else r_ P a.2
def Kt{D:ak}(h:aV b a f D)(e4:aN e):
  YX 61 #[ZL a,ZH e] b (Ok λS t=>∃q,S= .tuple #[]/\aV t a q (D.dY e)/\cQ f b q t):=by
 obtain⟨u,x,k⟩:=h.open;have e5:x.filter (λP=>P.2.f.jf)=x.filter (λP=>P.2.f.jf):=rfl;refine tr ⟨a,0,rfl,some u,ae k.head rfl,PC.ok (yW k.map k.each λP l c j=>(k.HR P l c j).2.2) ?_⟩;rintro _ v ⟨rfl,c0,B⟩;have c1:∀c,c=u->f c:=λc n=>n▸k.Fr;have r:fm v a f D.gS u (x.filter λP=>P.2.f.jf):=by
  have C:∀P∈x.filter (λP=>P.2.f.jf),P∈x:=λP l=>(List.mem_filter.1 l).1;refine⟨B.get k.head (λn=>k.pr n),c0,?_,⟨λP l=>(k.each.each P (C P l)).keep B λc j=>(k.HR P (C P l) c j).2.2,λP l d o=>k.each.apart P (C P l) d (C d o),qk k.each.tidy _⟩,λP l=>k.HR P (C P l),k.Fr,k.pr,k.self,λc j=>Qk (k.aE c j) B.size,k.ok.gS⟩;show D.files.filter _=_;rw[k.files,List.filter_map]
  rfl
 generalize e6:x.filter (λP=>P.2.f.jf)=p at r;have c2:∀P∈p,∀c,P.2.G c->c<v.heap.size:=λP l c j=>(r.each.each P l).aE c j;refine⟨rfl,a,0,rfl,some u,ae r.head rfl,mapRange mF r.map λw2 hR T s2=>?_⟩;have c3:Tidy D.gS.files:=r.ok.tidy;have c4:∀d∈p,uU d∈D.gS.files:=λd o=>by rw[r.files];exact Xk.2 ⟨d,o,rfl⟩
 have a5:cQ f b f w2:=⟨((B.mono λc _ j=>c1 c j)).af T,λ_ h=>.inl h⟩
 refine⟨λU t=>∃(left s:List (ByteArray×mZ)) (q:ZN),cV t v.heap.size u Value.string (p.map ez) (left.map ez)/\U=left.length/\fm t a q (D.gS.HV (D.gS.files.map λi=>(i.1,sd e left i))) u s/\s.map ez=p.map ez/\
   cQ f b q t/\(∀P∈left,P∈p/\aq s P.1=some P.2)/\Tidy left/\v.heap.size<t.heap.size/\¬q v.heap.size,
  ⟨_,p,p,f,hR,rfl,?_,rfl,a5,λP l=>⟨l,qm r.each.tidy l⟩,r.each.tidy,oM,λj=>by have:=r.aE _ j;omega⟩,?_⟩
 ·have n:(D.gS.files.map λP=>(P.1,sd e p P))=D.gS.files:=by
   have:∀P∈D.gS.files,(P.1,sd e p P)=P:=λP l=>by
    rw[r.files]at l;obtain⟨d,o,rfl⟩:=Xk.1 l;have:p.any (λi=>i.1==(uU d).1)=true:=List.any_eq_true.2 ⟨d,o,by simp[uU]⟩;unfold sd;rw[Zx this]
   have I:=List.map_congr_left (f:=λP=>(P.1,sd e p P)) (g:=id) this;rw[I,List.map_id]
  rw[n];exact r.af T
 ·rintro U a1 w3 ⟨left,s,q,c5,rfl,V,a7,J,W,y,e1,X⟩
  refine m_ c5 (λK=>.inl ⟨rfl,?_⟩) λg S l1 l2 Y c6 c7 c8 Z s4=>.inr ⟨_,_,rfl,qp c8 ?_⟩
  ·have c9:left=[]:=by simpa using K
   subst c9;refine⟨a,0,rfl,V.at.HQ λw5 h5 k5 s5=>⟨a,0,rfl,h5.zo λw6 h6 k6 s6=>Ok.mk ⟨q,rfl,?_,J.trans ⟨k5.then k6,λ_ h=>.inl h⟩⟩⟩⟩;have n:(D.gS.files.map λP=>(P.1,sd e [] P))=(D.files.filter λP=>P.2.jf).map (λP=>(P.1,r_ e P.2)):=List.map_congr_left λP _=>by simp[sd]
   rw[n]at h6;exact h6
  ·obtain⟨m,P,c,rfl,rfl,rfl,rfl⟩:=wR c6
   obtain⟨a8,E⟩:=W (g,P) sM;have E:aq s g=some P:=E;have a9:∀c,c=v.heap.size->¬q c:=λc n=>n▸X;have w:=V.keep Z λc j n=>a9 c n j;have L:=w.get E;have M:=cf E;have d0:eG Y P.q P.G P.f:=w.each.each _ M;have d1:∀c,P.G c->c<v.heap.size:=c2 _ a8;have b0:∀c,P.G c->q c/\c≠a/\c≠u:=w.HR _ M;have b1:P.f.bytes.length<=262144:=w.ok.len (cf L);have e2:P.f.synced<=P.f.bytes.length:=w.ok.RE _ (cf L);have e7:P.f=(uU (g,P)).2:=rfl;refine⟨_,_,rfl,λw5 z=>?_⟩;have b2:=d0.keep (z.keep (S:=λ_=>False)) λ_ _ h=>h;have b3:=w.af z.keep;obtain⟨fa,A,fc,F0,F,I,h3,h4⟩:=b2.body;have b4:A=P.f.bytes.length:=I.len dC;have H:(if(if(ZG .i64 (((A:Nat):Int)-(P.f.synced:Int)))<e then(ZG .i64 (((A:Nat):Int)-(P.f.synced:Int)))else e)>0 then(if(ZG .i64 (((A:Nat):Int)-(P.f.synced:Int)))<e then(ZG .i64 (((A:Nat):Int)-(P.f.synced:Int)))else e)else 0)=max 0 (min e ((P.f.bytes.length:Int)-P.f.synced)):=by
    rw[wrap_i64 bb,b4];omega
   refine⟨P.q,0,rfl,_,ae F rfl,P.q,0,rfl,fa,A,fc,ae F rfl,P.q,0,rfl,_,ae F rfl,?_⟩;refine PC.ok (by rw[H,wrap_i64 (by unfold aN at*;omega)];exact AW b2 b1) ?_;rintro _ w6 ⟨N,rfl,O,Q⟩
   replace O:eG w6 P.q N (r_ e P.f):=O
   have d2:((D.gS.HV (D.gS.files.map λi=>(i.1,sd e (m++(g,P)::c) i))).fE g (r_ e P.f)).Ok:=b3.ok.cut L _;obtain⟨F6,b5,a0⟩:=b3.eV E O Q d2;have d3:=c7.keep (z.keep (S:=λ_=>False)) id id;have d4:=d3.keep Q.keep (λj=>by have:=d1 _ j;omega) (λj=>(b0 _ j).2.2 rfl);have b6:g∉(m++c).map (·.1):=by
    unfold Tidy at y;rw[Q3,QY]at y;rw[Q3];intro b7;have hp:=(List.perm_middle (a:=g) (l₁:=m.map (·.1)) (l₂:=c.map (·.1))).nodup_iff.1 y;exact(List.nodup_cons.1 hp).1 b7
   have b8:Tidy (m++c):=by
    unfold Tidy at y⊢;rw[Q3,QY]at y;rw[Q3];exact(List.nodup_cons.1 ((List.perm_middle (a:=g) (l₁:=m.map (·.1)) (l₂:=c.map (·.1))).nodup_iff.1 y)).2
   have b9:(m++c).any (λd=>d.1==g)=false:=by
    rw[List.any_eq_false];intro d o K;exact b6 (Xk.2 ⟨d,o,eq_of_beq K⟩)
   have fy:aI (D.gS.files.map λi=>(i.1,sd e (m++(g,P)::c) i)) g (r_ e P.f)=D.gS.files.map λi=>(i.1,sd e (m++c) i):=by
    refine Pz (u:=P.f) c3 (c4 _ a8) (λd o R=>?_) ?_
    ·have d5:(g==d.1)=false:=beq_false_of_ne (Ne.symm R)
     have n:(m++(g,P)::c).any (λi=>i.1==d.1)=(m++c).any (λi=>i.1==d.1):=by
      rw[List.any_append,List.any_cons,List.any_append,d5,Bool.false_or]
     show sd e (m++c) d=sd e (m++(g,P)::c) d;unfold sd;rw[n]
    ·unfold sd
     rw[Zq (by show¬((m++c).any (λd=>d.1==g)=true);rw[b9];simp)]
   have d6:(D.gS.HV (D.gS.files.map λi=>(i.1,sd e (m++(g,P)::c) i))).fE g (r_ e P.f)=D.gS.HV (D.gS.files.map λi=>(i.1,sd e (m++c) i)):=by
    unfold ak.fE ak.HV;simp only[fy]
   rw[d6]at b5;have a4:(aI s g (⟨P.q,N,r_ e P.f⟩:mZ)).map ez=p.map ez:=by
    have F:(aI s g (⟨P.q,N,r_ e P.f⟩:mZ)).map ez=aI (s.map ez) g (ptr P.q):=ql (λP:mZ=>ptr P.q) s g _;rw[F,qo (k:=g) (v:=ptr P.q) (l:=s.map ez) (Xk.2 ⟨(g,P),M,rfl⟩) w.map.tidy,a7]
   refine⟨rfl,_,?_,m++c,_,F6,by rw[Q3];exact d4,rfl,b5,a4,?_,λd o=>?_,b8,?_,?_⟩
   ·simp
   ·have e3:=B.size
    have d7:cQ f b q Y:=⟨J.keep.new Z λc j=>.inr oM,J.new⟩
    exact(d7.trans ⟨z.keep,λ_ h=>.inl h⟩).trans a0
   ·have d8:d∈m++(g,P)::c:=by simp only[Q6,Q2]at o⊢;exact o.imp id .inr
    obtain⟨d9,e0⟩:=W d d8;have R:d.1≠g:=λn=>b6 (Xk.2 ⟨d,o,n⟩);refine⟨d9,?_⟩;rw[bD,Zq (by simpa using R)];exact e0
   ·have:=Q.keep.size;have:=(z.keep (S:=λ_=>False)).size;omega
   ·intro j
    rcases a0.new _ j with h|h
    ·exact X h
    ·have:=(z.keep (S:=λ_=>False)).size;omega
def aQ:ByteArray:=⟨#[109,97,110,105,102,101,115,116,46,116,109,112]⟩
def bS:ByteArray:=⟨#[109,97,110,105,102,101,115,116]⟩
def ep(D:ak):Int×ak:=if(aq D.files aQ).isSome then D.delete aQ else(0,D)
def oI(P:List Int):Nat->ak->Int×ak
 |0,D=>ep D
 |1,D=>D.create aQ
 |2,D=>D.append aQ (bO P)
 |3,D=>D.sync aQ
 |_,D=>D.rename aQ bS
def nZ(P:List Int):Nat->Nat->ak->Int×ak
 |_,0,D=>(0,D)
 |a,b+1,D=>if(oI P a D).1≠0 then((oI P a D).1,(ep (oI P a D).2).2)else nZ P (a+1) b (oI P a D).2
def bC(D:ak)(P:List Int):Int×ak:=if 64<P.length then(3,D)else nZ P 0 5 D
def dz(D:ak):Option (List Int):=if(D.read bS).2≠0 then none else il (D.read bS).1
def IG(P:List ByteArray):(sq P).Perm P:=List.mergeSort_perm _ _
def Eo{D:ak}:w∈D.list↔(aq D.files w).isSome=true:=by
 unfold ak.list;rw[(IG _).mem_iff];constructor
 ·intro P
  cases a:aq D.files w with
  |none=>exact Zz P (mX.1 a)
  |some b=>rfl
 ·intro P
  obtain⟨b,c⟩:=Option.isSome_iff_exists.1 P;exact Xk.2 ⟨_,cf c,rfl⟩
def nG(D:ak):D.list.length=D.files.length:=by unfold ak.list sq;simp
def NX(P:List Int)(d:a<5)(D:ak):nZ P a (5-a) D=if(oI P a D).1≠0 then((oI P a D).1,(ep (oI P a D).2).2)else nZ P (a+1) (5-(a+1)) (oI P a D).2:=by
 obtain⟨b,c⟩:∃b,5-a=b+1:=⟨4-a,oM⟩
 rw[c,show 5-(a+1)=b by omega]
 rfl
def Gv{D:ZN}(e:Row Ns 16 b D d a f7):
  YX 303 #[.slice d a c,.string w] b (Ok λo f=>(∃l:Int,o= ZH l/\(0<=l↔w∈f7))/\b=f):=by
 have u:=e.len;have p:=e.dO;unfold aO at p;refine jK ⟨λm i f=>∃P:Nat,i=P/\P<=a/\m=a-P/\w∉f7.take P/\b=f,⟨_,0,rfl,Qj _,rfl,sM,rfl⟩,?_⟩;rintro m i _ _ ⟨P,rfl,v,rfl,g,rfl⟩;refine al.dec (λq=>?_) (λq=>?_)
 ·obtain⟨r,j,x,rfl,n,_,s⟩:=e.lN (i:=P) oM
  refine⟨r,j,rfl,oM,oM,_,s,al.Wn (λk=>?_) (λk=>?_)⟩
  ·exact Ok.mk ⟨⟨_,rfl,λ_=>k▸QZ n,λ_=>oM⟩,rfl⟩
  ·refine⟨_,oM,P+1,an oM,oM,rfl,?_,rfl⟩
   rw[Qw,n];intro t;rcases Q6.1 t with h|h
   ·exact g h
   ·simp at h;exact k h
 ·rw[Qz oM]at g
  exact Ok.mk ⟨⟨_,rfl,λh=>oM,λh=>Zz h g⟩,rfl⟩
def yZ{D:ZN}(P:Row Ns 16 b D d a f7):
  YX 259 #[.slice d a c,.string w] b (Ok λe f=>e= .bool (decide (w∈f7))/\b=f):=by
 refine iL (PC.ok (Gv P) ?_);rintro _ _ ⟨⟨h,rfl,g⟩,rfl⟩;exact⟨_,rfl,Ok.mk ⟨by rw[decide_eq_decide.2 g],rfl⟩⟩
def qK{D:ak}(P:aV b a f D):YX 191 #[ZL a] b (Ok (uV b a f (ep D))):=by
 refine wF (PC.ok (wT P) ?_);rintro _ m ⟨n,o,p,G,rfl,h,c,q⟩;have r:D.list.length<=64:=by rw[nG];exact P.ok.many
 refine⟨_,_,_,rfl,PC.ok (yZ (h.row dC ba)) ?_⟩;rintro _ _ ⟨rfl,rfl⟩;have g:(aQ∈D.list)↔(aq D.files aQ).isSome=true:=Eo;refine⟨_,rfl,al.dec (λd=>PC.ok (xy (P.af c)) λi j k=>lA i j c ?_) (λd=>?_)⟩
 ·have e:ep D=D.delete aQ:=by unfold ep;rw[Zx (g.1 d)]
  rw[e];exact k
 ·have e:ep D=(0,D):=by unfold ep;rw[Zq λl=>d (g.2 l)]
  rw[e];exact Ok.mk (uV.same (P.af c) c.keep)
def BK(C:pU b)(u:Row aM 8 b f d a s)(v:∀j∈s,aN j)(hD:∀e,f e->e<b.heap.size)(E:s.length<=64):
  YX 195 #[.agg #[.slice d a c]] b (Ok (pC fN 5 b (bO s))):=by
 have F:=u.len;refine wG (PA.mk λH I s1 w=>⟨_,_,_,ae w rfl,PC.ok (AX (m:=(a:Int)) bb (Row.nil H λ_=>False) ba λ_ J=>J.elim) ?_⟩);rintro _ L ⟨a2,n2,c2,M,rfl,x,y,N⟩;have O:ai b L:=I.then y;have Q:dZ (a:Int)=bk ((a:Int)::s.take 0):=by simp[bk]
 rw[List.nil_append,Q]at x;refine⟨_,_,_,rfl,_,_,_,ae (y.get w id) rfl,λz m n o i A=>∃P:Nat,i=P/\P<=a/\z=a-P/\∃B,aU fN 5 B A m n o (bk ((a:Int)::s.take P))/\ai b A/\∀e,B e->b.heap.size<=e,
  ⟨_,0,rfl,Qj _,rfl,M,x,O,λe k=>by have:=N e k;omega⟩,?_⟩
 rintro z m n o i _ R ⟨P,rfl,hj,rfl,S,g,h,a0⟩;have a1:(bk ((a:Int)::s.take P)).length<=9*(P+1):=by
  have h1:=fF (l:=(a:Int)::s.take P) (by
   intro j K;rcases Q2.1 K with rfl|K
   ·unfold aN;omega
   ·exact v j (List.mem_of_mem_take K))
  have h2:((a:Int)::s.take P).length=P+1:=by simp;omega
  omega
 have a3:=g.len dC;refine al.dec (λa5=>?_) (λa6=>?_)
 ·obtain⟨e,p,j,rfl,K,T,U⟩:=(u.af h).lN (i:=P) oM
  refine⟨e,p,rfl,oM,oM,_,U,PC.ok (AX T (g.row (bytes:=1) dC ba) ba g.aE) ?_⟩;rintro _ V ⟨W,X,Y,q,rfl,l,r,t⟩;refine⟨_,_,_,rfl,_,?_,P+1,an oM,oM,rfl,q,?_,h.then r,λe k=>by have:=t e k;have:=h.size;omega⟩
  ·omega
  ·have Z:bk ((a:Int)::s.take (P+1))=bk ((a:Int)::s.take P)++dZ j:=by
    rw[Qw,K,<-List.cons_append,iu]
    congr 1
    simp[bk]
   rw[Z];exact l
 ·obtain rfl:P=a:=oM
  rw[Qz oM,F]at g
  change aU fN 5 S R m n o (gK s)at g
  have a7:=xd v E;refine PC.ok (DY (C.af h) (g.row (bytes:=1) dC ba) g.aE) ?_;rintro _ V ⟨_,rfl,W,X,Y,q,rfl,l,r,t⟩;rw[show jY 2 (gK s)=(bO s,0) by unfold jY bO;rw[Zq dC,Zq oM]]at l⊢;exact⟨_,_,_,_,rfl,Ok.mk ⟨_,_,_,q,rfl,l,h.then r,λe k=>by have:=t e k;have:=h.size;omega⟩⟩
def BL{D:ak}(ht:pU b)(hD:aV b a f D)(hl:Row aM 8 b a4 d c s)(a8:∀b8∈s,aN b8)(a3:∀P,a4 P->P<b.heap.size/\¬f P)(a9:∀P,f P->P≠2/\P≠3):
  YX 139 #[ZL a,.agg #[.slice d c i]] b (Ok (uV b a f (bC D s))):=by
 have hn:=hl.len;refine v_ (PA.mk λw1 k1 s1 g1=>PA.mk λk U s2 g2=>PA.mk λw3 H s3 g3=>⟨_,_,_,ae (H.get g2 id) rfl,al.dec (λh=>?_) (λh=>?_)⟩)
 ·refine PS.mk g3 sM λp B s4 g4=>⟨_,ae g4 rfl,?_⟩
  have l:bC D s=(3,D):=by unfold bC;rw[Zx oM]
  rw[l];have y:ai b p:=((k1.then U).then H).new B λP e=>.inr oM;exact Ok.mk (uV.same (hD.af y) y.keep)
 refine PA.mk λp B s4 g4=>?_;have y:ai b p:=((k1.then U).then H).then B;have l:bC D s=nZ s 0 5 D:=by unfold bC;rw[Zq oM]
 rw[l];have I:=hD.aE;refine⟨λa2 M m=>∃(u:Nat) (J:ak) (v:ZN),M=u/\u<=5/\a2=5-u/\nZ s 0 5 D=nZ s u (5-u) J/\aV m a v J/\aj (λP=>f P\/P=k.heap.size) p m/\(∀P,v P->f P\/p.heap.size<=P)/\m.heap[k.heap.size]? =some (.cells #[ZH 0] 34 (0,0)),
  ⟨_,0,D,f,rfl,oM,rfl,rfl,hD.af y,aj.refl _,λP e=>.inl e,B.get g3 id⟩,?_⟩
 rintro a2 M _ x ⟨u,J,v,rfl,hi,rfl,N,C,E,V,ge⟩;have W:∀P,b.heap.size<=P->P<p.heap.size->¬v P:=λP h1 h2 hf=>by
  rcases V P hf with h|h
  ·have:=I P h;omega
  ·omega
 have O:x.heap[b.heap.size]? =some (.cells #[ZL a] 87 (0,0)):=E.get (B.get (H.get (U.get g1 id) id) id) (λq=>q.elim (λh=>by have:=I _ h;omega) (λh=>oM));have gm:x.heap[w1.heap.size]? =some (.cells #[.slice d c i] 230 (0,0)):=E.get (B.get (H.get g2 id) id) (λq=>q.elim (λh=>by have:=I _ h;omega) (λh=>oM));have Q:=E.get g4 (λq=>q.elim (λh=>by have:=I _ h;omega) (λh=>oM));have c6:=E.size;have w:∀(l:Int) (R:ak) (G:ZN) (j:World),aV j a G R->aj (λP=>f P\/P=k.heap.size) p j->(∀P,G P->f P\/p.heap.size<=P)->j.heap[k.heap.size]? =some (.cells #[ZH l] 34 (0,0))->
   nZ s 0 5 D=(l,if l≠0 then(ep R).2 else R)->
   Lv ZP (λb0=>∃A:Int,b0.cell? ⟨k.heap.size,0,none⟩=some (ZH A)/\Ok (uV b a f (nZ s 0 5 D)) (.returned (ZH A)) b0) (λch m=>Ok (uV b a f (nZ s 0 5 D)) (.panicked ch) m)
    ([{target:=.fn (.func 190) #[ZL k.heap.size,ZL b.heap.size],args:= #[]}]:List Deferred) .returning j:=by
  intro l R G j hE r hG X hr;have b9:j.heap[b.heap.size]? =some (.cells #[ZL a] 87 (0,0)):=r.get (B.get (H.get (U.get g1 id) id) id) (λq=>q.elim (λh=>by have:=I _ h;omega) (λh=>oM));have n:∀o (K:ZN) (E':ak),aV o a K E'->cQ G j K o->nZ s 0 5 D=(l,E')->∃A:Int,o.cell? ⟨k.heap.size,0,none⟩=some (ZH A)/\Ok (uV b a f (nZ s 0 5 D)) (.returned (ZH A)) o:=by
   intro o K E' a0 t a1;have c0:¬G k.heap.size:=λh=>(hG _ h).elim (λh=>by have:=I _ h;omega) (λh=>oM);have c7:=r.size;refine⟨l,ae (t.keep.get X c0) rfl,Ok.mk ?_⟩;rw[a1];refine⟨K,rfl,a0,?_,λP e=>?_⟩
   ·have c1:aj f b j:=y.keep.new r λP e=>e.imp id λh=>by omega
    exact c1.new t.keep λP e=>(hG P e).imp id λh=>by omega
   ·rcases t.new P e with h|h
    ·exact(hG P h).imp id λh=>by omega
    ·exact .inr oM
  refine Lv.one sM kR (CallsD.mono (rD (R:=λe' o=>e'= .returned (.tuple #[])/\∃A:Int,o.cell? ⟨k.heap.size,0,none⟩=some (ZH A)/\Ok (uV b a f (nZ s 0 5 D)) (.returned (ZH A)) o) ⟨_,ae X rfl,al.dV (λY=>?_) (λZ=>?_)⟩) ?_)
  ·refine⟨_,ae b9 rfl,PC.ok (qK hE) ?_⟩
   rintro _ o ⟨K,rfl,a0,t⟩;exact⟨_,rfl,rfl,n o K _ a0 t (by rw[hr,Zx Y])⟩
  ·exact⟨rfl,n j G R hE (cQ.refl _ _) (by rw[hr,Zq (by simpa using Z)])⟩
  ·rintro e' u' o ⟨rfl,rfl,hX⟩
   exact Lv.ret rfl hX
 refine al.dec (λc8=>?_) (λc9=>?_)
 ·have b1:u<5:=oM
  have step:∀κ ε,(∀z m,uV x a v (oI s u J) z m->κ z m)->∃b2:Value,x.cell? ⟨w3.heap.size,0+Int.toNat (u:Int),none⟩=some b2/\∃a5 a7 b3,b2= .func (.func a5) a7 b3/\enters ZP a5=true/\PC ZP a5 (a7++ #[]++b3) x κ ε:=by
   intro κ ε g;rw[Qx,Xz];have n:∀{b4:Int×ak} {z m},uV x a v b4 z m->∃M:Int,z= ZH M/\Ok (uV x a v b4) (.returned (ZH M)) m:=λh=>lA _ _ (aj.refl _) h
   match u,b1,g with
   |0,_,g=>exact⟨_,ae Q rfl,_,_,_,rfl,kR,PC.ok (tx ⟨_,ae O rfl,PC.ok (qK C) λz m h=>n h⟩) g⟩
   |1,_,g=>exact⟨_,ae Q rfl,_,_,_,rfl,kR,PC.ok (tA ⟨_,ae O rfl,PC.ok (xz C) λz m h=>n h⟩) g⟩
   |2,_,g=>
    refine⟨_,ae Q rfl,_,_,_,rfl,kR,PC.ok (φ:=uV x a v (oI s 2 J)) (tB λj d6=>?_) g⟩;have r:ai x j:=d6.keep;have F:aj (λP=>f P\/P=k.heap.size) p j:=E.then r.keep;have c2:Row aM 8 j a4 d c s:=(hl.af y).keep F λP e q=>q.elim (a3 P e).2 λh=>by have:=(a3 P e).1;omega
    have c3:pU j:=by
     have:=(ht.af y)
     have d0:b.heap.size<=p.heap.size:=y.size;have h1:=ht.lt;have hz:=F.size;refine⟨λS hj=>?_,λS hj=>?_,oM⟩
     ·exact(this.lower S hj)▸F.cell (a:=⟨2,S,none⟩) (by show 2<_;omega) (λq=>q.elim (λh=>(a9 _ h).1 rfl) (λh=>by have h:2=k.heap.size:=h;omega))
     ·exact(this.upper S hj)▸F.cell (a:=⟨3,S,none⟩) (by show 3<_;omega) (λq=>q.elim (λh=>(a9 _ h).2 rfl) (λh=>by have h:3=k.heap.size:=h;omega))
    refine⟨v,W _ (Q4 _) oM,_,ae (r.get O id) rfl,_,_,_,ae (r.get gm id) rfl,PC.ok (BK c3 c2 a8 (λP e=>by have:=(a3 P e).1;have:=y.size;have:=F.size;omega) oM) ?_⟩;rintro _ o ⟨d1,n7,d2,F7,rfl,a6,L,c4⟩;have d3:=qL s;have d4:=xd a8 oM;refine⟨_,_,_,rfl,L.keep,PC.ok (xA ((C.af r).af L) (a6.row dC ba) (λl=>a6.Nl l) λP e=>⟨a6.aE P e,λhf=>by have:=C.aE P hf;have:=c4 P e;have:=r.size;omega⟩) ?_⟩;rintro _ w8 ⟨F8,rfl,c5,t⟩;exact⟨_,rfl,t.keep,Ok.mk ⟨F8,rfl,c5,(cQ.mk (ai.keep (r.then L)) λ_ h=>.inl h:cQ v x v o).trans t⟩⟩
   |3,_,g=>exact⟨_,ae Q rfl,_,_,_,rfl,kR,PC.ok (tC ⟨_,ae O rfl,PC.ok (DS C) λz m h=>n h⟩) g⟩
   |4,_,g=>exact⟨_,ae Q rfl,_,_,_,rfl,kR,PC.ok (tD ⟨_,ae O rfl,PC.ok (HT C) λz m h=>n h⟩) g⟩
  refine⟨_,_,rfl,oM,oM,step _ _ ?_⟩;rintro _ j ⟨F6,rfl,h6,t⟩;have b5:∀P,F6 P->P≠k.heap.size:=λP e l=>by
   subst l;rcases t.new _ e with h|h
   ·exact W _ oM oM h
   ·omega
  have b6:∀P,F6 P->f P\/p.heap.size<=P:=λP e=>by
   rcases t.new P e with h|h
   ·exact V P h
   ·exact .inr oM
  have F:aj (λP=>f P\/P=k.heap.size) p j:=E.new t.keep λP e=>(V P e).imp .inl id;refine⟨_,rfl,PS.mk (t.keep.get ge (W _ oM oM)) sM λo L s7 T=>?_⟩;have h7:=h6.keep L λP e=>b5 P e;have b7:aj (λP=>f P\/P=k.heap.size) p o:=F.then (L.mono λP _ e=>.inr e);rw[NX s b1]at N;refine⟨_,ae T rfl,al.dV (λY=>?_) (λZ=>?_)⟩
  ·refine⟨_,ae T rfl,PS.mk T sM λw8 k8 s8 g8=>?_⟩
   exact w _ _ F6 w8 (h7.keep k8 λP e=>b5 P e) (b7.then (k8.mono λP _ e=>.inr e)) b6 g8 (by rw[N,Zx Y,Zx Y])
  ·rw[Zq (by simpa using Z)]at N
   rw[Z]at T;exact⟨rfl,_,oM,u+1,_,F6,an oM,oM,rfl,N,h7,b7,b6,T⟩
 ·obtain rfl:u=5:=oM
  refine⟨_,ae ge rfl,PS.mk ge sM λj r s6 X=>?_⟩;refine w 0 J v j (C.keep r λP e l=>W P oM oM e) (E.then (r.mono λP _ e=>.inr e)) V X ?_;rw[N];rfl
def Dh{D:ak}(ht:pU b)(hD:aV b a f D):
  YX 136 #[ZL a] b (Ok λQ i=>∃n o p G,Q= .tuple #[.agg #[.slice n o p],.bool (dz D).isSome]/\aU aM 3 G i n o p ((dz D).getD [])/\ai b i/\∀P,G P->b.heap.size<=P):=by
 refine yE (PA.mk λA C s1 g1=>PC.ok (wS (hD.af C)) ?_);rintro _ w2 ⟨_,rfl,a7,n2,c2,F2,rfl,u,R,e7⟩
 change aU fN 5 F2 w2 a7 n2 c2 (D.read bS).1 at u
 have b3:(D.read bS).1.length<=262144:=by
  unfold ak.read;split
  ·simp
  ·split
   ·simp
   ·rename_i e8 hf;exact hD.ok.len (cf hf)
 have a3:∀{i},ai A i->i.heap[b.heap.size]? =some (.cells #[.slice none 0 0] 230 (0,0)):=λhk=>hk.get g1 id;have e:dz D=none->∀v,ai A v->PS v ⟨b.heap.size,0,none⟩ (.slice none 0 0) λw=>∃(b4:YQ) (b5:Nat) (b6:Nat),w.cell? ⟨b.heap.size,0,none⟩=some (.slice b4 b5 b6)/\
   Ok (λQ i=>∃n o p G,Q= .tuple #[.agg #[.slice n o p],.bool (dz D).isSome]/\aU aM 3 G i n o p ((dz D).getD [])/\ai b i/\∀P,G P->b.heap.size<=P) (.returned (.tuple #[.agg #[.slice b4 b5 b6],.bool false])) w:=by
  intro S v E;refine PS.mk (a3 E) sM λw4 T s4 U=>⟨_,_,_,ae U rfl,?_⟩
  rw[S];exact Ok.mk ⟨none,0,0,λ_=>False,rfl,aU.nil w4,(C.then E).new T λP c=>.inr oM,λ_ h=>h.elim⟩
 refine⟨_,_,_,_,rfl,al.dV (λl=>e (by unfold dz;exact Zx l) w2 R) (λS=>?_)⟩;have B:dz D=il (D.read bS).1:=by unfold dz;exact Zq λh=>h S
 generalize(D.read bS).1=F at u b3 B;have d5:=u.len dC;refine PC.ok (DZ (ht.af (C.then R)) (u.row (bytes:=1) dC ba) u.lM u.aE) ?_;rintro _ v ⟨c3,n3,d1,F3,rfl,b7,E,e9⟩;refine⟨_,_,_,_,_,_,rfl,PA.mk λw4 T s4 U=>PS.mk U sM λw5 k5 s5 g5=>PS.mk g5 sM λx k6 s6 g6=>?_⟩;have V:x.heap[v.heap.size]? =some (.cells #[ZH (bt F).kind,.slice c3 n3 d1] 292 (0,0)):=g6;have W:ai v x:=(T.new k5 λP c=>.inr oM).new k6 λP c=>.inr oM;have s:ai A x:=(R.then E).then W;have f0:=W.size;refine al.dV (λl=>e (by rw[B];unfold il;exact Zx (.inl l)) x s) (λb8=>?_);refine al.dV (λl=>e (by rw[B];unfold il;exact Zx (.inr (.inl λg=>l (by rw[g,d5])))) x s) (λg0=>?_);refine⟨_,ae V rfl,al.dV (λl=>e (by rw[B];unfold il;exact Zx (.inr (.inr l))) x s) (λd6=>?_)⟩;have X:dz D=if gI (jQ (bt F).body).2≠0 then none else some (jQ (bt F).body).1:=by
  rw[B];unfold il;refine Zq ?_;rintro(h|h|h)
  ·exact h b8
  ·exact h oM
  ·exact h d6
 have Y:=b7.af W;obtain⟨g2,h9,d7⟩:=vd b8;generalize(bt F).body=d at Y X d7 V b7;refine⟨_,_,_,ae V rfl,PC.ok (DV (Y.row (bytes:=1) dC ba) Y.aE) ?_⟩;rintro _ w ⟨H,a4,rfl,I,k7,hP⟩;refine⟨_,rfl,PA.mk λw8 k8 s8 g8=>PC.ok (HW (m:=64) (I.af k8)) ?_⟩;rintro _ t ⟨rfl,Z,k9⟩;have b9:=I.aE;have hq:=I.self;have g3:=b9 H hq;have g7:=hP H hq;obtain⟨c1,a8,c0,c4⟩:=gH.Fit.count (r:=⟨d,0,0⟩) ⟨Qj _,.inl rfl⟩ (m:=64) oM;have g9:t.heap[w.heap.size]? =some (.cells #[.slice none 0 0] 230 (0,0)):=k9.get g8 (λg=>oM);have J:jQ d=aW (bF 64 ⟨d,0,0⟩).1.toNat (bF 64 ⟨d,0,0⟩).2:=rfl;have K:ai A t:=((s.then k7).then k8).new k9 λP c=>.inr (by have:=s.size;omega);generalize h2:bF 64 ⟨d,0,0⟩=ct at Z c1 a8 c0 c4 J;obtain⟨cn,L⟩:=ct;simp only at Z c1 a8 c0 c4 J;refine⟨_,rfl,λm a5 i=>∃j:Nat,a5=j/\(j:Int)<=cn/\m=cn.toNat-j/\fp i H a4 (aW j L).2/\ai A i/\∃n o p G,i.heap[w.heap.size]? =some (.cells #[.slice n o p] 230 (0,0))/\aU aM 3 G i n o p (aW j L).1/\(∀P,G P->t.heap.size<=P)/\t.heap.size<=i.heap.size,
  ⟨_,0,rfl,a8,rfl,Z,K,none,0,0,λ_=>False,g9,aU.nil t,λ_ h=>h.elim,Q4 _⟩,?_⟩
 have h3:=k9.size;rintro m a5 _ c5 ⟨j,rfl,hj,rfl,a0,M,c6,c7,c8,c9,a9,y,q,f2⟩;have d8:∀P,a4 P->P<t.heap.size:=λP c=>by have:=b9 P c;omega
 refine al.dec (λh4=>?_) (λh5=>?_)
 ·intro N b0
  have k:ai c5 N:=b0.keep;refine⟨(λP=>P=H\/c9 P),λhs=>hs.elim (λg=>oM) (λg=>by have:=q _ g;omega),_,_,_,ae (k.get a9 id) rfl,PC.ok (FR (a0.af k)) ?_⟩;rintro _ d0 ⟨rfl,d2,r⟩;obtain⟨f1,f4,f3,f5⟩:=c1.ints j;obtain⟨f7,f6,f8⟩:=f1.int;refine⟨_,rfl,r.mono λP _ c=>.inl c,?_⟩;have a1:=(y.af k).keep r λP c g=>by have:=q P c;omega
  refine PA.mk λh6 z h7 d9=>⟨z.keep,?_⟩
  have d4:=a1.af z;have d3:(aW j L).1.length=j:=f3;refine kK d4 sj (D:=(·=d0.heap.size)) (Row.lit d9 [(eY (aW j L).2).1] rfl (λf9 hx=>by simp at hx;subst hx;exact f6) (by unfold aO;simp)) (λP g=>⟨oM,λe2=>by have:=a1.aE P (a1.self P e2);omega⟩) (by rw[d3];unfold aO;simp;omega) (by rw[d3];unfold maxLen;simp;omega) λb1 e0 e1 h8 a2 O _ e3=>?_
  replace a2:=a2.alone
  have e4:e1.heap[w.heap.size]? =some (.cells #[.slice c6 c7 c8] 230 (0,0)):=O.get (z.get (r.get (k.get a9 id) (λg=>oM)) id) (λg=>by have:=q _ (y.self _ g);omega);have z1:=k.size;have z2:=r.size;have z3:=z.size;have z4:=O.size;have a6:∀P,aH b1=some P->t.heap.size<=P:=λP c=>by
   rcases e3 P c with h|h
   ·exact q P h
   ·omega
  refine⟨_,_,_,rfl,PS.mk e4 sM λi0 b2 i1 e5=>⟨_,oM,j+1,an oM,oM,rfl,?_,?_,b1,_,e0,(λP=>aH b1=some P),e5,?_,a6,oM⟩⟩
  ·refine(((d2.af z).keep O λP c g=>by have:=d8 P c;have:=q P (y.self P g);omega)).keep b2 λP c g=>by have:=I.aE P c;omega
  ·refine((((M.then k).new r λP c=>.inr (by have:=s.size;omega)).then z).new O λP c=>.inr (by have:=q P (y.self P c);have:=K.size;omega)).new b2 λP c=>.inr (by have:=(s.then k7).size;omega)
  ·exact a2.keep b2 λP c g=>by have:=a6 P c;omega
 ·obtain rfl:cn=(j:Int):=oM
  rw[Qx]at J;rw[<-J]at a0 y;refine PC.ok (Md a0) ?_;rintro _ N ⟨rfl,b0⟩;have k:ai c5 N:=b0.keep;refine⟨_,rfl,al.dV (λl=>e (by rw[X];exact Zx l) N (M.then k)) (λh0=>?_)⟩;have hS:dz D=some (jQ d).1:=by rw[X];exact Zq λh=>h h0
  rw[hS];refine⟨_,_,_,ae (k.get a9 id) rfl,PS.mk (a3 (M.then k)) sM λd0 r i2 e6=>⟨_,_,_,ae e6 rfl,Ok.mk ⟨c6,c7,c8,c9,rfl,?_,?_,?_⟩⟩⟩
  ·exact(y.af k).keep r λP c g=>by have:=q P c;have:=K.size;omega
  ·exact(C.then (M.then k)).new r λP c=>.inr oM
  ·intro P c;have:=q P c;have:=K.size;omega
def EM{x y:Operand}{a b c d:Int}{w:World}:(do eqGuard .eql 39 x y (.agg #[ZH a,ZH b]) (.agg #[ZH c,ZH d]);binOp .eql 39 (.agg #[ZH a,ZH b]) (.agg #[ZH c,ZH d]):Sem Value).run ZP w= .ok (.bool (a==c&&b==d)) w:=by
 have g:Tryz.prog.underlying 39=some (.struct (Tryz.prog.fieldsOf 39)):=kR
 have f:Tryz.prog.underlying 3=some (.int .i64):=kR
 have P:(Tryz.prog.fieldsOf 39).toList.map (λe=>(e.name,e.type,e.offset))=[("Origin",3,0),("Seq",3,1)]:=kR
 rw[Sem.run_bind,run_eqGuard_agg w .eql _ x y _ _ kR,Result.andThen_ok,run_eql_struct,run_equalIn_struct w 9999 _ _ _ g kR];generalize(Tryz.prog.fieldsOf 39).toList=h at P
 match h,P with
 |[e,t],P=>
  simp only[QY,List.map_nil,List.cons.injEq,Prod.mk.injEq,and_true]at P;obtain⟨⟨i,j,k⟩,l,m,n⟩:=P;have o:(isAgg 3).run ZP w= .ok false w:=de _ _ _ kR ⟨_,f⟩ w;have p:=run_equalIn_int (P:=ZP) w 9998 3 .i64 .i64 a c f;have q:=run_equalIn_int (P:=ZP) w 9998 3 .i64 .i64 b d f;unfold Op.eqFields Op.eqFields Op.eqFields;rw[i,j,k,l,m,n]
  cases r:a==c<;>simp[part,o,p,q,r]
  by_cases s:b=d<;>simp[s]
 |[],P=>simp at P
 |[_],P=>simp at P
 |_::_::_::_,P=>simp at P
def lY{c k s t:Nat}{xs ys:List Int}{D u:ZN}(e:Row aM 8 b D d c xs)(l:Row aM 8 b u r k ys):
  YX 22 #[.slice d c s,.slice r k t] b (Ok λv f=>v= .bool (decide (xs=ys))/\bX b f):=by
 have w:=e.len;have x:=l.len;have y:=e.dO;unfold aO at y;refine Ao (al.dV (λm=>?_) (λm=>?_))
 ·have g:xs≠ys:=by rintro rfl;simp[w,x]at m
  exact Ok.mk ⟨by simp[g],bX.refl b⟩
 ·refine⟨λn i f=>∃P:Nat,i=P/\P<=c/\n=c-P/\xs.take P=ys.take P/\bX b f,⟨_,0,rfl,Qj _,rfl,rfl,bX.refl b⟩,?_⟩
  rintro n i _ K ⟨P,rfl,L,rfl,o,a⟩;refine al.dec (λz=>?_) (λz=>?_)
  ·obtain⟨A,B,M,rfl,p,_,C⟩:=(e.af a.keep).lN (i:=P) oM
   obtain⟨E,F,N,rfl,h,_,H⟩:=(l.af a.keep).lN (i:=P) oM;refine⟨A,B,rfl,oM,oM,_,C,E,F,rfl,oM,oM,_,H,λO q=>?_⟩;refine al.dV (λj=>?_) (λj=>?_)
   ·have g:xs≠ys:=by rintro rfl;rw[p]at h;cases h;exact j rfl
    exact Ok.mk ⟨by simp[g],a.then q⟩
   ·subst j
    exact⟨_,oM,P+1,an oM,oM,rfl,Ec o p h,a.then q⟩
  ·have:xs=ys:=by
    have I:xs.take P=xs:=Qz oM;have J:ys.take P=ys:=Qz oM;rw[<-I,<-J,o]
   exact Ok.mk ⟨by simp[this],a⟩
def sv{D:ZN}(k:Row aM 8 b D d a s):
  YX 94 #[.slice d a c] b (Ok (pC aM 3 b s)):=by
 have F:=k.len;have u:=k.dO;unfold aO at u;refine Av ⟨λo p P q i r=>i=(P:Int)/\P<=a/\o=a-P/\∃f,aU aM 3 f r p P q (s.take P)/\ai b r/\∀e,f e->b.heap.size<=e,
  ⟨_,rfl,Qj _,rfl,λ_=>False,by simpa using aU.nil b,aj.refl _,λ_ h=>h.elim⟩,?_⟩
 rintro o p P q i _ H ⟨rfl,I,rfl,f,g,j,l⟩;refine al.dec (λv=>?_) (λv=>?_)
 ·obtain⟨e,m,x,rfl,w,y,z⟩:=(k.af j).lN (i:=P) oM
  have t:(s.take P).length=P:=by simp;omega
  refine⟨e,m,rfl,oM,oM,_,z,Hf g sj (x:=x) (D:=λ_=>False) ⟨rfl,y⟩ (λ_ h=>h.elim) (by rw[t];unfold aO;omega) (by rw[t];unfold maxLen;omega) λJ K L A B C E _=>?_⟩;refine⟨_,_,_,rfl,a-(P+1),oM,an oM,oM,rfl,A,?_,j.new C λe n=>.inr (l e (g.self e n)),?_⟩
  ·rw[Qw,w];exact B
  ·intro e n
   rcases E e n with h|h|h
   ·exact l e h
   ·exact h.elim
   ·exact Xx j.size h
 ·obtain rfl:P=a:=oM
  rw[Qz oM]at g;exact Ok.mk ⟨_,_,_,f,rfl,g,j,l⟩
def lK{D y:ZN}(z:Row aM 8 b D d a l.aJ)(A:Row aM 8 b y r c K.aJ):
  YX 51 #[.agg (aD l d a i).toArray,.agg (aD K r c o).toArray] b (Ok λn h=>n= .bool (decide (l=K))/\ai b h):=by
 have no:∀{h},ai b h->l≠K->Ok (λn h=>n= .bool (decide (l=K))/\ai b h) (.returned (.bool false)) h:=λB C=>Ok.mk ⟨by rw[Xv C],B⟩;refine yz (PA.mk λI E J F=>PA.mk λs t L k=>?_);have e:=t.get F id;have m:ai b s:=E.then t;refine⟨_,_,ae e rfl,ae e rfl,_,_,ae k rfl,ae k rfl,aG.mk EM ⟨_,rfl,al.mk (λp=>?_) (λp=>?_)⟩⟩
 rotate_left
 ·exact no m λP=>by subst P;simp at p
 refine⟨_,ae e rfl,_,ae k rfl,al.eD (λu=>?_) (λu=>no m λP=>u (by rw[P]))⟩;refine⟨_,_,_,ae e rfl,_,_,_,ae k rfl,PC.ok (lY (z.af m) (A.af m)) ?_⟩;rintro _ v ⟨rfl,H⟩;have q:ai s v:=H.keep;have e:=q.get e id;have j:=q.get k id;have g:ai b v:=m.then q;refine⟨_,rfl,al.dec (λw=>?_) (λw=>no g λP=>w (by rw[P]))⟩;refine⟨_,ae e rfl,_,ae j rfl,al.eD (λM=>?_) (λf=>no g λP=>f (by rw[P]))⟩;refine⟨_,ae e rfl,_,ae j rfl,al.eD (λN=>?_) (λf=>no g λP=>f (by rw[P]))⟩;refine⟨_,ae e rfl,_,ae j rfl,al.eD (λO=>?_) (λf=>no g λP=>f (by rw[P]))⟩;refine⟨_,ae e rfl,_,ae j rfl,al.eD (λQ=>?_) (λf=>no g λP=>f (by rw[P]))⟩;refine⟨_,ae e rfl,_,ae j rfl,al.eD (λR=>?_) (λf=>no g λP=>f (by rw[P]))⟩;refine⟨_,ae e rfl,_,ae j rfl,Ok.mk ⟨?_,g⟩⟩
 congr 1
 have S:l.origin=K.origin/\l.seq=K.seq:=by simpa using p
 by_cases x:l.key=K.key
 ·have:l=K:=by cases l;cases K;simp_all
  subst this;simp
 ·rw[Xv λP=>x (by rw[P])]
  simp[x]
def Bo{e n w x:Nat}{D y:ZN}(g:Row ia 96 b D d e B)(o:Row ia 96 b y r n e0):
  YX 18 #[.slice d e w,.slice r n x] b (Ok λz h=>z= .bool (decide (B=e0))/\ai b h):=by
 have A:=g.len;have C:=o.len;have E:=g.dO;unfold aO at E;refine wg (al.dV (λp=>?_) (λp=>?_))
 ·have j:B≠e0:=by rintro rfl;simp[A,C]at p
  exact Ok.mk ⟨by simp[j],aj.refl b⟩
 ·refine⟨λq i h=>∃c:Nat,i=c/\c<=e/\q=e-c/\B.take c=e0.take c/\ai b h,⟨_,0,rfl,Qj _,rfl,rfl,aj.refl b⟩,?_⟩
  rintro q i _ S ⟨c,rfl,T,rfl,s,t⟩;refine al.dec (λF=>?_) (λF=>?_)
  ·intro H I
   have f:ai b H:=t.then I.keep;obtain⟨J,K,U,V,rfl,_,_,u,L,W,X,Y,rfl,M,Z⟩:=(g.af f).vQ (i:=c) oM;obtain⟨N,O,a0,fs,rfl,_,_,k,Q,a2,n2,c2,rfl,R,a3⟩:=(o.af f).vQ (i:=c) oM;have P:=λi (l:i<10)=>L i l;have a:=λi (l:i<10)=>Q i l;refine⟨J,K,rfl,oM,oM,_,_,_,_,_,_,_,_,_,_,_,_,P 0 dC,P 1 dC,P 2 dC,P 3 dC,P 4 dC,P 5 dC,P 6 dC,P 7 dC,P 8 dC,P 9 dC,?_⟩;refine⟨N,O,rfl,oM,oM,_,_,_,_,_,_,_,_,_,_,_,_,a 0 dC,a 1 dC,a 2 dC,a 3 dC,a 4 dC,a 5 dC,a 6 dC,a 7 dC,a 8 dC,a 9 dC,?_⟩;refine PC.ok (lK M R) ?_;rintro _ w3 ⟨rfl,v⟩;refine⟨_,rfl,al.not (al.dec (λm=>?_) (λm=>?_))⟩
   ·subst m
    exact⟨_,oM,c+1,an oM,oM,rfl,Ec s u k,f.then v⟩
   ·have j:B≠e0:=by rintro rfl;rw[u]at k;cases k;exact m rfl
    exact Ok.mk ⟨by simp[j],f.then v⟩
  ·have:B=e0:=by
    have P:B.take c=B:=Qz oM;have a:e0.take c=e0:=Qz oM;rw[<-P,<-a,s]
   exact Ok.mk ⟨by simp[this],t⟩
def KK{D:ZN}(h:Row ia 96 b D d a B):
  YX 65 #[.slice d a c] b (Ok λn j=>n= .bool (decide ((∃e∈B,100<e.aJ.length)\/200<B.length))/\b=j):=by
 have w:=h.len;have o:=h.dO;unfold aO at o;refine FC ⟨λl i j=>∃f:Nat,i=f/\f<=a/\l=a-f/\(∀e∈B.take f,¬100<e.aJ.length)/\b=j,⟨_,0,rfl,Qj _,rfl,sM,rfl⟩,?_⟩;rintro l i _ x ⟨f,rfl,y,rfl,k,rfl⟩;refine al.dec (λp=>?_) (λp=>?_)
 ·obtain⟨q,r,s,z,rfl,_,_,m,t,A,C,E,rfl,u,F⟩:=h.vQ (i:=f) oM
  have H:=u.len;refine⟨q,r,rfl,oM,oM,_,_,_,t 3 dC,al.dec (λv=>?_) (λv=>?_)⟩
  ·exact Ok.mk ⟨by rw[Zy (.inl ⟨s,QZ m,oM⟩)],rfl⟩
  ·refine⟨_,oM,f+1,an oM,oM,rfl,λe P=>?_,rfl⟩
   rw[Qw,m]at P;rcases Q6.1 P with P|P
   ·exact k e P
   ·simp at P;subst P;omega
 ·rw[Qz oM]at k
  refine Ok.mk ⟨?_,rfl⟩
  congr 1
  refine decide_eq_decide.2 ⟨λg=>.inr oM,λg=>g.elim (λ⟨e,P,g⟩=>Zz g (k e P)) λg=>oM⟩
end Go.Proofs.YtblabbpipmodgaaGreatDoor
namespace Go.aw
open Go.ChangeShapes Go.WideShapes Go.ChangeAt Go.RowKit
def jw{P:Type}(a:Program)(b:TypeId)(c:DataW P):Prop:=∀d∈c.weights a b,d<=reachBytes
abbrev In(P:World):ZN:=λa=>a<P.heap.size
variable{e:Int}{a c:Nat}{j:Type}{g n:TypeId}{u:Value}
section
variable {H:Type} {enc:TypeId×Value->H} {P:Program} {w:World} {base:Nat} {held:Bool}
def HY{a:List TypeId}{b:List (DataW H)}(d:(DataW.weightsEach P a b).all (·<=reachBytes)=true){j:Nat}{c:DataW H}(e:a[j]? =some g)(f:b[j]? =some c):jw P g c:=
 λh i=>by simpa using ZY.1 d _ (DataW.weights_mem_each e f h i)
def qv{c:TypeId}:∀{a:List (DataW H)} {d:DataW H},d∈a->∀b∈d.weights P c,b∈DataW.weightsAll P c a
 |x::a,d,h,b,e=>by
  simp only[DataW.weightsAll,Q6];rcases Q2.1 h with rfl|h
  ·exact Or.inl e
  ·exact Or.inr (qv h b e)
def Reads{d:Type}(P:Program)(e:jU d)(b:TypeId):Prop:=
 ∀(H:Type) (enc:TypeId×Value->H) (w:World) (held:Bool) (a:Nat) (cs:List Value) (c:DataW H×List MemPlace),DataW.trod enc P w 0 (λ_=>true) held a b cs=some c->jw P b c.1->∃f,e.rep w (In w) f cs
def kM{b:Option _}(P:w.cell? ⟨a,c,b⟩=some u):a<w.heap.size:=by
 unfold World.cell? at P
 by_cases d:a<w.heap.size
 ·exact d
 ·rw[show w.heap[a]? =none by simp;omega]at P;cases P
def open_row{k:jU j}{bytes v:Nat}{cs:List Value}{B:DataW H×List MemPlace}(I:P.underlying g=some (.slice n))(Q:P.cellsOf n=k.k)(J:0<k.k)(R:P.bytesOf n=bytes)(S:Reads P k n)(p:DataW.trod enc P w 0 (λ_=>true) held v g cs=some B)(T:jw P g B.1):
  ∃b q f U,cs=[.slice b q f]/\q<=f/\(b=none->q=0/\f=0)/\Row k bytes w (In w) b q U:=by
 rcases DataW.trod_slice I p with⟨rfl,rfl⟩|⟨b,c,f,a,h,q,_,rfl,rfl,hb,V,hm,a4,W,a5,a6⟩
 ·exact⟨none,0,0,[],rfl,Q4 _,λ_=>⟨rfl,rfl⟩,Row.nil _ _⟩
 ·have x:∀l∈(a.length+h.length)*P.bytesOf n::(DataW.weightsAll P n (a.map (·.1))++DataW.weightsAll P n (h.map (·.1))),l<=reachBytes:=by
   have:=T;simpa only[jw,DataW.weights,I,Q8]using this
  have read:∀e,e<c->∃d l,a[e]? =some l/\d.length=k.k/\(∀i,i<k.k->w.cell? (b.add (e*k.k+i))=d[i]?)/\DataW.trod enc P w 0 (λ_=>true) held q n d=some l:=by
   intro e o;have K:=W e o;rw[Q,Qq (by omega:e<a.length)]at K;obtain⟨d,A,y⟩:=Option.bind_eq_some_iff.1 K;obtain⟨_,C,s⟩:=World.cells?_some A;exact⟨d,_,Qq oM,C,λi E=>by rw[<-Addr.add_add];exact s i E,y⟩
  have X:0<c->b.spot=none:=by
   intro Y;obtain⟨d,l,_,C,s,_⟩:=read 0 Y;have:=s 0 J;rw[Nat.zero_mul,Nat.add_zero,Qq oM]at this;have n:b.add 0=b:=by simp[Addr.add]
   rw[n]at this;unfold World.cell? at this;split at this
   ·cases t:b.spot with
    |none=>rfl
    |some L=>rw[t]at this;simp at this
   ·cases this
  have one:∀e,e<c->∃r,∃u z M,some b=some ⟨u,z,none⟩/\u<w.heap.size/\In w u/\(∀i,i<k.k->w.cell? ⟨u,z+e*k.k+i,none⟩=M[i]?)/\k.rep w (In w) r M:=by
   intro e o;have t:=X oM;have N:∀F,b.add F=⟨b.block,b.off+F,none⟩:=by
    intro F;obtain⟨u,Z,L⟩:=b;simp only at t;subst t;unfold Addr.add;split
    ·next p=>subst p;rfl
    ·rfl
   obtain⟨d,l,y,C,s,h5⟩:=read e o;have a0:jw P n l.1:=λr m=>x r (QJ _ (ZV _ (qv (d:=l.1) (Xk.2 ⟨l,QZ y,rfl⟩) r m)));obtain⟨r,m⟩:=S H enc w held q d l h5 a0;have O:b.block<w.heap.size:=by
    have:=s 0 J;rw[N,Qq oM]at this;exact kM this
   refine⟨r,b.block,b.off,d,?_,O,O,λi E=>?_,m⟩
   ·obtain⟨u,Z,L⟩:=b
    simp only at t;rw[t]
   ·have:=s i E
    rw[N]at this;rw[<-this,Nat.add_assoc]
  have a1:c*bytes<=aO:=by
   have A:=x _ (QV ..);have y:c*P.bytesOf n<=(a.length+h.length)*P.bytesOf n:=Q0 _ oM;rw[R]at A y;unfold reachBytes at A;unfold aO;omega
  by_cases m:c=0
  ·subst m
   exact⟨some b,0,f,[],rfl,Qj _,λp=>(by cases p),rfl,sM,λe B o=>(by simp at o)⟩
  ·have a2:Nonempty j:=⟨(one 0 oM).choose⟩
   haveI:Inhabited j:=⟨Classical.choice a2⟩
   obtain⟨a3,hf⟩:=Go.Deep.choose_lt one;refine⟨some b,c,f,(List.range c).map a3,rfl,V,λp=>(by cases p),sM,a1,λe r m=>?_⟩
   by_cases o:e<c
   ·rw[Q9,List.getElem?_range o]at m
    cases m
    exact hf e o
   ·rw[Q7 bc]at m;cases m
def aP(P:(Lit.int .i64 e).wf=true):aN e:=by
 have:IntKind.i64.min<=e/\e<=IntKind.i64.max:=by simpa[Lit.wf]using P
 exact this
def DU(b:P.underlying g=some (.int .i64)):Reads P aM g:=λH enc w held a cs f c h=>by
 obtain⟨d,rfl,-,e⟩:=DataW.trod_int b c;exact⟨d,rfl,aP e⟩
end
section
variable {H:Type} {enc:TypeId×Value->H} {P:Program} {w:World} {held:Bool} {r:Reach} {b0:Nat} {v:Value} {d:DataW H} {ps:List MemPlace}
def PR(b:P.underlying g=some (.int .i64))(c:Value.okWide P w r b0 g v)(e:DataW.Trod enc P w 0 (λ_=>true) held g v d ps):∃a,v= ZH a/\aN a:=by
 obtain⟨a,rfl,-,-,f⟩:=open_int b c e;exact⟨a,rfl,aP f⟩
def Uo{b:jU j}{bytes:Nat}(h:P.underlying g=some (.slice n))(l:P.cellsOf n=b.k)(m:0<b.k)(o:P.bytesOf n=bytes)(p:Reads P b n)(q:Value.okWide P w r b0 g v)(s:DataW.Trod enc P w 0 (λ_=>true) held g v d ps)(t:jw P g d):
  ∃e c a f,v= .slice e c a/\c<=a/\(e=none->c=0/\a=0)/\Row b bytes w (In w) e c f:=by
 obtain⟨e,c,b,rfl⟩:=okWide_slice h q;obtain⟨i,u⟩:=s;obtain⟨y,z,A,f,k,x⟩:=open_row h l m o p u t;simp only[Value.cells]at k
 cases k
 exact⟨_,_,_,f,rfl,x⟩
end
variable{p:Array Value}{a5:Func}{f8:List MemPlace}{b k:World}
def ai.below(P:ai b k):Below b.heap.size b k:=⟨P.os,P.tape,P.output,P.size,λa c=>P.block a c id⟩
section
variable {H:Type} {enc:TypeId×Value->H} {P:Program}
def ve(j:laidOutB P=true){f k:World}(l:ai f k){m:Nat->Bool}:∀{c:List TypeId} {n:List Value} {o:List (DataW H)} {d:List MemPlace},c.all (λg=>P.readableRec g&&decide (g<P.types.size))=true->(∀a∈d,a.block<f.heap.size)->(∀a∈d,m a.block=true)->
  DataW.TrodAll enc P f 0 (λ_=>true) true c n o d->DataW.TrodAll enc P k 0 m true c n o d
 |[],_,_,_,_,_,_,b=>by
  obtain⟨rfl,rfl,rfl⟩:=trodAll_nil b;exact trodAll_mk0
 |g::c,_,_,_,e,p,q,b=>by
  obtain⟨t,u,v,w,x,y,rfl,rfl,rfl,r,s⟩:=trodAll_cons b;simp only[List.all_cons,QK,Zk]at e;refine trodAll_cons_mk (WideElems.Trod_stays j e.1.1 e.1.2 r (λh i=>l.below.same (p h (ZV _ i))) λh i=>q h (ZV _ i)) (ve j l (by simpa using e.2) (λa b=>p a (ZW _ b)) (λa b=>q a (ZW _ b)) s)
def Nz{d:ChangeSpec}{f n:List (DataW H)}{tb:TypeId}{a i E j:Bool}(F:laidOutB P=true)(u:a5.resultTypes= #[tb])(v:P.underlying tb=some .bool)(w:d.vars=[])(I:(d.fn H (f++n)).results=[.lit (.bool true)])(J:(d.fn H (f++n)).args=f)(K:(d.fn H (f++n)).vars=[])(L:a5.params.toList.all (λx=>P.readableRec x&&decide (x<P.types.size))=true)(o:DataW.Whole enc P a5.params.toList d.vars a b p.toList f n f8)(q:ai b k):d.post enc P a5 a i E j b p (.bool true) k:=by
 have M:=o;have r:=λc e=>o.lt c e;obtain⟨c,V,N,y,O,Q,R⟩:=o;rw[w]at y;obtain⟨rfl,rfl⟩:=trodVars_none y;obtain rfl:f8=c:=by simpa using O
 have z:∀g:Nat->Bool,(∀c∈f8,g c.block=true)->DataW.TrodAll enc P k 0 g true a5.params.toList p.toList (d.fn H (f++[])).args f8:=λg S=>by
  rw[J];exact ve F q L (λs t=>by simpa using r s t) (λs t=>S s t) N
 have A:∀(h:Nat) (g:Nat->Bool) (B:Bool),DataW.TrodAll enc P k h g B a5.resultTypes.toList ((Value.bool true).resultList a5.resultTypes.size) (d.fn H (f++[])).results []:=λh g B=>by
  rw[u,I];exact trodAll_cons_mk (shut_bool v _) trodAll_mk0
 have C:∀g:Nat->Bool,DataW.TrodVars enc P k g d.vars (d.fn H (f++[])).vars []:=λg=>by rw[K,w];exact rfl
 have T:∀c∈f8,(λh=>decide (h<b.heap.size)) c.block=true:=λc e=>by simpa using r c e
 refine⟨f,[],f8,[],f8,[],M,A _ _ _,z _ T,C _,World.keptBut_mono (λc e=>⟨e,Or.inr (by simpa using e)⟩) (q.below.frame (·∈f8)),λ_=>?_⟩;refine⟨ok_one u rfl (okWide_bool_mk v _),_,_,([]++f8)++[],⟨[]++f8,[],trodAll_append (z _ (λ_ _=>rfl)) (A _ _ _),C _,rfl,?_,?_⟩,?_⟩
 ·intro h l e
  have m:MemPlace.cell h l∈f8:=by simpa using e
  rw[q.below.frozen (p:=⟨h,l,none⟩) (r _ m)];exact Q h l (by simpa using m)
 ·intro U
  simpa using R U
 ·intro c e _
  simpa using e
end
end Go.aw
namespace Go.Proofs.YtblabbpipmodgaaGreatDoor
open Go.aw
def a_(b a:World)(e:Nat)(D:ak)(c:ZN):Prop:=∃d,aV a e d D/\ai b a/\(∀P,d P->b.heap.size<=P/\¬c P)/\∀P,c P->P<a.heap.size
abbrev no:ZN:=λ_=>False
abbrev dS(P:ZN):ZN:=λa=>¬P a
variable{y:FuncId}{e:Int}{d2:Int×ak}{v:List UInt8}{a c:Nat}{f:ZN}{d:YQ}
section
variable {w0 w w1 w':World} {p:Nat} {D D':ak} {X Y:ZN}
def a_.gr(P:a_ w0 w p D X):ai w0 w:=by obtain⟨b,c,a,d,e⟩:=P;exact a
def a_.ok(P:a_ w0 w p D X):D.Ok:=by obtain⟨b,a,c,d,e⟩:=P;exact a.ok
def a_.af(a:a_ w0 w p D X)(P:ai w w'):a_ w0 w' p D X:=by
 obtain⟨b,c,d,e,f⟩:=a;exact⟨b,c.af P,d.af P,e,λg h=>Qk (f g h) P.size⟩
def a_.mono(d:a_ w0 w p D X)(b:∀P,Y P->X P):a_ w0 w p D Y:=by
 obtain⟨e,f,g,c,h⟩:=d;exact⟨e,f,g,λP a=>⟨(c P a).1,λi=>(c P a).2 (b P i)⟩,λP a=>h P (b P a)⟩
def a_.add(a:a_ w0 w p D X)(c:ai w w')(d:∀P,Y P->w.heap.size<=P/\P<w'.heap.size):a_ w0 w' p D (λP=>X P\/Y P):=by
 obtain⟨g,e,h,f,i⟩:=a;exact⟨g,e.af c,h.af c,λP b=>⟨(f P b).1,λj=>j.elim (f P b).2 λk=>by have:=e.aE P b;have:=(d P k).1;omega⟩,λP b=>b.elim (λa=>Qk (i P a) c.size) λa=>(d P a).2⟩
def a_.of(b:ai w0 w)(c:ai w w')(g:aV w' p f D)(d:∀P,f P->w.heap.size<=P)(e:∀P,X P->P<w.heap.size):a_ w0 w' p D X:=
 ⟨f,g,b.af c,λP a=>⟨Xx b.size (d P a),λh=>by have:=d P a;have:=e P h;omega⟩,λP a=>Qk (e P a) c.size⟩
def mU(w0 w:World)(p:Nat)(X:ZN)(P:Int×ak)(a:Value)(w':World):Prop:=a= ZH P.1/\a_ w0 w' p P.2 X/\aj (dS X) w w'
def a_.Vw{b:Array Value}(g:a_ w0 w p D X)(f:ai w w1)(k:∀c,aV w1 p c D->(∀P,c P->w0.heap.size<=P/\P<w.heap.size/\¬X P)->YX y b w1 (Ok (uV w1 p c d2))):YX y b w1 (Ok (mU w0 w1 p X d2)):=by
 obtain⟨c,h,i,d,j⟩:=g;refine Calls.ok (k c (h.af f) λP a=>⟨(d P a).1,h.aE P a,(d P a).2⟩) ?_;rintro q w' ⟨l,m,n,e⟩;have:=f.size;have:=i.size;have:=e.keep.size;exact⟨m,⟨l,n,(i.af f).new e.keep λP a=>.inr (d P a).1,λP a=>(e.new P a).elim (d P) λg=>⟨oM,λo=>by have:=j P o;omega⟩,λP a=>by have:=j P a;omega⟩,e.keep.mono λP _ a=>(d P a).2⟩
def a_.call{P:Array Value}(c:a_ w0 w p D X)(d:∀b,aV w p b D->(∀a,b a->w0.heap.size<=a/\a<w.heap.size/\¬X a)->YX y P w (Ok (uV w p b d2))):YX y P w (Ok (mU w0 w p X d2)):=c.Vw (aj.refl w) d
def a_.append{g:ByteArray}(b:a_ w0 w p D X)(e:Row fN 1 w f d a v)(k:d=none->a=0/\c=0)(h:∀P,f P->P<w0.heap.size\/X P):
  YX 156 #[ZL p,.string g,.slice d a c] w (Ok (mU w0 w p X (D.append g v))):=by
 have q:=b.gr.size;have l:∀P,X P->P<w.heap.size:=by obtain⟨m,r,s,t,n⟩:=b;exact n
 exact b.call λm o i=>xA o e k λP e=>⟨(h P e).elim (λb=>oM) (l P),λj=>(h P e).elim (λb=>by have:=(i P j).1;omega) (i P j).2.2⟩
def a_.create{P:ByteArray}(a:a_ w0 w p D X):YX 169 #[ZL p,.string P] w (Ok (mU w0 w p X (D.create P))):=a.call λc b _=>xz b
def a_.sync{P:ByteArray}(a:a_ w0 w p D X):YX 158 #[ZL p,.string P] w (Ok (mU w0 w p X (D.sync P))):=a.call λc b _=>DS b
def a_.mW{k:ByteArray}(P:a_ w0 w p D X):YX 188 #[ZL p,.string k,ZH e] w (Ok (mU w0 w p X (D.mW k e))):=P.call λb a _=>Px a
def a_.delete{P:ByteArray}(a:a_ w0 w p D X):YX 119 #[ZL p,.string P] w (Ok (mU w0 w p X (D.delete P))):=a.call λc b _=>xy b
def a_.read{k:ByteArray}(l:a_ w0 w p D X):YX 181 #[ZL p,.string k] w (Ok λe w'=>∃b c d a,e= .tuple #[.slice b c d,ZH (D.read k).2]/\aU fN 5 a w' b c d (D.read k).1/\(∀P,a P->w.heap.size<=P)/\a_ w0 w' p D (λP=>X P\/a P)/\ai w w'):=by
 obtain⟨a,f,m⟩:=l;refine Calls.ok (wS f) ?_;rintro e w' ⟨n,rfl,b,c,d,G,rfl,g,h,i⟩;exact⟨b,c,d,G,rfl,g,i,a_.add ⟨a,f,m⟩ h λP j=>⟨i P j,g.aE P j⟩,h⟩
def a_.list(k:a_ w0 w p D X):YX 176 #[ZL p] w (Ok λe w'=>∃b c d a,e= .slice b c d/\aU Ns 9 a w' b c d D.list/\(∀P,a P->w.heap.size<=P)/\a_ w0 w' p D (λP=>X P\/a P)/\ai w w'):=by
 obtain⟨a,f,l⟩:=k;refine Calls.ok (wT f) ?_;rintro e w' ⟨b,c,d,G,rfl,g,h,i⟩;exact⟨b,c,d,G,rfl,g,i,a_.add ⟨a,f,l⟩ h λP j=>⟨i P j,g.aE P j⟩,h⟩
end
def gq(P:Nat):ak:=⟨P,[],false,0,false⟩
variable{z:ZT}{s:List Int}{b k:World}
def sQ(h:ai b k)(m:64<=e)(n:e<=262144):YX 34 #[ZH e] k (Ok λc a=>∃P,c= .tuple #[ZL P,ZH 0]/\a_ b a P (gq e.toNat) (λd=>d<k.heap.size)/\ai k a):=by
 refine Calls.ok Nt ?_;intro c a f;rw[Zq oM]at f;obtain⟨P,o,rfl,i,g,j⟩:=f;exact⟨P,rfl,a_.of h g i j λd l=>l,g⟩
def Ip{D:ak}(P:D.Ok)(a:ByteArray):(D.read a).1.length<=262144:=by
 unfold ak.read;split
 ·simp
 ·split
  ·simp
  ·rename_i c b;exact P.len (cf b)
def nA:ByteArray:=⟨#[97]⟩
open Go.aw Go.ChangeShapes Go.WideShapes Go.ChangeAt Go.RowKit
section
variable {w0 w w1 w':World} {p:Nat} {D D':ak} {X Y:ZN}
def a_.bC(b:a_ w0 w p D X)(h:pU w0)(k:Row aM 8 w f d a s)(l:∀m∈s,aN m)(i:∀P,f P->P<w0.heap.size\/X P):
  YX 139 #[ZL p,.agg #[.slice d a c]] w (Ok (mU w0 w p X (bC D s))):=by
 have t:=b.gr.size;have n:∀P,X P->P<w.heap.size:=by obtain⟨o,u,v,x,q⟩:=b;exact q
 have y:=h.lt;exact b.call λo r g=>BL (h.af b.gr) r k l (λP e=>⟨(i P e).elim (λb=>oM) (n P),λj=>(i P e).elim (λb=>by have:=(g P j).1;omega) (g P j).2.2⟩) λP e=>by have:=(g P e).1;omega
def a_.il(d:a_ w0 w p D X)(k:pU w0):YX 136 #[ZL p] w (Ok λe w'=>∃a b c G,e= .tuple #[.agg #[.slice a b c],.bool (dz D).isSome]/\aU aM 3 G w' a b c ((dz D).getD [])/\
  (∀P,G P->w.heap.size<=P)/\a_ w0 w' p D (λP=>X P\/G P)/\ai w w'):=by
 have l:=d.gr;obtain⟨m,f,n⟩:=d;refine Calls.ok (Dh (k.af l) f) ?_;rintro e w' ⟨a,b,c,G,rfl,g,h,i⟩;exact⟨a,b,c,G,rfl,g,i,a_.add ⟨m,f,n⟩ h λP j=>⟨i P j,g.aE P j⟩,h⟩
end
def Mt{D:ZN}{a bytes:Nat}(c:Row aM bytes b D d a s):∀P∈s,aN P:=λP e=>by
 obtain⟨f,g⟩:=List.mem_iff_getElem?.1 e;obtain⟨j,h,k,-,-,-,-,i⟩:=c.el f P g;exact i.2
def DI{D:ak}:((dz D).getD []).length<=64:=by
 unfold dz;split
 ·simp
 ·cases P:il (D.read bS).1 with
  |none=>simp
  |some a=>exact(NY P).2
def tn:(aQ==bS)=false:=by decide+kernel
def Sa:c_ aQ=true:=by decide+kernel
def HO:c_ bS=true:=by decide+kernel
def yR:kf:=⟨[(6,[(8,.slice none 0 0),(9,ZH 0)])],[],[],[],[]⟩
def yS(a0:PC_ 120 #[.ii e] b (λa3 a4=>∃o,a3= .string o/\PC_ 181 #[.pointer d,.string o] a4 (λa5 p=>∃q l m r,a5= .tuple #[.slice q l m,.ii r]/\al (r !=0) (rt z ((.tuple #[.slice none 0 0,.ii 0])) p) ((∃n:Nat->YQ->Nat->Nat->Int->ZU,(∃k,n k none 0 0 0 p)/\∀(k:Nat) (f:YQ) (g:Nat) (h:Nat) (c:Int) (c9:Nat->Value) (s:World),n k f g h c s->((0:Int)<=c/\(c:Int)<=(l:Int)/\PC_ 182 #[.slice (cI q (Int.toNat c) m 1) (l-Int.toNat c) (m-Int.toNat c)] s (λa6 i=>∃t u v w x y,a6= .tuple #[.agg #[.ii t,.slice u v w],.ii x,.ii y]/\PA i (.cells #[.ii 0,.slice none 0 0] 292) λa7=>PS a7 (ab_ i 0) (.ii t) λa8=>PS a8 (ab_ i (0+1)) (.slice u v w) λj=>al (y !=0) (rt z ((.tuple #[.slice f g h,.ii c])) j) ((rI j (ab_ i 0) λa9=>al (a9 !=1) (rt z ((.tuple #[.slice f g h,.ii c])) j) ((rS j (ab_ i (0+1)) λb0 b1 b2=>PC_ 257 #[.slice b0 b1 b2] j (λb3 P=>∃A B D C E G F H I J K L M,b3= .tuple #[.agg #[.ii A,.ii B,.ii D,.slice C E G,.ii F,.ii H,.ii I,.ii J,.ii K,.ii L],.ii M]/\PA P (.cells #[.ii 0,.ii 0,.ii 0,.slice none 0 0,.ii 0,.ii 0,.ii 0,.ii 0,.ii 0,.ii 0] 55) λb4=>PS b4 (ab_ P 0) (.ii A) λb5=>PS b5 (ab_ P (0+1)) (.ii B) λb6=>PS b6 (ab_ P (0+2)) (.ii D) λb7=>PS b7 (ab_ P (0+3)) (.slice C E G) λb8=>PS b8 (ab_ P (0+4)) (.ii F) λb9=>PS b9 (ab_ P (0+5)) (.ii H) λc0=>PS c0 (ab_ P (0+6)) (.ii I) λc1=>PS c1 (ab_ P (0+7)) (.ii J) λc2=>PS c2 (ab_ P (0+8)) (.ii K) λc3=>PS c3 (ab_ P (0+9)) (.ii L) λa=>al (M !=0) (rt z ((.tuple #[.slice f g h,.ii c])) a) ((∃N O Q R S T U V W X Y Z,a.cell? (ab_ P 0)=some (.ii N)/\a.cell? (ab_ P (0+1))=some (.ii O)/\a.cell? (ab_ P (0+2))=some (.ii Q)/\a.cell? (ab_ P (0+3))=some (.slice R S T)/\a.cell? (ab_ P (0+4))=some (.ii U)/\a.cell? (ab_ P (0+5))=some (.ii V)/\a.cell? (ab_ P (0+6))=some (.ii W)/\a.cell? (ab_ P (0+7))=some (.ii X)/\a.cell? (ab_ P (0+8))=some (.ii Y)/\a.cell? (ab_ P (0+9))=some (.ii Z)/\PA a (.cells #[.ii N,.ii O,.ii Q,.slice R S T,.ii U,.ii V,.ii W,.ii X,.ii Y,.ii Z] 55) λc4=>PR_ (ap_ 50 (.slice f g h) (.slice (some (ab_ a 0)) 1 1)) c4 (kS_ λc5 c6 c7 c8=>(∃a2,a2<k/\n a2 c5 c6 c7 (ZG .i64 (c+x)) c8)) (pV z)))) (pE z)))))) (pE z))))) (pE z)) (pE z)):YX 187 #[.pointer d,.ii e] b z:=DC yR Tryz.func187 rfl a0
end Go.Proofs.YtblabbpipmodgaaGreatDoor
namespace Go.aw
open Go
variable{B:List ah}{l:ah}
def qj(P:l.Ok)(a:l.aJ.length<=64):gv l=(mT l,0):=by
 have d:=Ek P a;have b:iR l=(bk (fG l),0):=by unfold iR;rw[Zq oM]
 have c:jY 1 (bk (fG l))=(mT l,0):=by unfold jY mT;rw[Zq dC,Zq oM]
 unfold gv;rw[b];simp only;rw[c];simp
def xr(a:¬l.aJ.length<=64):gv l=([],3):=by
 have P:iR l=([],3):=by unfold iR;rw[Zx oM]
 unfold gv;rw[P];simp
def ends(P:List ah):List Int:=(List.range P.length).map λa=>((az (P.take (a+1))).length:Int)
def BF{l:List ah}{i j:Nat}(P:i<=j):(az (l.take i)).length<=(az (l.take j)).length:=by
 have:l.take j=l.take i++(l.take j).drop i:=by
  conv=>lhs;rw[<-ZX i (l.take j)]
  rw[List.take_take,X2 P]
 rw[this,fQ,QX];omega
def HJ(a:∀P∈B,P.Ok/\P.aJ.length<=64):(az B).length<=675*B.length:=by
 induction B with
 |nil=>simp[az]
 |cons P B b=>
  rw[gM,QX,Xq];have e:=Jm (a P (QV ..)).1 (a P (QV ..)).2;have f:=b λc d=>a c (QJ _ d);omega
end Go.aw
namespace Go.Proofs.YtblabbpipmodgaaGreatDoor
open Go.aw
variable{e:Int}
def IB(c:0<=e)(d:e<1000000000000):c_ (⟨(ax e).toArray⟩:ByteArray)=true:=by
 have f:=B_ e;have g:=tX e.toNat;have b:=lJ c d;have h:(⟨(ax e).toArray⟩:ByteArray).size=(ax e).length:=by simp[ByteArray.size]
 unfold c_;rw[h,QK,QK,Zk,Zk];refine⟨⟨by rw[b,QX];show 1<=4+_;omega,f⟩,?_⟩;show(ax e).all eF=true;rw[b,List.all_append,QK];refine⟨dC,ZY.2 λP a=>?_⟩;have:=ZY.1 g.2.1 P a;have i:∀P:UInt8,gu P=true->eF P=true:=by
  intro P;have j:(List.range 256).all (λe=>!(gu (UInt8.ofNat e))||eF (UInt8.ofNat e))=true:=by decide+kernel
  have:=ZY.1 j P.toNat (List.mem_range.2 P.toNat_lt);rw[UInt8.ofNat_toNat]at this;intro k;rw[k]at this;simpa using this
 exact i P this
end Go.Proofs.YtblabbpipmodgaaGreatDoor
namespace Go.aw
open Go
end Go.aw
namespace Go.Proofs.YtblabbpipmodgaaGreatDoor
open Go.aw
variable{B:List ah}{a c:Nat}{f:ZN}{d:YQ}{j:Type}{b:World}{l:ah}
def DJ{D:ZN}(r:Laid b)(s:Row aM 8 b D d a l.aJ)(j:l.Ok)(t:∀e,D e->e<b.heap.size):
  YX 155 #[.agg (aD l d a c).toArray] b (Ok λu k=>∃m n o p,u= .tuple #[.slice m n o,ZH (gv l).2]/\aU fN 5 p k m n o (gv l).1/\ai b k/\∀e,p e->b.heap.size<=e):=by
 refine yJ (PA.mk λC f E P=>?_);refine⟨_,_,_,_,_,_,_,_,_,_,_,_,ae P rfl,ae P rfl,ae P rfl,ae P rfl,ae P rfl,ae P rfl,ae P rfl,ae P rfl,ae P rfl,ae P rfl,
  PC.ok (Nw (s.af f) j λe i=>Qk (t e i) f.size) ?_⟩
 rintro _ v ⟨_,rfl,F,H,I,J,rfl,q,g,K⟩;refine⟨_,_,_,_,rfl,al.dV (λw=>?_) (λx=>?_)⟩
 ·rw[show gv l=([],(iR l).2) by unfold gv;rw[Zx w]]
  exact Ok.mk ⟨none,0,0,λ_=>False,rfl,aU.nil v,f.then g,λ_ h=>h.elim⟩
 rw[show gv l=jY 1 (iR l).1 by unfold gv;rw[Zq (by simpa using x)]];have L:(iR l).1.length<=666:=by
  by_cases h:64<l.aJ.length
  ·simp[iR,h]
  ·have:=Ek j oM
   simpa[iR,h]using this
 refine PC.ok (DY (r.af (f.then g)).nH (q.row (bytes:=1) dC ba) q.aE) ?_;rintro _ M ⟨_,rfl,N,O,Q,y,rfl,z,A,B⟩;refine⟨_,_,_,_,rfl,Ok.mk ⟨_,_,_,y,rfl,z,(f.then g).then A,λe i=>?_⟩⟩;have:=B e i;have:=(f.then g).size;omega
def Rf{P:List j}(c:P.length=a)(b:Nat):(P.take a).drop b=P.drop b:=by rw[Qz oM]
def QC{D:ak}{no:Int}(O:Laid b)(Q:aV b a f D)(hn:aN no):
  YX 187 #[ZL a,ZH no] b (Ok λB e=>∃o p q G,B= .tuple #[.slice o p q,ZH ((bG (D.read (cF (ax no))).1).2:Int)]/\
   aU qq 55 G e o p q (bG (D.read (cF (ax no))).1).1/\ai b e/\(∀c,G c->b.heap.size<=c)/\(bG (D.read (cF (ax no))).1).1.length<=262144):=by
 refine yS (PC.ok (jv O hn) ?_);rintro _ w1 ⟨rfl,u⟩;refine⟨_,rfl,PC.ok (wS (Q.af u)) ?_⟩;rintro _ r ⟨_,rfl,a4,R,c2,F2,rfl,m,C,c3⟩;have S:=Ip Q.ok (cF (ax no));have E:(D.read (cF (ax no))).2≠0->(D.read (cF (ax no))).1=[]:=by
  unfold ak.read;split
  ·intro _;rfl
  ·split
   ·intro _;rfl
   ·intro h;exact Zz rfl h
 generalize D.read (cF (ax no))=rd at m S E;obtain⟨d,er⟩:=rd;simp only at m S E⊢;refine⟨_,_,_,_,rfl,al.dV (λl=>?_) (λhe=>?_)⟩
 ·rw[E l,qJ]
  exact Ok.mk ⟨none,0,0,λ_=>False,rfl,aU.nil r,u.then C,λ_ h=>h.elim,sM⟩
 have b2:=m.len dC;have b3:=m.lM;have a9:Row fN 1 r F2 a4 R d:=m.row dC ba;refine⟨λT v w y F e=>∃(P:Nat) (i:List ah) (G:ZN),F=P/\P<=d.length/\T=d.length-P/\bG d=(i++(bG (d.drop P)).1,P+(bG (d.drop P)).2)/\i.length<=P/\
  aU qq 55 G e v w y i/\ai r e/\∀c,G c->r.heap.size<=c,⟨_,0,[],λ_=>False,rfl,Qj _,rfl,sM,sM,aU.nil r,aj.refl _,λ_ h=>h.elim⟩,?_⟩
 rintro T v w y _ _ U ⟨P,i,G,rfl,c5,rfl,V,c6,s,n,H⟩;refine⟨oM,oM,?_⟩;have W:ai b U:=(u.then C).then n;have X:=(a9.af n).part (lo:=P) (hi:=R) (cap:=c2) oM (Q4 _) b3;rw[Rf b2.symm]at X;rw[Qx];refine PC.ok (DZ (O.af W).nH X oM λc g=>by have:=m.aE c g;have:=n.size;omega) ?_;rintro _ I ⟨b0,n4,c4,F4,rfl,b4,z,c8⟩;have j:¬((bt (d.drop P)).no=0/\(bt (d.drop P)).kind=1/\(iv (bt (d.drop P)).body).2=0)->∀e,ai I e->
   Ok (λB e=>∃o p q G,B= .tuple #[.slice o p q,ZH ((bG d).2:Int)]/\aU qq 55 G e o p q (bG d).1/\ai b e/\(∀c,G c->b.heap.size<=c)/\(bG d).1.length<=262144) (.returned (.tuple #[.slice v w y,ZH (P:Int)])) e:=by
  intro h e Y;rw[V,BZ h];refine Ok.mk ⟨v,w,y,G,sM,by simpa using(s.af z).af Y,(W.then z).then Y,λc g=>?_,by simp;omega⟩;have:=H c g;have:=(u.then C).size;omega
 refine⟨_,_,_,_,_,_,rfl,PA.mk λw5 k5 s5 g5=>?_⟩;refine storeAll [ZH (bt (d.drop P)).kind,.slice b0 n4 c4] g5 rfl λJ k6 s6 Z=>?_;have t:ai I J:=k5.new k6 λc g=>.inr oM;refine al.dV (λl=>j (λh=>l h.1) J t) (λa0=>?_);refine⟨_,ae Z rfl,al.dV (λl=>j (λh=>l h.2.1) J t) (λb1=>?_)⟩;obtain⟨b5,h9,c9⟩:=vd a0;rw[XZ]at b5;have a1:=b4.af t;refine⟨_,_,_,ae Z rfl,PC.ok (Nx (a1.row (bytes:=1) dC ba) a1.aE) ?_⟩;rintro _ w7 ⟨a7,n7,c7,F7,rfl,K,k7,a3⟩;obtain⟨L,a5⟩:=Rg (bt (d.drop P)).body;generalize M:iv (bt (d.drop P)).body=b6 at K L a5;obtain⟨x,xe⟩:=b6;simp only at K L a5;refine⟨_,_,_,_,_,_,_,_,_,_,_,_,_,rfl,PA.mk λw8 k8 s8 g8=>?_⟩;refine storeAll (aD x a7 n7 c7) g8 rfl λA k9 s9 k=>?_;have a6:ai w7 A:=k8.new k9 λc g=>.inr oM;have a8:ai I A:=(t.then k7).then a6;refine al.dV (λl=>j (λh=>l (by have:=h.2.2;rw[M]at this;exact this)) A a8) (λb7=>?_);refine⟨_,_,_,_,_,_,_,_,_,_,_,_,ae k rfl,ae k rfl,ae k rfl,ae k rfl,ae k rfl,ae k rfl,ae k rfl,ae k rfl,ae k rfl,ae k rfl,?_⟩;have N:ai U A:=z.then a8;have b8:=s.af N;have a2:=K.af a6;have d0:=(z.then t).size;refine Hf b8 G_ (x:=x) (D:=F7) ⟨a7,n7,c7,F7,rfl,a2,λ_ h=>h,L,by unfold aO;omega⟩ (λc g=>⟨a2.aE c g,λhc=>?_⟩) ba (by unfold maxLen;omega) λa' c' d1 F' b9 c0 c1 _=>?_
 ·have h1:=s.aE c (s.self c hc)
  have h2:=a3 c g;omega
 refine⟨_,_,_,rfl,_,?_,P+(bt (d.drop P)).n,i++[x],F',?_,oM,rfl,?_,by simp;omega,b9,?_,?_⟩
 ·omega
 ·rw[wrap_i64 bb];omega
 ·rw[V,xX ⟨a0,b1,by rw[M];exact b7⟩,M,List.drop_drop]
  simp only[XQ,List.cons_append,List.nil_append,Nat.add_assoc]
 ·exact(n.then N).new c0 λc g=>.inr (H c (s.self c g))
 ·intro c g
  have hz:=(n.then N).size;have d2:=n.size;rcases c1 c g with h|h|h
  ·exact H c h
  ·have:=a3 c h;omega
  ·omega
def Dt{D:ZN}(x:Row aM 8 b D d a l.aJ):
  YX 44 #[.agg (aD l d a c).toArray] b (Ok λy p=>∃q r s t,y= .agg (aD l q r s).toArray/\aU aM 3 t p q r s l.aJ/\ai b p/\∀P,t P->b.heap.size<=P):=by
 refine yG (PA.mk λL z M u=>PA.mk λA h N B=>?_);have v:ai b A:=z.then h;refine⟨_,_,_,ae (h.get u id) rfl,PC.ok (sv (x.af v)) ?_⟩;rintro _ O ⟨i,j,k,C,rfl,E,m,n⟩;have F:=m.get (h.get u id) id;have H:=m.get B id;refine⟨_,_,_,rfl,PS.mk F sM λI o Q J=>?_⟩;have e:I.heap[b.heap.size]? =some (.cells (aD l i j k).toArray 55 (0,0)):=by rw[J];rfl
 have K:=o.get H oM;refine⟨_,_,_,_,_,_,_,_,_,_,_,_,ae e rfl,ae e rfl,ae e rfl,ae e rfl,ae e rfl,ae e rfl,ae e rfl,ae e rfl,ae e rfl,ae e rfl,?_⟩;refine storeAll (aD l i j k) K rfl λR w S f=>?_;refine⟨_,_,_,_,_,_,_,_,_,_,_,_,ae f rfl,ae f rfl,ae f rfl,ae f rfl,ae f rfl,ae f rfl,ae f rfl,ae f rfl,ae f rfl,ae f rfl,
  Ok.mk ⟨i,j,k,C,rfl,?_,?_,λP g=>by have:=n P g;omega⟩⟩
 ·exact(E.keep o λP g l=>by have:=n P g;omega).keep w λP g l=>by have:=n P g;omega
 ·exact((v.then m).new o λP g=>.inr oM).new w λP g=>.inr oM
def Bi{D:ZN}(m:Row ia 96 b D d a B)(E:∀F∈B,F.aJ.length<=100):
  YX 15 #[.slice d a c] b (Ok (pC qq 55 b B)):=by
 have T:=m.len;have H:=m.dO;unfold aO at H;refine wq ⟨λr s e t i u=>i=(e:Int)/\e<=a/\r=a-e/\∃l,aU qq 55 l u s e t (B.take e)/\ai b u/\∀P,l P->b.heap.size<=P,
  ⟨_,rfl,Qj _,rfl,λ_=>False,by simpa using aU.nil b,aj.refl _,λ_ h=>h.elim⟩,?_⟩
 rintro r s e t i _ U ⟨rfl,V,rfl,l,g,k,n⟩;refine al.dec (λv=>?_) (λv=>?_)
 ·obtain⟨P,o,w,W,rfl,_,_,x,p,X,Y,Z,rfl,I,J⟩:=(m.af k).vQ (i:=e) oM
  have y:(B.take e).length=e:=by simp;omega
  have f:=λi (K:i<10)=>p i K;refine⟨P,o,rfl,oM,oM,_,_,_,_,_,_,_,_,_,_,_,_,f 0 dC,f 1 dC,f 2 dC,f 3 dC,f 4 dC,f 5 dC,f 6 dC,f 7 dC,f 8 dC,f 9 dC,?_⟩;refine PC.ok (Dt I) ?_;rintro _ w2 ⟨L,M,N,z,rfl,A,q,C⟩;have a3:=E w (QZ x);refine⟨_,_,_,_,_,_,_,_,_,_,_,_,rfl,Hf (g.af q) G_ (x:=w) (D:=z) ⟨L,M,N,z,rfl,A,λ_ h=>h,J,by unfold aO;omega⟩ (λP j=>⟨A.aE P j,λp=>?_⟩) (by rw[y];unfold aO;omega) (by rw[y];unfold maxLen;omega) λa' c' w3 O Q R S _=>?_⟩
  ·have v:=g.aE P (g.self P p);have h2:=C P j;omega
  refine⟨_,_,_,rfl,a-(e+1),oM,an oM,oM,rfl,O,?_,(k.then q).new R λP j=>.inr (n P (g.self P j)),?_⟩
  ·rw[Qw,x];exact Q
  ·intro P j
   have:=k.size;have:=(k.then q).size;rcases S P j with h|h|h
   ·exact n P h
   ·have:=C P h;omega
   ·omega
 ·obtain rfl:e=a:=oM
  rw[Qz oM]at g;exact Ok.mk ⟨_,_,_,l,rfl,g,k,n⟩

import Derived.Test.YtkpomgifkloklaaGreatDoorKe10
import Derived.Lib.AppendIntMem
import Derived.Laws.Concat
import Derived.Shelf.SlSortCmp.WholeK
import Derived.Shelf.SlMaps.Clone
import Derived.Ground.SlsfProg
import Derived.Ground.SlmcProg
import Derived.Shelf.SlGeneric
import Derived.Shelf.SlSortCmp.NoneTotal
import Derived.Laws.StructEq
import Derived.Carry
import Derived.SizedLaws
import Derived.WalkKit
import Derived.ProofKit
import Derived.OpenShut
import Derived.Deep.DeepHandedRow
import Derived.Deep.Slices
set_option maxHeartbeats 4000000
set_option linter.all false
set_option maxRecDepth 100000
open Go.IntKind renaming wrap→PP
namespace Go.aw
open Go
def cI(n:List UInt8):ByteArray:=⟨n.toArray⟩
def oK(n:List UInt8):(cI n).data.toList=n:=by simp[cI]
def XC(n:ByteArray):cI n.data.toList=n:=by simp[cI]
variable{b0 u:List UInt8}{a:Nat}{U Z:Operand}{h:Program}{g:TypeId}{m t:am}{b:World}
def Ol(n:cI u=cI b0):u=b0:=by rw[<-oK u,n,oK]
def js(n:List UInt8):(cI n).size=n.length:=by simp[cI,ByteArray.size]
def ig(n:ByteArray):Int×Bool:=match jJ n.data.toList with
 |some P=>(P,true)
 |none=>(0,false)
def aay{a n:List UInt8}(c:a.length+n.length<=1000000000)(P:m (.string (cI (a++n))) b):
  aK h (do eqGuard .add g U Z (.string (cI a)) (.string (cI n));binOp .add g (.string (cI a)) (.string (cI n))) b m t:=by
 refine aK.mk (v:=.string (cI a++cI n)) (w':=b) ?_ ?_
 ·rw[Sem.run_bind,show(eqGuard .add g U Z (.string (cI a)) (.string (cI n))).run h b= .ok () b from rfl,Result.andThen_ok,binOp_string_add,run_string_add_sum b (cI a) (cI n) (by rw[js,js];omega)]
 have:cI a++cI n=cI (a++n):=by
  apply ByteArray.ext;simp[cI]
 rw[this];exact P
def ai.VE{n:Array Obj}:ai b (Sort.grow (b.drewN a) n):=
 ⟨rfl,rfl,rfl,sM,λc P _=>by rw[Sort.heap_grow_old _ _ (by simpa using P)];rfl⟩
end Go.aw
namespace Go.Proofs.YtkpomgifkloklaaGreatDoor
section
open Go.aw
structure Laid (w:World):Prop where
 qp:qX w
 pow:Lib.TabIs LL w "internal/strconv.uint64pow10" .u64 Lib.pow10Tab
variable{x:ByteArray}{e:Int}{b0 u:List UInt8}{b k:World}
def Laid.af(n:Laid b)(P:ai b k):Laid k:=⟨n.qp.af P,Lib.tabBelow_of_tabIs n.pow k P.below⟩
def strconv_Itoa{n:Int}{P:World}(c:Laid P)(a:aH n):bn 188 #[WP n] P (Ok λd b=>d= .string (cI (Lib.itoa n))/\ai P b):=by
 refine(Any.strconv_Itoa Tryz.TC n a.1 a.2 P c.pow).mono ?_;rintro e b ⟨rfl,f,g,rfl⟩;exact Ok.mk ⟨rfl,ai.VE⟩
def ky(P:Laid b)(a:aH e):bn 129 #[WP e] b (Ok λc d=>c= .string (cI (ax e))/\ai b d):=by
 refine BB (al.dec (λn=>?_) (λg=>al.dec (λn=>?_) (λh=>PC.ok (strconv_Itoa P a) ?_)))
 ·exact Ok.mk ⟨by unfold ax;rw[Zx (.inl n)];rfl,aj.refl _⟩
 ·exact Ok.mk ⟨by unfold ax;rw[Zx (.inr n)];rfl,aj.refl _⟩
 rintro _ i ⟨rfl,f⟩;refine⟨_,rfl,aay (a:=dN) ?_ ⟨_,rfl,Ok.mk ⟨?_,f⟩⟩⟩
 ·have:=pT (u:=e.toNat) oM
  unfold Lib.itoa;rw[Zq oM];show 4+_<=_;omega
 ·rw[mX oM oM]
  unfold Lib.itoa;rw[Zq oM]
def CZ:bn 339 #[.string (cI u),.string (cI b0)] b (Ok λa c=>a= .bool (decide (u.take b0.length=b0))/\b=c):=by
 refine iN ?_;rw[js,js];refine al.dec (λn=>⟨oM,oM,Ok.mk ⟨?_,rfl⟩⟩) (λn=>Ok.mk ⟨?_,rfl⟩)
 ·rw[Qx]
  have P:ByteArray.toList (ByteArray.extract (cI u) 0 b0.length)=u.take b0.length:=by
   rw[ByteArray.toList_eq,ByteArray.data_extract];simp[cI]
  have d:ByteArray.toList (cI b0)=b0:=by rw[ByteArray.toList_eq,oK]
  rw[P,d]
  congr 1
  by_cases n:u.take b0.length=b0<;>simp[n]
 ·have:u.take b0.length≠b0:=λP=>by have:=Zj List.length P;simp at this;omega
  rw[Xv this]
def Eu:bn 245 #[.string (cI u),.string (cI b0)] b (Ok λP a=>P= .tuple (if u.take b0.length=b0 then #[.string (cI (u.drop b0.length)),.bool true]else #[.string (cI u),.bool false])/\b=a):=by
 refine tg (PC.ok (φ:=λP a=>P= .tuple (if u.take b0.length=b0 then #[.string (cI (u.drop b0.length)),.bool true]else #[.string (cI u),.bool false])/\b=a) (iL (PC.ok CZ ?_)) ?_)
 ·rintro _ _ ⟨rfl,rfl⟩
  refine⟨_,rfl,?_⟩;rw[js,js]
  by_cases n:u.take b0.length=b0
  ·rw[Zx n,Zy n]
   have e:b0.length<=u.length:=by have:=Zj List.length n;simp at this;omega
   refine al.ff rfl ⟨oM,oM,Ok.mk ⟨?_,rfl⟩⟩;have c:ByteArray.extract (cI u) (Int.toNat ((b0.length:Nat):Int)) u.length=cI (u.drop b0.length):=by
    apply ByteArray.ext;rw[Qx,ByteArray.data_extract];have d:List.take (u.length-b0.length) (List.drop b0.length u)=List.drop b0.length u:=Qz sM;simp[cI,d]
   rw[c]
  ·rw[Zq n,Xv n]
   exact al.tt rfl (Ok.mk ⟨rfl,rfl⟩)
 ·rintro _ _ ⟨rfl,rfl⟩
  split
  ·exact⟨_,_,rfl,Ok.mk ⟨rfl,rfl⟩⟩
  ·exact⟨_,_,rfl,Ok.mk ⟨rfl,rfl⟩⟩
def Br(y:Laid b):bn 182 #[.string x] b (Ok λk d=>k= .tuple #[WP (ig x).1,.bool (ig x).2]/\ai b d):=by
 rw[<-XC x];generalize x.data.toList=e;have c:(⟨#[115,101,103,46]⟩:ByteArray)=cI dN:=rfl;unfold ig;rw[oK];refine xS ?_;rw[c];refine PC.ok Eu ?_;rintro _ _ ⟨rfl,rfl⟩;have no:∀d,jJ e=none->ai b d->Ok (λk d=>k= .tuple #[WP (match jJ e with|some l=>((l:Int),true)|none=>(0,false)).1,.bool (match jJ e with|some l=>((l:Int),true)|none=>(0,false)).2]/\ai b d) (.returned (.tuple #[WP 0,.bool false])) d:=λd p z=>by
  rw[p];exact Ok.mk ⟨rfl,z⟩
 by_cases f:e.take dN.length=dN
 ·rw[Zx f]
  refine⟨_,_,rfl,al.ff rfl ?_⟩;have q:e=dN++e.drop 4:=by
   have:=ZX 4 e;rw[show e.take 4=dN from f]at this;exact this.symm
  change al (decide (((ByteArray.size (cI (e.drop 4)):Nat):Int)>12)) _ _
  generalize S:e.drop 4=P at q;subst q;rw[js];refine al.dec (λp=>no _ (Np (by rw[QX];show 16<4+_;omega)) (aj.refl _)) (λT=>?_);refine Cm Tryz.underlying9 λU A B V=>⟨λr s d=>∃n,r=P.length-n/\n<=P.length/\s=(fu (P.take n):Int)/\d.heap[b.heap.size]? =some (.stringIter (cI P) n)/\ai b d/\(P.take n).all gY=true,⟨_,0,rfl,Qj _,rfl,A,B,rfl⟩,?_⟩
  rintro r s W X ⟨n,rfl,Y,rfl,C,g,h⟩;have E:=yA _ h;refine Hq C (λF=>.inl ⟨rfl,?_⟩) λc t u i Z=>.inr ⟨_,_,rfl,?_⟩
  ·rw[js]at F
   rw[Qz oM]at h E⊢;have a0:10 ^ P.length<=10 ^ 12:=Nat.pow_le_pow_right oM oM;have H:(10:Nat) ^ 12=1000000000000:=dC
   refine PC.ok (ky (y.af g) cS) ?_;rintro _ t ⟨rfl,i⟩;have v:=HT h oM;refine⟨_,rfl,al.neS (λI=>no _ ?_ (g.then i)) (λJ=>?_)⟩
   ·rw[v,Zq λK=>I (by rw[K])]
   ·rw[v,Zx (Ol J)]
    exact Ok.mk ⟨rfl,g.then i⟩
  ·have m:n<P.length:=by rwa [js]at c
   have j:ai b t:=g.new i λa1 w=>.inr oM;have o:P[n]? =some ((cI P)[n]'c):=by
    rw[Qq m]
    congr 1
   have a:gY ((cI P)[n]'c)=false->jJ (dN++P)=none:=λL=>KG (List.all_eq_false.2 ⟨_,QZ o,by simp[L]⟩)
   by_cases w:((cI P)[n]'c).toNat<128
   ·rw[decode_ascii _ n c w]at u⊢
    simp only;refine al.dec (λM=>no _ (a ?_) j) (λN=>al.dec (λO=>no _ (a ?_) j) (λQ=>?_))
    ·unfold gY;exact Xv oM
    ·unfold gY;exact Xv oM
    ·have a2:10 ^(P.take n).length<=10 ^ 12:=Nat.pow_le_pow_right oM dg
     have H:(10:Nat) ^ 12=1000000000000:=dC
     refine⟨_,oM,n+1,rfl,oM,?_,u,j,?_⟩
     ·rw[Qw,o]
      show _=((fu (P.take n++[_]):Nat):Int);rw[gv];have R:PP .i32 ((((cI P)[n]'c).toNat:Int)-48)=(((cI P)[n]'c).toNat:Int)-48:=by
       unfold PP;simp[IntKind.signed,IntKind.bits];omega
      rw[R,wrap_i64 (x:=(((cI P)[n]'c).toNat:Int)-48) cS,wrap_i64 (x:=10*_) cS,wrap_i64 cS];omega
     ·rw[Qw,o,List.all_append,h]
      simp[gY];omega
   ·have hh:=(decode_high _ n c oM).1
    refine al.dec (λM=>oM) (λN=>al.dec (λO=>no _ (a ?_) j) (λQ=>oM));unfold gY;exact Xv oM
 ·rw[Zq f]
  exact⟨_,_,rfl,al.tt rfl (no _ (QL f) (aj.refl _))⟩
end
section
open Go.aw
def TF:ki LL 52 3 1 8:=⟨kR,kR,dC⟩
def dH(P:List Int)(n:Int):Int:=if n<0 then 0 else max (P.getD n.toNat 0) 0
variable{e r:Int}{b2 s:List Int}{a c i p:Nat}{d v:be}{b:World}{l:ah}
def NY{x:Int}(P:0<=e)(n:s[e.toNat]? =some x):dH s e=max x 0:=by
 unfold dH;rw[Zq oM];simp[List.getD,n]
def wB(n:(s.length:Int)<=e):dH s e=0:=by
 unfold dH;split
 ·rfl
 ·have:s[e.toNat]? =none:=by simp;omega
  simp[List.getD,this]
def mM{i:Int}(f:Ints b d a s):
  bn 28 #[.slice d a c,WP i] b (Ok λg h=>g= WP (dH s i)/\b=h):=by
 refine Pm ?_;refine al.mk (λP=>?_) (λP=>al.mk (λn=>?_) (λn=>?_))
 ·have:=XV P
  exact Ok.mk ⟨by simp[dH,this],rfl⟩
 ·have n:=XV n
  exact Ok.mk ⟨by rw[wB (by rw[<-f.len];exact n)],rfl⟩
 ·have P:=Xy P
  have n:=Xy n;obtain⟨j,e,k,rfl,o,l,p,m⟩:=f.at (i:=i) oM oM;refine⟨j,e,rfl,oM,oM,k,m,Ok.mk ⟨?_,rfl⟩⟩;rw[NY oM l]
  congr 1
  omega
def oX(P a:List Int)(b:Nat):List Int:=(List.range b).map λ(n:Nat)=>max (dH P n) (dH a n)
def jC(n P:List Int):List Int:=oX n P (max n.length P.length)
def KO(P a:List Int)(n:Nat):oX P a (n+1)=oX P a n++[max (dH P n) (dH a n)]:=by simp[oX,List.range_succ]
def tH(P a:List Int)(n:Nat):(oX P a n).length=n:=by simp[oX]
def HW(P:World)(e:TypeId)(f:List Int)(g:Value)(a:World):Prop:=
 ∃n b c,g= .slice n b c/\Own a e 1 n b c (ints f)/\ai P a/\∀d,aI n=some d->P.heap.size<=d
def VN:(if r>e then r else e)=max e r:=oM
def vz(h:Ints b d a s)(n:Ints b v c b2):
  bn 31 #[.slice d a i,.slice v c p] b (Ok (HW b 3 (jC s b2))):=by
 have u:=h.len;have w:=n.len;have x:=h.eO;have y:=n.eO;unfold aP at x y;refine L_ ⟨λm j P o q r=>q=(P:Int)/\P<=max a c/\m=max a c-P/\Own r 3 1 j P o (ints (oX s b2 P))/\ai b r/\∀v,aI j=some v->b.heap.size<=v,
  ⟨_,rfl,oM,rfl,Own.nil _ _ _,aj.refl _,by simp[aI]⟩,?_⟩
 rintro m j P o q _ C ⟨rfl,E,rfl,t,e,k⟩;refine al.mk (λf=>?_) (λf=>?_)
 ·have f:=XV f
  refine PC.ok (mM (h.af e)) ?_;rintro _ _ ⟨rfl,rfl⟩;refine⟨_,rfl,PC.ok (mM (n.af e)) ?_⟩;rintro _ _ ⟨rfl,rfl⟩;refine⟨_,rfl,PA.mk λF l H z=>?_⟩;refine ND TF (t.af l) z cw λI J K A B g=>?_;refine⟨_,_,_,rfl,_,?_,?_,oM,rfl,?_,(e.af l).new B ?_,?_⟩
  ·omega
  ·rw[wrap_i64 cS];simp
  ·rw[KO,<-VN];exact A
  ·intro v n;exact .inr (k v n.symm)
  ·intro v n
   rcases g with g|g
   ·exact k v (g▸n)
   ·rw[g]at n;cases n;have:=e.size;have:=l.size;omega
 ·have f:=Xy f
  have:P=max a c:=oM
  subst this;refine Ok.mk ⟨_,_,_,rfl,?_,e,k⟩;unfold jC;rw[<-u,<-w];exact t
def iF(n P:List Int):Nat->Int
 |0=>0
 |k+1=>if dH n k<dH P k then Sh .i64 (iF n P k) 1 else if dH n k>dH P k then Sh .i64 (iF n P k) 2 else iF n P k
def ic(n P:List Int):Int:=iF n P (max n.length P.length)
def sG(g:Ints b d a s)(h:Ints b v c b2):
  bn 8 #[.slice d a i,.slice v c p] b (Ok λq j=>q= WP (ic s b2)/\b=j):=by
 have r:=g.len;have t:=h.len;have u:=g.eO;have w:=h.eO;unfold aP at u w;refine Pl ⟨λl m o j=>∃n:Nat,o=n/\n<=max a c/\l=max a c-n/\m=iF s b2 n/\j=b,
  ⟨_,0,rfl,oM,rfl,rfl,rfl⟩,?_⟩
 rintro l m o _ x ⟨n,rfl,y,rfl,rfl,rfl⟩;refine al.mk (λf=>?_) (λf=>?_)
 ·have f:=XV f
  refine PC.ok (mM g) ?_;rintro _ _ ⟨rfl,rfl⟩;refine⟨_,rfl,PC.ok (mM h) ?_⟩;rintro _ _ ⟨rfl,rfl⟩;have k:PP .i64 ((n:Int)+1)=((n+1:Nat):Int):=by rw[wrap_i64 cS];simp
  refine⟨_,rfl,al.mk (λP=>?_) (λP=>al.mk (λe=>?_) (λe=>?_))⟩
  ·have P:=XV P
   exact⟨_,oM,n+1,k,oM,rfl,by simp[iF,P],rfl⟩
  ·have P:=Xy P
   have e:=XV e;exact⟨_,oM,n+1,k,oM,rfl,by simp[iF,P,e],rfl⟩
  ·have P:=Xy P
   have e:=Xy e;exact⟨_,oM,n+1,k,oM,rfl,by simp[iF,P,e],rfl⟩
 ·have f:=Xy f
  have:n=max a c:=oM
  subst this;exact Ok.mk ⟨by unfold ic;rw[<-r,<-t],rfl⟩
structure ll where
 bO:Int
 m_:Int
 mq:Int
 least:Int
 deriving DecidableEq
structure bz where
 kind:Int
 eg:Int
 floor:Bool
 bN:List ll
 deriving DecidableEq
structure ko where
 a_:Int
 field:Int
 group:Int
 Gj:Int
 make:Int
 deriving DecidableEq
structure aU where
 types:List (List bz)
 projs:List ko
 deriving DecidableEq
structure jT where
 a_:Int
 agg:Int
 field:Int
 op:Int
 arg:Int
 expect:Int
 key:Int
 deriving DecidableEq
structure cZ where
 n:Int
 set:List Int
 deriving DecidableEq
structure ny where
 version:Int
 cells:List cZ
 deriving DecidableEq
structure cU where
 ev:ah
 void:Bool
 Gj:Int×Int
structure dX where
 group:Int
 value:Int
 count:Int
 deriving DecidableEq
abbrev qm(n:Int):Int:=PP .i64 n
def within(n P a:Int):Bool:=decide (P<=n)&&decide (n<=a)
def aU.at(n:aU)(P:Int):List bz:=if within P 0 (n.types.length-1)then n.types.getD P.toNat []else []
def aU.Ep(n:aU)(P a:Int):Option bz:=
 if within P 0 (n.types.length-1)&&within a 0 ((n.at P).length-1)then(n.at P)[a.toNat]? else none
def rO(n:Int):Int:=if n=1 then 1 else if n=2 then 2 else if n=3 then 3 else if n=4 then 3 else if n=5 then 4 else 0
def mh(P:aU)(a b op arg:Int):Int:=match P.Ep a b with
 |none=>8
 |some n=>if !within op 1 5||rO op !=n.kind then 2 else if op==1&&arg==0||op==5&& !within arg 0 (n.bN.length-1)then 1 else 0
def sh(n:aU):Bool:=
 if !within n.types.length 1 8||decide (8<n.projs.length)then true else
 n.types.any λa=>!within a.length 1 8||a.any λP=>if P.kind==4 then !within P.bN.length 1 16 else decide (0<P.bN.length)
def Ub(P:List bz)(a n:Int):Bool:=within a 0 (P.length-1)&&((P[a.toNat]?).map (·.kind)==some n)
def Tm(n P:Int):Bool:=P==1||P==2&&within n 2 4||P==3&&n==2
def fU(n:List bz)(f:bz):Int:=
 if !within f.kind 1 4 then 2 else if !within f.eg 1 3|| !Tm f.kind f.eg||f.floor&&f.kind !=1 then 1 else
 if f.bN.any λm=>decide (m.bO<0)||decide (m.m_<0)||m.mq== -1&&m.least !=0 then 1 else
 if f.bN.any λm=>m.mq != -1&& !Ub n m.mq 1 then 8 else 0
def mY(P:aU)(n:ko):Int:=
 if(P.Ep n.a_ n.field).isNone then 8 else
 if n.group==3&& !Ub (P.at n.a_) n.Gj 2||n.group !=3&&n.Gj !=0 then 8 else
 if !within n.group 1 3|| !within n.make 1 5 then 2 else 0
def cN{P:Type}(n:P->Int):List P->Int
 |[]=>0
 |x::a=>if n x !=0 then n x else cN n a
def dt(n:aU):Int:=
 if sh n then 3 else
 let P:=cN (λa=>cN (fU a) a) n.types
 if P !=0 then P else cN (mY n) n.projs
def aZ(n:ah):Int×Int:=(n.origin,n.seq)
def eX(a n:ah):Bool:=decide (a.aC<n.aC)||a.aC==n.aC&&(decide (a.origin<n.origin)||a.origin==n.origin&&decide (a.seq<n.seq))
def tD(n P:ah):Int:=if eX n P then-1 else if eX P n then 1 else 0
def dm(n:ah)(P:Nat):Int:=
 if n.origin<0\/(P:Int)<=n.origin\/min n.seq n.aC<1\/min n.agg n.key<0\/n.aM.length≠P\/n.aM.any (λa=>decide (a<0))then 1 else
 if n.aM.getD n.origin.toNat 0≠qm (n.seq-1)then 9 else
 if n.op<1\/5<n.op then 2 else if min n.a_ n.field<0\/8<=n.a_\/8<=n.field then 8 else 0
def BM(n P:ah):Bool:=decide (n.seq<=dH P.aM n.origin)
def wg(n P:ah):Bool:=aZ n !=aZ P&& !BM n P&& !BM P n
structure aq where
 n:Nat
 l:List ah
def dE(n:ah):List ah->List ah
 |[]=>[n]
 |x::P=>if eX n x then n::x::P else x::dE n P
def aq.qG(n:aq)(P:Nat):Nat:=n.l.countP λa=>a.origin==(P:Int)
def aq.vec(n:aq):List Int:=(List.range n.n).map λP=>(n.qG P:Int)
def aq.get(n:aq)(id:Int×Int):Option ah:=n.l.find? λP=>aZ P==id
def aq.top(n:aq):Int:=n.l.foldl (λP a=>max P a.aC) 0
def aq.mr(d:aq)(n:ah)(a:Nat):Bool:=
 let b:=n.aM.getD a 0
 b==0||match d.get (a,b)with
  |none=>false
  |some P=>decide (P.aC<n.aC)&&(List.range P.aM.length).all λc=>decide (P.aM.getD c 0<=n.aM.getD c 0)
def aq.add(n:aq)(P:ah):Int×aq:=
 let no:=dm P n.n
 if no≠0 then(no,n)else
 if(n.get (aZ P)).isSome then(16,n)else
 if P.seq≠(n.vec.getD P.origin.toNat 0)+1 then(9,n)else
 if(List.range n.n).any λa=>!n.mr P a then(9,n)else(0,{n with l:=dE P n.l})
def aq.eG(n:aq)(l:List ah):aq:=l.foldl (λn P=>(n.add P).2) n
def aq.missing(a:aq)(b:List Int)(n:Int):List ah:=(a.l.filter λP=>decide (max 0 (dH b P.origin)<P.seq)).take (max 0 n).toNat
def aq.keyed(n:aq)(key:Int):Option ah:=n.l.find? λP=>key !=0&&P.key==key
def eh(n:List bz):List cZ:=n.map λ_=>⟨0,[]⟩
def NH(n P:Int):Bool:=decide (n<qm (n+P))==decide (0<P)
def xz(e:List bz)(c:List cZ)(n b arg:Int):Int:=
 let d:=e.getD n.toNat ⟨0,0,false,[]⟩
 let P:=c.getD n.toNat ⟨0,[]⟩
 let f:Bool:=
  if b=1 then(arg==0||NH P.n arg)&& !(d.floor&&decide (qm (P.n+arg)<0))
  else if b=3 then decide (arg∈P.set)||decide (P.set.length<64)
  else if b=5 then(let a:=d.bN.getD arg.toNat ⟨0,0,0,0⟩;P.n==a.bO&&(decide (a.mq<0)||decide (a.least<=(c.getD a.mq.toNat ⟨0,[]⟩).n)))
  else true
 if f then 0 else 10
def qO(n:Int):List Int->List Int
 |[]=>[n]
 |y::P=>if n<y then n::y::P else if n=y then y::P else y::qO n P
def Uo(c:List bz)(a:List cZ)(n b arg:Int):List cZ:=
 let d:=c.getD n.toNat ⟨0,0,false,[]⟩
 let P:=a.getD n.toNat ⟨0,[]⟩
 if b=1 then a.set n.toNat {P with n:=qm (P.n+arg)}
 else if b=2 then a.set n.toNat {P with n:=arg}
 else if b=3 then a.set n.toNat {P with set:=qO arg P.set}
 else if b=4 then a.set n.toNat {P with set:=P.set.filter λe=>e !=arg}
 else if b=5 then a.set n.toNat {P with n:=(d.bN.getD arg.toNat ⟨0,0,0,0⟩).m_}
 else a
def fl(P:bz)(a n:Int×Int):Bool:=
 if P.kind=2 then a.1==2&&n.1==2&&a !=n
 else if P.kind=4 then a.1==5&&n.1==5&&a !=n
 else if P.kind=3 then a==(3,n.2)&&n==(4,a.2)||a==(4,n.2)&&n==(3,a.2)
 else false
def nw(f:bz)(n P:ah):Bool:=(f.eg==2||f.eg==3&&decide (P.arg<n.arg))&&fl f (n.op,n.arg) (P.op,P.arg)&&wg n P
structure bj where
 decl:aU
 entries:List cU
 eW:List ((Int×Int)×ny)
 done:List ((Int×Int×Int)×List ah)
def bj.new(n:aU):bj:=⟨n,[],[],[]⟩
def bj.try(P:bj)(n:ah):Bool×(Int×Int)×bj:=
 if mh P.decl n.a_ n.field n.op n.arg≠0 then(true,(0,0),P)else
 let c:=P.decl.at n.a_
 let b:=(n.a_,n.agg,n.field)
 match((au P.done b).getD []).find? λe=>nw (c.getD n.field.toNat ⟨0,0,false,[]⟩) e n with
 |some e=>(true,aZ e,P)
 |none=>
  let d:=au P.eW (n.a_,n.agg)
  let a:=match d with
   |some d=>d.cells
   |none=>eh c
  if xz c a n.field n.op n.arg≠0 then(true,(0,0),P)else
  (false,(0,0),{P with
   eW:=aJ P.eW (n.a_,n.agg) ⟨qm ((d.getD ⟨0,[]⟩).version+1),Uo c a n.field n.op n.arg⟩
   done:=aJ P.done b ((au P.done b).getD []++[n])})
def bj.add(b:bj)(P:ah):cU×bj:=
 let n:=b.try P
 let a:cU:=⟨P,n.1,n.2.1⟩
 (a,{n.2.2 with entries:=n.2.2.entries++[a]})
def bj.state(n:bj)(P a:Int):Option ny:=au n.eW (P,a)
def bU(n:aU)(P:List ah):bj:=P.foldl (λa b=>(a.add b).2) (bj.new n)
def lH(b:List cU)(c P d:Int)(n:Nat):List cU×Bool:=
 let own:=(b.filter λa=>a.ev.a_==c&&a.ev.agg==P).drop (max d 0).toNat
 (own.take n,decide (n<own.length))
def oP(b:List dX)(n:Int)(P:Nat):List dX×Bool:=
 let a:=b.dropWhile λc=>decide (c.group<=n)
 (a.take P,decide (P<a.length))
def iX(P:aU)(n:jT):Int:=if n.agg<0\/n.key<0\/n.expect< -1 then 1 else mh P n.a_ n.field n.op n.arg
def aX(P:jT)(n:Int)(a:List Int)(b:Int):Int×ah:=
 let no:ah:=⟨0,0,0,[],0,0,0,0,0,0⟩
 if n<0\/(a.length:Int)<=n\/b<0 then(1,no)else
 if dH a n=9223372036854775807\/b=9223372036854775807 then(13,no)else
 (0,⟨n,dH a n+1,b+1,jC a [],P.a_,P.agg,P.field,P.op,P.arg,P.key⟩)
def fk(d:aU)(b:aq)(h:bj)(P start:Int)(n:jT):ah×Bool×Int:=
 let no:ah:=⟨0,0,0,[],0,0,0,0,0,0⟩
 let e:=iX d n
 if e≠0 then(no,false,e)else
 match b.keyed n.key with
 |some i=>(i,false,0)
 |none=>
  let f:=d.at n.a_
  let g:=h.state n.a_ n.agg
  let a:=match g with
   |some j=>j.cells
   |none=>eh f
  if¬(n.expect= -1\/n.expect=(g.getD ⟨0,[]⟩).version)then(no,false,11)else
  if xz f a n.field n.op n.arg≠0 then(no,false,10)else
  let c:=aX n P b.vec (max b.top start)
  (c.2,decide (c.1=0),c.1)
structure dT where
 p:ko
 rows:List (Int×dX)
def mV(n:ko)(P:dX)(arg:Int):Int:=
 if n.make=1 then P.count else if n.make=2 then qm (P.value+arg)else
 if n.make=5\/P.count=1/\(n.make=3\/n.make=4)then arg else
 if n.make=3 then min P.value arg else if n.make=4 then max P.value arg else 0
def dT.add(n:dT)(e:cU)(b:Int):dT:=
 let a:=if n.p.group=1 then some e.ev.agg else if n.p.group=2 then some e.ev.arg else if n.p.group=3 then some b else none
 match a with
 |none=>n
 |some a=>
  if e.void||e.ev.a_ !=n.p.a_||e.ev.field !=n.p.field then n else
  let P:=(au n.rows a).getD ⟨0,0,0⟩
  let P:dX:=⟨a,P.value,qm (P.count+1)⟩
  {n with rows:=aJ n.rows a ⟨a,mV n.p P e.ev.arg,P.count⟩}
def nI(n:dX):List dX->List dX
 |[]=>[n]
 |y::P=>if n.group<y.group then n::y::P else y::nI n P
def dT.list(n:dT):List dX:=(n.rows.map (·.2)).foldr nI []
structure lj where
 view:bj
 rows:List dT
def lj.new(n:aU):lj:=⟨bj.new n,n.projs.map λP=>⟨P,[]⟩⟩
def tB(n:Option ny)(P:ko):Int:=match n with
 |none=>0
 |some n=>((n.cells[P.Gj.toNat]?).map (·.n)).getD 0
def lj.add(a:lj)(n:ah):lj:=
 let P:=a.view.add n
 let c:=P.2.state n.a_ n.agg
 ⟨P.2,a.rows.map λb=>b.add P.1 (tB c b.p)⟩
def eF(n:aU)(P:List ah):lj:=P.foldl lj.add (lj.new n)
def eY(n:Nat)(P:List ah)(a:ah):Bool×List ah:=
 if n<=P.length\/P.any (λb=>aZ b==aZ a)then(false,P)else(true,dE a P)
def dQ(n:aq):List ah->Option (ah×aq×List ah)
 |[]=>none
 |e::a=>if(n.add e).1=0 then some (e,(n.add e).2,a)else(dQ n a).map λP=>(P.1,P.2.1,e::P.2.2)
def du:Nat->aq->List ah->List ah->List ah×List ah
 |0,a,P,n=>(n,P)
 |k+1,a,P,n=>match dQ a P with
  |none=>(n,P)
  |some (b,c,d)=>du k c d (n++[b])
def bM(P:aq)(n:List ah):List ah×List ah:=
 let n:=n.filter λa=>(P.get (aZ a)).isNone
 du (n.length+1) P n []
structure bG where
 kind:Int
 bO:Int
 m_:Int
 vec:List Int
 events:List ah
def iG(n:bG)(P:Int):Int:=if 0<n.events.length then 8 else if(n.vec.length:Int)≠P then 1 else if n.vec.any (λa=>decide (a<0))then 1 else 0
def fr(P:bG)(a:Nat)(n:Int):Int:=if 0<P.vec.length then 8 else if P.events.length<1\/n<(P.events.length:Int)then 3 else cN (λb=>dm b a) P.events
def fq(m:bG)(a:Nat)(P:Int):Int:=
 let n:=!(decide (0<=m.bO)&&decide (m.bO<a))|| !(decide (0<=m.m_)&&decide (m.m_<a))||m.bO==m.m_
 if m.kind=3 then(if n then 1 else fr m a P)
 else if m.kind=1\/m.kind=2\/m.kind=4 then(if n then 1 else iG m a)
 else 2
def lF(n:aq)(P a:Int):bG:=⟨1,P,a,n.vec,[]⟩
def Av(n:aq)(P a:Int):bG:=⟨4,P,a,n.vec,[]⟩
def ly(c:aq)(n:Int)(P:bG)(a:Int):List bG:=
 if P.kind≠1/\P.kind≠2 then []else
 let d:=c.missing P.vec (max 1 (min a 32))
 let f:List bG:=if 0<d.length then [⟨3,n,P.bO,[],d⟩]else []
 let e:=ic P.vec c.vec
 let g:List bG:=if P.kind=1/\(e=2\/e=3)then [⟨2,n,P.bO,c.vec,[]⟩]else []
 let b:=f++g
 if b.isEmpty then [Av c n P.bO]else b
def Hh:(if r<e then r else e)=min e r:=oM
def UM{D:ac}(i:Row aO 8 b D d a s):
  bn 217 #[.slice d a c,.func (.func 216) #[] #[]] b (Ok λg n=>g= .bool (s.any λP=>decide (P<0))/\b=n):=by
 have w:=i.len;have q:=i.eO;unfold aP at q;refine kv (PC.ok (φ:=λg n=>(∃f:Int,g= WP f/\(0<=f↔(s.any λP=>decide (P<0))=true))/\b=n) (lS ⟨λl f n=>∃e:Nat,f=e/\e<=a/\l=a-e/\((s.take e).any λP=>decide (P<0))=false/\b=n,
  ⟨_,0,rfl,Qj _,rfl,sM,rfl⟩,?_⟩) ?_)
 ·rintro l f _ _ ⟨e,rfl,x,rfl,j,rfl⟩
  refine al.dec (λr=>?_) (λr=>?_)
  ·obtain⟨t,k,m,rfl,o,_,u⟩:=i.nK (i:=e) oM
   refine⟨t,k,rfl,oM,oM,_,u,216,_,_,rfl,kR,PC.ok (φ:=λg n=>g= .bool (decide (m<0))/\b=n) (Ae (Ok.mk ⟨rfl,rfl⟩)) ?_⟩;rintro _ _ ⟨rfl,rfl⟩;refine⟨_,rfl,al.dec (λp=>?_) (λp=>?_)⟩
   ·exact Ok.mk ⟨⟨_,rfl,λ_=>List.any_eq_true.2 ⟨m,QZ o,by simpa using p⟩,λ_=>oM⟩,rfl⟩
   ·refine⟨_,oM,e+1,an oM,oM,rfl,?_,rfl⟩
    rw[Qw,o,List.any_append,j];simp;omega
  ·rw[Qz oM]at j
   exact Ok.mk ⟨⟨_,rfl,λh=>oM,λh=>by rw[j]at h;cases h⟩,rfl⟩
 ·rintro _ _ ⟨⟨f,rfl,v⟩,rfl⟩
  exact⟨_,rfl,Ok.mk ⟨by cases h:(s.any λP=>decide (P<0))<;>simp[h]at v⊢<;>omega,rfl⟩⟩
def yS{D:ac}(k:Row aO 8 b D d a l.aM)(I:i<4611686018427387904):
  bn 155 #[.agg (aF l d a c).toArray,WP (i:Int)] b (Ok λh j=>h= WP (dm l i)/\ai b j):=by
 have J:=k.len;have x:=k.eO;unfold aP at x;refine DT (PA.mk λy m K f=>⟨_,ae f rfl,?_⟩);have e:(l.origin<0\/(i:Int)<=l.origin\/min l.seq l.aC<1\/min l.agg l.key<0\/l.aM.length≠i\/l.aM.any (λp=>decide (p<0))=true)->Ok (λh j=>h= WP (dm l i)/\ai b j) (.returned (WP 1)) y:=λn=>by
  refine Ok.mk ⟨?_,m⟩;unfold dm;rw[Zx n]
 refine al.dec (λn=>e (.inl n)) λL=>⟨_,ae f rfl,al.dec (λn=>e (.inr (.inl n))) λM=>⟨_,ae f rfl,_,ae f rfl,?_⟩⟩
 with_reducible (conv=>whnf)
 rw[Hh];refine al.dec (λn=>e (.inr (.inr (.inl n)))) λN=>⟨_,ae f rfl,_,ae f rfl,?_⟩
 with_reducible (conv=>whnf)
 rw[Hh];refine al.dec (λn=>e (.inr (.inr (.inr (.inl n))))) λO=>⟨_,_,_,ae f rfl,al.eu (λn=>e (.inr (.inr (.inr (.inr (.inl oM)))))) λQ=>⟨_,_,_,ae f rfl,PC.ok (UM (k.af m)) ?_⟩⟩
 rintro _ _ ⟨rfl,rfl⟩;refine⟨_,rfl,al.mk (λn=>e (.inr (.inr (.inr (.inr (.inr n)))))) λz=>⟨_,_,_,ae f rfl,_,ae f rfl,?_⟩⟩;obtain⟨A,q,B,rfl,C,R,E⟩:=(k.af m).nK (i:=l.origin.toNat) oM;have t:¬(l.origin<0\/(i:Int)<=l.origin\/min l.seq l.aC<1\/min l.agg l.key<0\/l.aM.length≠i\/l.aM.any (λp=>decide (p<0))=true):=by
  rw[z];simp only[Bool.false_eq_true,or_false,not_or];omega
 refine⟨A,q,rfl,oM,oM,_,E,_,ae f rfl,λu v=>?_⟩;have F:ai b u:=m.then v.keep;have g:=(bW.keep (S:=λ_=>False) v).get f id;have w:l.aM.getD l.origin.toNat 0=B:=by rw[QQ,C];rfl
 have P:∀r:Int,dm l i=r->Ok (λh j=>h= WP (dm l i)/\ai b j) (.returned (WP r)) u:=λr n=>Ok.mk ⟨by rw[n],F⟩;refine al.eu (λn=>P 9 (by unfold dm;rw[Zq t,w,Zx n])) λH=>⟨_,ae g rfl,?_⟩
 have s:dm l i=if l.op<1\/5<l.op then 2 else if min l.a_ l.field<0\/8<=l.a_\/8<=l.field then 8 else 0:=by
  unfold dm;rw[Zq t,w,Zq (by simpa using H)]
 refine al.dec (λn=>P 2 (by rw[s,Zx (.inl n)])) λS=>⟨_,ae g rfl,al.dec (λn=>P 2 (by rw[s,Zx (.inr n)])) λT=>⟨_,ae g rfl,_,ae g rfl,?_⟩⟩
 with_reducible (conv=>whnf)
 rw[Hh];have o:dm l i=if min l.a_ l.field<0\/8<=l.a_\/8<=l.field then 8 else 0:=by rw[s,Zq oM]
 refine al.dec (λn=>P 8 (by rw[o,Zx (.inl n)])) λU=>⟨_,ae g rfl,al.dec (λn=>P 8 (by rw[o,Zx (.inr (.inl n))])) λV=>⟨_,ae g rfl,al.dec (λn=>P 8 (by rw[o,Zx (.inr (.inr n))])) λW=>P 0 (by rw[o,Zq oM])⟩⟩
end
end Go.Proofs.YtkpomgifkloklaaGreatDoor
namespace Go.aw
open Go
def Zg(P n:Value):Bool:=match P with
 | .int a _=>match n with
  | .int b _=>decide (b=a)
  |_=>false
 | .bool _=>match n with
  | .bool _=>true
  |_=>false
 | .string _=>match n with
  | .string _=>true
  |_=>false
 | .slice _ _ _=>match n with
  | .slice _ _ _=>true
  |_=>false
 | .pointer _=>match n with
  | .pointer _=>true
  |_=>false
 | .map _=>match n with
  | .map _=>true
  |_=>false
 |_=>true
def XG:List Value->List Value->Bool
 |[],[]=>true
 |z::n,P::a=>Zg z P&&XG n a
 |_,_=>false
def Uf(z n:Value):Bool:=match z with
 | .agg P=>match n with
  | .agg cs=>XG P.toList cs.toList
  |_=>false
 |z=>Zg z n
variable{o:Array Value}{a c:Nat}{F:Nat×Nat}{h:Program}{g q:TypeId}{c3 w:Value}{N:Value->Prop}{b:World}{z:bc}
def TN{φ:Value->Prop}(P:Zg w c3=true)(n:φ c3):Ri w φ:=by
 unfold Ri
 cases w<;>cases c3<;>simp[Zg]at P<;>first
  |exact⟨_,n⟩
  |exact⟨_,_,_,n⟩
  |(subst P;exact⟨_,n⟩)
def Nv:∀{P cs:List Value} {φ:List Value->Prop},XG P cs=true->φ cs->SV P φ
 |[],[],φ,_,a=>a
 |[],_::_,φ,n,_=>by simp[XG]at n
 |_::_,[],φ,n,_=>by simp[XG]at n
 |z::P,b::d,φ,n,a=>by
  simp only[XG,QK]at n;exact TN (φ:=λb=>SV P λc=>φ (b::c)) n.1 (Nv (φ:=λc=>φ (b::c)) n.2 a)
def cg(n:Uf w c3=true)(P:N c3):sQ w N:=by
 unfold sQ;split
 ·rename_i c
  cases c3<;>simp[Uf]at n
  rename_i cs;exact Nv (φ:=λa=>N (.agg a.toArray)) n (by simpa using P)
 ·rename_i b
  refine TN ?_ P
  cases w<;>first|exact n|exact Zz rfl (b _)
def zu{b:World}{c:Addr}{d:Prop}:∀{cs:List Value} {n:Nat},(∀P v,cs[P]? =some v->b.cell? (c.add (n+P))=some v)->d->jh b c n cs d
 |[],n,_,a=>a
 |v::h,n,e,a=>⟨e 0 v rfl,zu (λP f g=>by have:=e (P+1) f (by simpa using g);rwa [show n+1+P=n+(P+1) by omega]) a⟩
def iQ(n:Program)(P:TypeId)(cs:List Value):Bool:=uW n P&&(match dv n P with
 | .agg a=>Nat.beq (mT n P) a.size&&XG a.toList cs
 |_=>false)&&Nat.beq cs.length (mT n P)&&cs.all Value.oneCell'
def Nw{cs:List Value}(e:iQ h g cs=true)(i:∀P d,cs[P]? =some d->b.cell? ⟨a,c+P,none⟩=some d)(j:N (.agg cs.toArray)):
  jB h g (.pointer (some ⟨a,c,none⟩)) b N:=by
 simp only[iQ,QK]at e;obtain⟨⟨⟨k,n⟩,m⟩,o⟩:=e;unfold jB;simp only[k]
 revert n
 cases dv h g<;>simp only[Bool.false_eq_true,false_implies]
 rename_i p;intro n;simp only[QK]at n;simp only[n.1];exact Nv (φ:=λf=>jh b ⟨a,c,none⟩ 0 f (N (.agg f.toArray))) n.2 (zu (λP d l=>by rw[Xz,Addr.add_lit];exact i P d l) j)
def ar{cs:List Value}(n:iQ h g cs=true)(P:b.heap[a]? =some (.cells cs.toArray q F))(c:N (.agg cs.toArray)):
  jB h g (RK a) b N:=Nw n (λe f d=>ae P (by rw[Xz];simpa using d)) c
def Xo{cs:List Value}(d:iQ h g cs=true)(e:b.heap[a]? =some (.cells o q F))(f:∀n P,cs[n]? =some P->o[c+n]? =some P)(i:N (.agg cs.toArray)):
  jB h g (.pointer (some ⟨a,c,none⟩)) b N:=Nw d (λn P j=>ae e (f n P j)) i
def bJ{P a k:Nat}{es:List Value}(d:iQ h g es=true)(e:es.length=k)(f:∀n,n<k->b.cell? ⟨P,a+n,none⟩=es[n]?)(i:N (.agg es.toArray)):
  jB h g (.pointer (some ⟨P,a,none⟩)) b N:=Nw d (λn j c=>by rw[f n (by rw[<-e];exact(Qv.1 c).1)];exact c) i
def Gf{b d:Nat}{g:TypeId}{h:bc}:∀(a:List Value) (P:Nat) {n:World} {cs:Array Value},n.heap[b]? =some (.cells cs g (0,0))->d+P+a.length<=cs.size->
  (∀c,aj (·=b) n c->c.heap.size=n.heap.size->c.heap[b]? =some (.cells (Dq cs (d+P) a) g (0,0))->h c)->ke ⟨b,d,none⟩ P a n h
 |[],P,n,cs,e,i,f=>f n (aj.refl _) rfl e
 |v::a,P,n,cs,e,i,f=>by
  unfold ke;rw[Addr.add_lit];rw[Xq]at i;exact PS.mk e oM λr j k l=>Gf a (P+1) l dg λm o p q=>f m (j.then o) (p.trans k) q
def TO{P o:Nat}{cs:List Value}{n:Array Value}(c:iQ h g cs=true)(d:b.heap[P]? =some (.cells n q (0,0)))(m:o+cs.length<=n.size)(e:∀a,aj (·=P) b a->a.heap.size=b.heap.size->a.heap[P]? =some (.cells (Dq n o cs) q (0,0))->z a):oQ h g (.pointer (some ⟨P,o,none⟩)) (.agg cs.toArray) b z:=by
 simp only[iQ,QK]at c;obtain⟨⟨⟨f,p⟩,i⟩,j⟩:=c;unfold oQ;have k:Nat.beq cs.toArray.size (mT h g)=true:=by simpa using i
 have l:cs.toArray.toList.all Value.oneCell'=true:=by simpa using j
 simp only[f,k,l];exact Gf cs 0 d oM e
def aD{cs:List Value}(P:iQ h g cs=true)(c:b.heap[a]? =some (.cells o q (0,0)))(d:cs.length=o.size)(e:∀n,aj (·=a) b n->n.heap.size=b.heap.size->n.heap[a]? =some (.cells cs.toArray q (0,0))->z n):oQ h g (RK a) (.agg cs.toArray) b z:=
 TO P c oM λn f i j=>e n f i (by rw[j,Gc d])
end Go.aw
namespace Go.Proofs
open Go.Shelf
def Tryz.QR:Go.Shelf.Ren:=⟨λ|6=>138|15=>193|14=>192|28=>260|29=>261|20=>252|21=>253|22=>254|23=>255|24=>256|25=>257|26=>258|27=>259|46=>308|47=>309|48=>310|49=>311|50=>312|57=>346|n=>n,λ|22=>36|24=>82|25=>238|3=>3|39=>306|0=>0|53=>356|55=>358|4=>4|46=>350|45=>349|50=>56|5=>5|9=>9|66=>393|70=>397|76=>428|77=>429|n=>n,λ|n=>n⟩
def Tryz.Wq:Go.Proofs.SlLaysF0.n6 Tryz.prog Tryz.QR:={
 mixed:=by kernel_rfl
 f6:=⟨Tryz.f138.name,ce,Tryz.func138.trans bv⟩
 f14:=⟨Tryz.f192.name,ce,Tryz.func192.trans bv⟩
 f15:=Tryz.func193.trans bv
 f20:=⟨Tryz.f252.name,ce,Tryz.func252.trans bv⟩
 f21:=⟨Tryz.f253.name,ce,Tryz.func253.trans bv⟩
 f22:=⟨Tryz.f254.name,ce,Tryz.func254.trans bv⟩
 f23:=⟨Tryz.f255.name,ce,Tryz.func255.trans bv⟩
 f24:=⟨Tryz.f256.name,ce,Tryz.func256.trans bv⟩
 f25:=⟨Tryz.f257.name,ce,Tryz.func257.trans bv⟩
 f26:=⟨Tryz.f258.name,ce,Tryz.func258.trans bv⟩
 f27:=⟨Tryz.f259.name,ce,Tryz.func259.trans bv⟩
 f28:=Tryz.func260.trans bv
 f29:=Tryz.func261.trans bv
 f46:=⟨Tryz.f308.name,ce,Tryz.func308.trans bv⟩
 f47:=Tryz.func309.trans bv
 f48:=Tryz.func310.trans bv
 f49:=⟨Tryz.f311.name,ce,Tryz.func311.trans bv⟩
 f50:=⟨Tryz.f312.name,ce,Tryz.func312.trans bv⟩
 f57:=⟨Tryz.f346.name,ce,Tryz.func346.trans bv⟩
 t0:=Tryz.underlying0
 a0:=Tryz.isAgg0
 z0:=Tryz.sizeOf0
 v0:=Tryz.zeroValue0
 t3:=Tryz.underlying3
 a3:=Tryz.isAgg3
 z3:=Tryz.sizeOf3
 v3:=Tryz.zeroValue3
 t4:=Tryz.underlying4
 a4:=Tryz.isAgg4
 z4:=Tryz.sizeOf4
 v4:=Tryz.zeroValue4
 t5:=Tryz.underlying5
 a5:=Tryz.isAgg5
 z5:=Tryz.sizeOf5
 v5:=Tryz.zeroValue5
 t9:=Tryz.underlying9
 a9:=Tryz.isAgg9
 z9:=Tryz.sizeOf9
 v9:=Tryz.zeroValue9
 t22:=Tryz.underlying36
 a22:=Tryz.isAgg36
 z22:=Tryz.sizeOf36
 v22:=Tryz.zeroValue36
 t25:=Tryz.underlying238
 a25:=Tryz.isAgg238
 z25:=Tryz.sizeOf238
 v25:=Tryz.zeroValue238
 t39:=Tryz.underlying306
 a39:=Tryz.isAgg306
 z39:=Tryz.sizeOf306
 v39:=Tryz.zeroValue306
 t45:=Tryz.underlying349
 a45:=Tryz.isAgg349
 z45:=Tryz.sizeOf349
 v45:=Tryz.zeroValue349
 t46:=Tryz.underlying350
 a46:=Tryz.isAgg350
 z46:=Tryz.sizeOf350
 v46:=Tryz.zeroValue350
 t50:=Tryz.underlying56
 a50:=Tryz.isAgg56
 z50:=Tryz.sizeOf56
 v50:=Tryz.zeroValue56
 t53:=Tryz.underlying356
 a53:=Tryz.isAgg356
 z53:=Tryz.sizeOf356
 v53:=Tryz.zeroValue356
 t55:=Tryz.underlying358
 a55:=Tryz.isAgg358
 z55:=Tryz.sizeOf358
 v55:=Tryz.zeroValue358
 t66:=Tryz.underlying393
 a66:=Tryz.isAgg393
 z66:=Tryz.sizeOf393
 v66:=Tryz.zeroValue393
 t70:=Tryz.underlying397
 a70:=Tryz.isAgg397
 z70:=Tryz.sizeOf397
 v70:=Tryz.zeroValue397
 t76:=Tryz.underlying428
 a76:=Tryz.isAgg428
 z76:=Tryz.sizeOf428
 v76:=Tryz.zeroValue428
 t77:=Tryz.underlying429
 a77:=Tryz.isAgg429
 z77:=Tryz.sizeOf429
 v77:=Tryz.zeroValue429}
def Tryz.QS:Go.Shelf.Ren:=⟨λ|6=>405|15=>193|14=>407|28=>260|29=>261|20=>408|21=>409|22=>410|23=>411|24=>412|25=>413|26=>414|27=>415|46=>416|47=>309|48=>310|49=>417|50=>418|57=>419|n=>n,λ|22=>44|24=>195|25=>469|3=>3|39=>306|0=>0|53=>356|55=>358|4=>4|46=>350|45=>349|50=>56|5=>5|9=>9|66=>393|70=>397|76=>428|77=>429|n=>n,λ|n=>n⟩
def Tryz.Wr:Go.Proofs.SlLaysF0.n6 Tryz.prog Tryz.QS:={
 mixed:=by kernel_rfl
 f6:=⟨Tryz.f405.name,ce,Tryz.func405.trans bv⟩
 f14:=⟨Tryz.f407.name,ce,Tryz.func407.trans bv⟩
 f15:=Tryz.func193.trans bv
 f20:=⟨Tryz.f408.name,ce,Tryz.func408.trans bv⟩
 f21:=⟨Tryz.f409.name,ce,Tryz.func409.trans bv⟩
 f22:=⟨Tryz.f410.name,ce,Tryz.func410.trans bv⟩
 f23:=⟨Tryz.f411.name,ce,Tryz.func411.trans bv⟩
 f24:=⟨Tryz.f412.name,ce,Tryz.func412.trans bv⟩
 f25:=⟨Tryz.f413.name,ce,Tryz.func413.trans bv⟩
 f26:=⟨Tryz.f414.name,ce,Tryz.func414.trans bv⟩
 f27:=⟨Tryz.f415.name,ce,Tryz.func415.trans bv⟩
 f28:=Tryz.func260.trans bv
 f29:=Tryz.func261.trans bv
 f46:=⟨Tryz.f416.name,ce,Tryz.func416.trans bv⟩
 f47:=Tryz.func309.trans bv
 f48:=Tryz.func310.trans bv
 f49:=⟨Tryz.f417.name,ce,Tryz.func417.trans bv⟩
 f50:=⟨Tryz.f418.name,ce,Tryz.func418.trans bv⟩
 f57:=⟨Tryz.f419.name,ce,Tryz.func419.trans bv⟩
 t0:=Tryz.underlying0
 a0:=Tryz.isAgg0
 z0:=Tryz.sizeOf0
 v0:=Tryz.zeroValue0
 t3:=Tryz.underlying3
 a3:=Tryz.isAgg3
 z3:=Tryz.sizeOf3
 v3:=Tryz.zeroValue3
 t4:=Tryz.underlying4
 a4:=Tryz.isAgg4
 z4:=Tryz.sizeOf4
 v4:=Tryz.zeroValue4
 t5:=Tryz.underlying5
 a5:=Tryz.isAgg5
 z5:=Tryz.sizeOf5
 v5:=Tryz.zeroValue5
 t9:=Tryz.underlying9
 a9:=Tryz.isAgg9
 z9:=Tryz.sizeOf9
 v9:=Tryz.zeroValue9
 t22:=Tryz.underlying44
 a22:=Tryz.isAgg44
 z22:=Tryz.sizeOf44
 v22:=Tryz.zeroValue44
 t25:=Tryz.underlying469
 a25:=Tryz.isAgg469
 z25:=Tryz.sizeOf469
 v25:=Tryz.zeroValue469
 t39:=Tryz.underlying306
 a39:=Tryz.isAgg306
 z39:=Tryz.sizeOf306
 v39:=Tryz.zeroValue306
 t45:=Tryz.underlying349
 a45:=Tryz.isAgg349
 z45:=Tryz.sizeOf349
 v45:=Tryz.zeroValue349
 t46:=Tryz.underlying350
 a46:=Tryz.isAgg350
 z46:=Tryz.sizeOf350
 v46:=Tryz.zeroValue350
 t50:=Tryz.underlying56
 a50:=Tryz.isAgg56
 z50:=Tryz.sizeOf56
 v50:=Tryz.zeroValue56
 t53:=Tryz.underlying356
 a53:=Tryz.isAgg356
 z53:=Tryz.sizeOf356
 v53:=Tryz.zeroValue356
 t55:=Tryz.underlying358
 a55:=Tryz.isAgg358
 z55:=Tryz.sizeOf358
 v55:=Tryz.zeroValue358
 t66:=Tryz.underlying393
 a66:=Tryz.isAgg393
 z66:=Tryz.sizeOf393
 v66:=Tryz.zeroValue393
 t70:=Tryz.underlying397
 a70:=Tryz.isAgg397
 z70:=Tryz.sizeOf397
 v70:=Tryz.zeroValue397
 t76:=Tryz.underlying428
 a76:=Tryz.isAgg428
 z76:=Tryz.sizeOf428
 v76:=Tryz.zeroValue428
 t77:=Tryz.underlying429
 a77:=Tryz.isAgg429
 z77:=Tryz.sizeOf429
 v77:=Tryz.zeroValue429}
def Tryz.Nu:Go.Shelf.Ren:=⟨λ|5=>313|7=>347|n=>n,λ|23=>312|25=>3|3=>195|4=>4|20=>20|n=>n,λ|n=>n⟩
def Tryz.Xp:Go.Proofs.SlLaysW.n5 Tryz.prog Tryz.Nu:={
 mixed:=by kernel_rfl
 f5:=⟨Tryz.f313.name,ce,Tryz.func313.trans bv⟩
 f7:=Tryz.func347.trans bv
 t4:=Tryz.underlying4
 a4:=Tryz.isAgg4
 z4:=Tryz.sizeOf4
 v4:=Tryz.zeroValue4
 t20:=Tryz.underlying20
 a20:=Tryz.isAgg20
 z20:=Tryz.sizeOf20
 v20:=Tryz.zeroValue20
 t23:=Tryz.underlying312
 a23:=Tryz.isAgg312
 z23:=Tryz.sizeOf312
 v23:=Tryz.zeroValue312}
end Go.Proofs
namespace Go.Proofs.YtkpomgifkloklaaGreatDoor
open Go.aw Go.Sort
def bg(n:ah)(P:be)(a b:Nat):iQ LL 82 (aF n P a b)=true:=kR
def sO(n:ah)(P:be)(a b:Nat):Uf (dv LL 82) (.agg (aF n P a b).toArray)=true:=kR
def G(n P:World):Prop:=∃a b,P=grow (n.drewN a) b
variable{B:ba}{O e r:Int}{d5:Int×Int}{h4:List ((Int×Int)×ah)}{E e1:List ah}{a c i p:Nat}{f:ac}{c8:Obj}{d v:be}{g:TypeId}{a7 b k:World}{z:bc}{L l:ah}{y:aq}
def G.then(d:G b k)(e:G k a7):G b a7:=by
 obtain⟨n,P,rfl⟩:=d;obtain⟨a,c,rfl⟩:=e;exact⟨n+a,P++c,by show grow (grow ((b.drewN n).drewN a) P) c=_;rw[grow_grow,World.drewN_drewN]⟩
def G.keep{S:ac}(n:G b k):aj S b k:=by
 obtain⟨d,P,rfl⟩:=n;refine⟨rfl,rfl,rfl,by simp[grow],λa c _=>?_⟩;show(b.heap++P)[a]? =_;rw[Array.getElem?_append_left c]
def G.drew(n:bW b k):G b k:=by obtain⟨P,rfl⟩:=n;exact⟨P,#[],sM⟩
def PA.YU(P:∀n,G b n->n.heap.size=b.heap.size+1->n.heap[b.heap.size]? =some c8->z n):PA b c8 z:=
 P (b.alloc c8) ⟨0,#[c8],by rw[alloc_eq_grow];rfl⟩ sM (heap_alloc_new b c8)
def isNaN:bn 262 #[WP e] b (Ok λn P=>n= .bool false/\b=P):=Ah (Ok.mk ⟨sM,rfl⟩)
def KN(n P:Int):Int:=if n<P then-1 else if P<n then 1 else 0
def iB:bn 195 #[WP e,WP r] b (Ok λa c=>a= WP (KN e r)/\b=c):=by
 refine vS (PC.ok isNaN ?_);rintro _ _ ⟨rfl,rfl⟩;refine⟨_,rfl,PC.ok isNaN ?_⟩;rintro _ _ ⟨rfl,rfl⟩;refine⟨_,rfl,al.ff rfl (al.ff rfl (al.dec (λn=>Ok.mk ⟨by unfold KN;rw[Zx n],rfl⟩) (λn=>al.dec (λP=>Ok.mk ⟨by unfold KN;rw[Zq n,Zx P],rfl⟩) (λP=>Ok.mk ⟨by unfold KN;rw[Zq n,Zq P],rfl⟩))))⟩
def OC:List Int->Int
 |[]=>0
 |x::n=>if x≠0 then x else OC n
def Rz(q:b.heap[a]? =some (.cells #[WP e,WP r,WP O] g (0,0))):
  bn 194 #[.slice (UV a) 3 3] b (Ok λh d=>h= WP (OC [e,r,O])/\b=d):=by
 refine G_ ⟨λk c d=>∃n:Nat,c=n/\n<=3/\k=3-n/\OC [e,r,O]=OC ([e,r,O].drop n)/\b=d,⟨_,0,rfl,oM,rfl,rfl,rfl⟩,?_⟩;rintro k c _ _ ⟨n,rfl,w,rfl,i,rfl⟩;refine al.dec (λs=>?_) (λs=>?_)
 ·have t:∀f:Int,[e,r,O][n]? =some f->∃l m,(UV a:be)=some ⟨l,m,none⟩/\(0:Int)<=n/\(n:Int)<((3:Nat):Int)/\∃j:Int,b.cell? ⟨l,m+Int.toNat n,none⟩=some (WP j)/\al (j !=0) (Ok (λh d=>h= WP (OC [e,r,O])/\b=d) (.returned (WP j)) b) (∃o,o<3-n/\∃c:Nat,PP .i64 ((n:Int)+1)=c/\c<=3/\o=3-c/\OC [e,r,O]=OC ([e,r,O].drop c)/\b=b):=by
   intro f P;have p:[e,r,O].drop n=f::[e,r,O].drop (n+1):=by
    rw[X4 dg];congr 1;simpa using(Qv.1 P).2
   refine⟨a,0,rfl,oM,oM,f,ae q ?_,al.eu (λu=>Ok.mk ⟨?_,rfl⟩) (λv=>⟨_,oM,n+1,an oM,oM,rfl,?_,rfl⟩)⟩
   ·rw[Xz]
    match n,P with
    |0,P=>simp at P;simp[P]
    |1,P=>simp at P;simp[P]
    |2,P=>simp at P;simp[P]
    |n+3,P=>simp at P
   ·rw[i,p,OC,Zx u]
   ·rw[i,p,OC,Zq (by simpa using v)]
  have P:n<[e,r,O].length:=by simp;omega
  exact t [e,r,O][n] (by simp[P])
 ·obtain rfl:n=3:=oM
  exact Ok.mk ⟨by rw[i];rfl,rfl⟩
def Iz(n P:ah):OC [KN n.aC P.aC,KN n.origin P.origin,KN n.seq P.seq]=tD n P:=by
 unfold tD eX KN OC OC OC OC
 by_cases d:n.aC<P.aC
 ·simp[d]
 by_cases g:P.aC<n.aC
 ·simp[d,g];omega
 have a:n.aC=P.aC:=oM
 by_cases e:n.origin<P.origin
 ·simp[a,e]
 by_cases h:P.origin<n.origin
 ·simp[a,e,h];omega
 have b:n.origin=P.origin:=oM
 by_cases c:n.seq<P.seq
 ·simp[a,b,c]
 by_cases f:P.seq<n.seq
 ·simp[a,b,c,f]
 ·simp[a,b,c,f]
def Dj:bn 139 #[.agg (aF l d a c).toArray,.agg (aF L v i p).toArray] b (Ok λh j=>h= WP (tD l L)/\G b j):=by
 refine xR (PA.YU λs k t m=>PA.YU λu f w o=>λx q=>⟨λ_=>False,?_⟩);have n:=G.drew q;have P:=(n.keep (S:=λ_=>False)).get ((f.keep (S:=λ_=>False)).get m id) id;have e:=(n.keep (S:=λ_=>False)).get o id;refine⟨_,ae P rfl,_,ae e rfl,id,_,ae P rfl,id,_,ae e rfl,id,_,ae P rfl,id,_,ae e rfl,PC.ok iB ?_⟩;rintro _ _ ⟨rfl,rfl⟩;refine⟨_,rfl,aj.refl _,PC.ok iB ?_⟩;rintro _ _ ⟨rfl,rfl⟩;refine⟨_,rfl,aj.refl _,PC.ok iB ?_⟩;rintro _ _ ⟨rfl,rfl⟩;refine⟨_,rfl,aj.refl _,PA.YU λy g z r=>⟨g.keep,PC.ok (Rz r) ?_⟩⟩;rintro _ _ ⟨rfl,rfl⟩;exact⟨_,rfl,aj.refl _,Ok.mk ⟨by rw[Iz],((k.then f).then n).then g⟩⟩
structure TL where
 e:ah
 a:be
 n:Nat
 c:Nat
instance:Inhabited TL:=⟨⟨⟨0,0,0,[],0,0,0,0,0,0⟩,none,0,0⟩⟩
def encS(n:TL):List Value:=aF n.e n.a n.n n.c
def TM(P:TL):∀a∈encS P,a.oneCell'=true:=by
 intro b n;simp only[encS,aF,Q2,List.not_mem_nil,or_false]at n;rcases n with rfl|rfl|rfl|rfl|rfl|rfl|rfl|rfl|rfl|rfl<;>rfl
def AL(n P:TL):ltOf (λn P:TL=>tD n.e P.e) n P=eX n.e P.e:=by
 unfold ltOf tD
 cases a:eX n.e P.e
 ·cases b:eX P.e n.e<;>simp[a,b]
 ·simp[a]
def kr:eX l L=true↔l.aC<L.aC\/l.aC=L.aC/\(l.origin<L.origin\/l.origin=L.origin/\l.seq<L.seq):=by simp[eX]
def vh:eX l L=false↔¬(l.aC<L.aC\/l.aC=L.aC/\(l.origin<L.origin\/l.origin=L.origin/\l.seq<L.seq)):=by rw[<-kr];simp
def YV:SWO (ltOf λn P:TL=>tD n.e P.e) where
 irrefl n:=by rw[AL,vh];omega
 trans n P z h1 h2:=by rw[AL,kr]at*;omega
 ntrans n P z h1 h2:=by rw[AL,vh]at*;omega
def reps_evs{c:World}{D:ac}:∀{a:List ah} {cs:List Value},cf iz c D a cs->∃P:List TL,P.map (·.e)=a/\cs=P.flatMap encS/\∀n∈P,Row aO 8 c D n.a n.n n.e.aM/\n.e.Ok
 |[],_,d=>⟨[],rfl,d,sM⟩
 |e::a,_,⟨r,s,f,⟨g,h,i,j,k,l⟩,m⟩=>by
  obtain⟨P,o,p,q⟩:=reps_evs m;refine⟨⟨e,g,h,i⟩::P,by simp[o],by rw[f,j,p];rfl,?_⟩;intro n b;rcases Q2.1 b with rfl|b
  ·exact⟨k,l⟩
  ·exact q n b
def reps_of_evs{a:World}{D:ac}:∀{n:List TL},(∀x∈n,Row aO 8 a D x.a x.n x.e.aM/\x.e.Ok)->cf iz a D (n.map (·.e)) (n.flatMap encS)
 |[],_=>rfl
 |x::n,P=>⟨encS x,n.flatMap encS,rfl,⟨x.a,x.n,x.c,rfl,(P x (QV ..)).1,(P x (QV ..)).2⟩,reps_of_evs λb c=>P b (QJ _ c)⟩
def ss{n:List TL}(P:a<n.length*10):(n.flatMap encS)[a]? =(encS n[a/10]!)[a % 10]? :=by
 induction n generalizing a with
 |nil=>simp at P
 |cons d n e=>
  have f:(encS d).length=10:=rfl;rw[List.flatMap_cons]
  by_cases b:a<10
  ·rw[XW oM,Nat.div_eq_of_lt b,Nat.mod_eq_of_lt b];rfl
  ·rw[X8 oM,f,e (by simp at P;omega)]
   obtain⟨c,rfl⟩:∃c,a=c+10:=⟨a-10,oM⟩
   rw[Nat.add_sub_cancel,Nat.add_div_right _ dC,Nat.add_mod_right];simp
def iJ(n:List TL):(n.flatMap encS).length=n.length*10:=by
 induction n with
 |nil=>rfl
 |cons P n a=>rw[List.flatMap_cons,QX,a];have b:(encS P).length=10:=rfl;rw[b];simp;omega
def Dk(n:List TL):(flatK encS 10 n.toArray).toList=n.flatMap encS:=by
 apply X3;intro P
 by_cases a:P<n.length*10
 ·rw[ss a]
  have d:P<(flatK encS 10 n.toArray).size:=by simpa using a
  have b:=get_flatK encS 10 n.toArray P (by simpa using a);rw[getElem!_pos _ P d]at b;have e:(encS n[P/10]!).length=10:=rfl;have c:P % 10<(encS n[P/10]!).length:=by rw[e];omega
  rw[Qq (by simpa using a),Qq c]
  congr 1
  rw[Array.getElem_toList,b];rw[getElem!_pos _ _ (by simpa using c)]
  congr 1
  simp
 ·rw[Q7 (by simpa using a),Q7 (by rw[iJ];omega)]
def Dh(n:List ah):Prop:=n.Pairwise λP a=>eX a P=false
def KK(l:aS iz 82 f b d a c E)(t:E.length<=20000000):
  bn 138 #[.slice d a c,.func (.func 139) #[] #[]] b (Ok λM u=>M= .tuple #[]/\∃A,A.Perm E/\Dh A/\aS iz 82 f u d a c A/\aj (λm=>aI d=some m) b u):=by
 obtain⟨cs,D,B,Z,N⟩:=l.body;obtain⟨P,C,rfl,a3⟩:=reps_evs Z;have F:=l.len dC;have v:P.length=a:=by rw[F,<-C];simp
 rcases B.cases with⟨rfl,rfl,rfl,h0⟩|⟨g,i,rfl,w,O,H,Q⟩
 ·have hd:P=[]:=QW v
  refine(AnyF.slices_SortFunc_none Tryz.Wq none 0 _ b).mono ?_;rintro p u ⟨rfl,rfl⟩;exact Ok.mk ⟨rfl,E,List.Perm.refl _,by rw[<-C,hd];exact List.Pairwise.nil,l,aj.refl _⟩
 ·have R:iz.k=10:=rfl
  rw[R]at Q H;have a4:flatK encS 10 P.toArray=(P.flatMap encS).toArray:=by rw[<-Dk]
  have hH:HoldsK encS 10 b g 0 P.toArray:=by
   intro j q;rw[size_flatK]at q;simp only[List.size_toArray]at q;have S:j<(P.flatMap encS).length:=by rw[iJ];exact q
   refine⟨?_,by simp[World.frozen?,w]⟩;have k:(flatK encS 10 P.toArray)[j]! =(P.flatMap encS)[j]:=by
    rw[a4,getElem!_pos _ j (by simpa using S)];simp
   rw[k,Xz];refine ae w ?_;have h:(i.toList.take (a*10))[j]? =some (P.flatMap encS)[j]:=by rw[Q];exact Qq S
   rw[Xw,Zx oM]at h;simpa using h
  have t:=B.row;have I:c<=maxLen:=by
   obtain⟨_,a0,_,T,_,_,_,I,_⟩:=B.row.2.resolve_left (by rintro⟨l,_⟩;cases l);simp only[XX]at T;rw[T.2.2];exact I
  have a5:P.toArray.size<4611686018427387904:=by
   simp only[List.size_toArray,v];omega
  have U:=AnyQ.slices_SortFunc Tryz.Wq 10 (λb=>di _ _ _ kR ⟨_,Tryz.underlying82⟩ b) (λb=>Tryz.sizeOf82 b) encS (λ_=>rfl) TM (λx V=>tD x.e V.e) YV 139 #[] g 0 c P.toArray b
   (enters_of Tryz.func139 kR rfl) (λb0 r dk b1 x V=>(Dj).mono ?_) hH (az w) a5
  ·rw[show P.toArray.size=a by simpa using v]at U
   refine U.mono ?_;rintro p u ⟨rfl,e,y,r,hp,hs,rfl⟩;obtain⟨p1,p2,W⟩:=hp;have n:e.size=a:=p1.trans (by simpa using v);have X:e.toList.Perm P:=by
    have k:e.extract 0 a=e:=by rw[<-n];exact Array.extract_size
    have h:P.toArray.extract 0 a=P.toArray:=by rw[show a=P.toArray.size by simpa using v.symm];exact Array.extract_size
    rw[k,h]at W;exact W
   have a1:flatK encS 10 e=(e.toList.flatMap encS).toArray:=by rw[<-Dk]
   have J:(sortWorldK encS 10 b g 0 y e r).heap[g]? =some (.cells (putCells id 0 (flatK encS 10 e) i) 82 (0,0)):=by
    have a6:=az w;show((Sort.ahead b y).heap.modify g _++r)[g]? =_;rw[Array.getElem?_append_left (by simpa[Sort.ahead]using a6),Array.getElem?_modify,Zx rfl];show Option.map _ b.heap[g]? =_;rw[w];rfl
   have z:aj (λm=>aI (UV g)=some m) b (sortWorldK encS 10 b g 0 y e r):=by
    refine⟨rfl,rfl,rfl,?_,λa2 z F=>?_⟩
    ·show b.heap.size<=((Sort.ahead b y).heap.modify g _++r).size
     simp[Sort.ahead]
    ·show((Sort.ahead b y).heap.modify g _++r)[a2]? =_
     rw[Array.getElem?_append_left (by simpa[Sort.ahead]using z),Array.getElem?_modify,Zq (λp=>F (by rw[p];rfl))]
     rfl
   have a7:(putCells id 0 (flatK encS 10 e) i).size=c*10:=by unfold putCells;rw[Array.size_mapIdx];exact H
   refine Ok.mk ⟨rfl,e.toList.map (·.e),by rw[<-C];exact X.map _,?_,⟨⟨e.toList.flatMap encS,D,⟨⟨?_,.inr ⟨g,c,_,rfl,Qj _,J,O,I,a7,?_⟩⟩⟩,reps_of_evs λx hx=>?_,N⟩,l.self,λm t=>Qk (l.aE m t) z.size⟩,z⟩
   ·unfold Dh
    rw[List.pairwise_map,List.pairwise_iff_getElem];intro Y j hi q a8;have k:=hs Y j (Qj _) a8 (by simpa[n]using q);rw[AL,getElem!_pos _ j (by simpa using q),getElem!_pos _ Y (by simpa using hi)]at k;simpa using k
   ·rw[iJ,XK,n];rfl
   ·apply X3
    intro s;rw[R,Xw];split
    ·rename_i o
     rw[ss (by rw[XK,n];exact o),<-ss (by rw[XK,n];exact o)];unfold putCells;have a9:s<i.size:=by rw[H];exact Qk o (Q0 _ O)
     rw[Array.getElem?_toList,Array.getElem?_mapIdx,X6 a9];simp only[Option.map_some];have K:s<(flatK encS 10 e).size:=by rw[size_flatK,n];exact o
     rw[Zx ⟨Qj _,by rw[Xz];exact K⟩,Nat.sub_zero,getElem!_pos _ s K];have:(flatK encS 10 e)[s]=(e.toList.flatMap encS)[s]'(by rw[iJ,XK,n];exact o):=by
      have h:=Zj (·[s]?) a1;simp only[List.getElem?_toArray]at h;rw[X6 K,Qq (by rw[iJ,XK,n];exact o)]at h;exact XJ h
     rw[this];exact(Qq _).symm
    ·rename_i o
     rw[Q7 (by rw[iJ,XK,n];omega)]
   ·have L:x∈P:=X.mem_iff.1 hx
    obtain⟨k,h⟩:=a3 x L;exact⟨k.keep z λm t p=>(N m t).2 p,h⟩
  ·rintro p u ⟨M,rfl,rfl,hG⟩
   exact⟨rfl,hG⟩
open Go.aw
abbrev Ww(n:List ah):Prop:=n.Pairwise λP a=>eX P a=true
structure aq.OK (S:aq):Prop where
 n:S.n<=64
 RA:Ww S.l
 ids:(S.l.map aZ).Nodup
 XN:∀e∈S.l,dm e S.n=0
 ok:∀e∈S.l,e.Ok
def Gw(P:aZ l≠aZ L):eX l L=true\/eX L l=true:=by
 rw[kr,kr];have:¬(l.origin=L.origin/\l.seq=L.seq):=λn=>P (by unfold aZ;rw[n.1,n.2]);omega
def ud{n P a:ah}(b:eX n P=true)(c:eX P a=true):eX n a=true:=by rw[kr]at*;omega
def nX(n:eX l L=true):eX L l=false:=by rw[kr]at n;rw[vh];omega
def cP(P:ah):∀n,(dE P n).Perm (P::n)
 |[]=>List.Perm.refl _
 |x::n=>by
  unfold dE;split
  ·exact List.Perm.refl _
  ·exact(List.Perm.cons x (cP P n)).trans (List.Perm.swap P x n)
def xy{c:ah}:∀{P},Ww P->(∀x∈P,aZ x≠aZ c)->Ww (dE c P)
 |[],_,_=>by unfold dE;exact List.pairwise_singleton ..
 |x::P,d,e=>by
  obtain⟨f,g⟩:=List.pairwise_cons.1 d;unfold dE;split
  ·rename_i b
   exact List.pairwise_cons.2 ⟨λa n=>by
    rcases Q2.1 n with rfl|n
    ·exact b
    ·exact ud b (f a n),d⟩
  ·rename_i b
   refine List.pairwise_cons.2 ⟨λa n=>?_,xy g λa n=>e a (QJ _ n)⟩;rcases Q2.1 ((cP c P).mem_iff.1 n)with rfl|n
   ·exact(Gw (e x (QV ..))).resolve_right (by simpa using b)
   ·exact f a n
def Nt(f:Dh E)(g:Ww e1)(b:E.Perm e1)(i:(E.map aZ).Nodup):E=e1:=by
 refine b.eq_of_pairwise (le:=λP n=>eX n P=false) (λP n j k c d=>?_) f (g.imp λh=>nX h)
 by_cases e:aZ P=aZ n
 ·have a:n∈E:=b.mem_iff.2 k
  obtain⟨o,l,rfl⟩:=List.getElem_of_mem j;obtain⟨p,m,rfl⟩:=List.getElem_of_mem a;have:=(List.getElem_inj (xs:=E.map aZ) (h₀:=by simpa using l) (h₁:=by simpa using m) i).1 (by simpa using e);subst this;rfl
 ·rcases Gw e with h|h
  ·rw[h]at d;cases d
  ·rw[h]at c;cases c
def VJ(P:(E.map aZ).Nodup)(n:l∈E):E.find? (λa=>aZ a==aZ l)=some l:=by
 induction E with
 |nil=>cases n
 |cons a E b=>
  simp only[QY,List.nodup_cons]at P;rcases Q2.1 n with rfl|n
  ·simp
  ·have c:aZ a≠aZ l:=λd=>P.1 (d▸Xk.2 ⟨l,n,rfl⟩)
   rw[List.find?_cons_of_neg (by simpa using c)];exact b P.2 n
def aq.get_some(n:y.get d5=some l):l∈y.l/\aZ l=d5:=
 ⟨List.mem_of_find?_eq_some n,by simpa using List.find?_some n⟩
def aq.get_none(P:y.get d5=none):∀n∈y.l,aZ n≠d5:=λn a=>by
 have:=List.find?_eq_none.1 P n a;simpa using this
def aq.OK.get(n:y.OK)(P:l∈y.l):y.get (aZ l)=some l:=VJ n.ids P
def KJ(g:y.OK)(c:∀n∈h4,n.1=aZ n.2)(d:(h4.map (·.2)).Perm y.l)(k:Tidy h4)(P:Int×Int):au h4 P=y.get P:=by
 cases a:au h4 P with
 |none=>
  rw[jS]at a
  symm
  refine List.find?_eq_none.2 λb h=>?_;obtain⟨n,e,rfl⟩:=Xk.1 (d.mem_iff.2 h);intro i;exact a (Xk.2 ⟨n,e,by rw[c n e];simpa using i⟩)
 |some b=>
  have f:=cA a;have j:P=aZ b:=c _ f;have:b∈y.l:=d.mem_iff.1 (Xk.2 ⟨_,f,rfl⟩);rw[j,g.get this]
def yB(P:List ah)(n:Int):P.foldl (λn a=>max n a.aC) n=max n (P.foldl (λn a=>max n a.aC) 0)\/n<0:=by
 induction P generalizing n with
 |nil=>simp;omega
 |cons b P c=>
  rw[List.foldl_cons,List.foldl_cons]
  by_cases e:n<0
  ·exact .inr e
  ·rcases c (max n b.aC)with h|h
   ·rcases c (max 0 b.aC)with d|d
    ·left;rw[h,d];omega
    ·omega
   ·omega
def aq.VH(n:aq)(P:ah):aq.top ⟨n.n,dE P n.l⟩=max n.top P.aC:=by
 show(dE P n.l).foldl _ _=_;rw[(cP P n.l).foldl_eq' (λa _ b _ c=>oM),List.foldl_cons];rcases yB n.l (max 0 P.aC)with h|h
 ·rw[h]
  show max (max 0 P.aC) n.top=_;have:0<=n.top:=by
   rcases yB n.l 0 with h|h
   ·unfold aq.top;omega
   ·omega
  omega
 ·omega
def aq.Nh(n:aq):0<=n.top:=by
 rcases yB n.l 0 with h|h
 ·unfold aq.top;omega
 ·omega
def jP(n:dm l a=0):0<=l.origin/\l.origin<a/\1<=l.seq/\1<=l.aC/\0<=l.agg/\0<=l.key/\l.aM.length=a/\(∀P∈l.aM,0<=P)/\l.aM.getD l.origin.toNat 0=qm (l.seq-1)/\1<=l.op/\l.op<=5/\0<=l.a_/\l.a_<8/\0<=l.field/\l.field<8:=by
 unfold dm at n;split at n
 ·simp at n
 ·rename_i b
  split at n
  ·simp at n
  ·rename_i c
   split at n
   ·simp at n
   ·rename_i g
    split at n
    ·simp at n
    ·rename_i h
     simp only[not_or,List.any_eq_true,Zk,not_exists,not_and]at b;obtain⟨i,j,k,P,m,d⟩:=b;refine⟨oM,oM,oM,oM,oM,oM,oM,λe f=>by have:=d e f;omega,by simpa using c,oM,oM,oM,oM,oM,oM⟩
def aq.GB(n:aq)(P:ah)(a:Nat):aq.qG ⟨n.n,dE P n.l⟩ a=n.qG a+if P.origin=(a:Int)then 1 else 0:=by
 unfold aq.qG;show(dE P n.l).countP _=_;rw[(cP P n.l).countP_eq,List.countP_cons]
 congr 1
 simp
def aq.Hp(n:aq)(P:Nat):n.qG P<=n.l.length:=List.countP_le_length
def aq.aY(n:aq):n.vec.length=n.n:=by simp[aq.vec]
def aq.lC(n:aq)(P:a<n.n):n.vec[a]? =some (n.qG a:Int):=by simp[aq.vec,P]
def aq.qU(S:aq)(n:a<S.n):S.vec.getD a 0=(S.qG a:Int):=by rw[QQ,S.lC n];rfl
def aq.N_(n:aq)(b:ah)(e:b.origin=(a:Int)):aq.vec ⟨n.n,dE b n.l⟩=n.vec.set a (n.qG a+1:Int):=by
 apply X3;intro c
 by_cases P:c<n.n
 ·rw[aq.lC ⟨n.n,dE b n.l⟩ P,aq.GB,Xj,n.lC P,n.aY]
  by_cases d:a=c
  ·subst d;simp[e,P]
  ·rw[Zq d,Zq oM];simp
 ·rw[Q7 (by rw[aq.aY];exact Nat.le_of_not_lt P),Q7 (by rw[List.length_set,n.aY];omega)]
def aq.add_def(n:aq)(P:ah):n.add P=if dm P n.n≠0 then(dm P n.n,n)else if(n.get (aZ P)).isSome then(16,n)else
 if P.seq≠(n.vec.getD P.origin.toNat 0)+1 then(9,n)else if(List.range n.n).any λa=>!n.mr P a then(9,n)else(0,⟨n.n,dE P n.l⟩):=rfl
def aq.AT(n:y.OK)(f:l.Ok):(y.add l).2.OK/\(y.add l).2.n=y.n:=by
 rw[aq.add_def]
 by_cases b:dm l y.n=0
 rotate_left
 ·rw[Zx b];exact⟨n,rfl⟩
 rw[Zq (by simpa using b)]
 by_cases c:(y.get (aZ l)).isSome=true
 ·rw[Zx c];exact⟨n,rfl⟩
 rw[Zq c];split
 ·exact⟨n,rfl⟩
 split
 ·exact⟨n,rfl⟩
 have e:y.get (aZ l)=none:=by simpa using c
 have d:=cP l y.l;refine⟨⟨n.n,xy n.RA (aq.get_none e),?_,?_,?_⟩,rfl⟩
 ·refine(d.map aZ).nodup_iff.2 ?_
  rw[QY,List.nodup_cons];exact⟨λg=>by obtain⟨a,P,h⟩:=Xk.1 g;exact aq.get_none e a P h,n.ids⟩
 ·intro a P
  rcases Q2.1 (d.mem_iff.1 P)with rfl|P
  ·exact b
  ·exact n.XN a P
 ·intro a P
  rcases Q2.1 (d.mem_iff.1 P)with rfl|P
  ·exact f
  ·exact n.ok a P
def aq.t_(n:a<=64):aq.OK ⟨a,[]⟩:=⟨n,List.Pairwise.nil,sM,sM,sM⟩
structure aq.Cl (S:aq):Prop where
 ok:S.OK
 mr:∀e∈S.l,∀o,o<S.n->S.mr e o=true
 le:∀e∈S.l,e.seq<=(S.qG e.origin.toNat:Int)
 has:∀(o:Nat) (s:Int),o<S.n->1<=s->s<=(S.qG o:Int)->∃e∈S.l,aZ e=((o:Int),s)
def vu:y.mr l a=true↔l.aM.getD a 0=0\/∃n,y.get ((a:Int),l.aM.getD a 0)=some n/\n.aC<l.aC/\∀P,P<n.aM.length->n.aM.getD P 0<=l.aM.getD P 0:=by
 unfold aq.mr;generalize l.aM.getD a 0=b;dsimp only
 cases c:y.get ((a:Int),b)with
 |none=>simp
 |some n=>simp
def aq.Cl.new(n:a<=64):aq.Cl ⟨a,[]⟩:=⟨aq.t_ n,sM,sM,λb c _ d P=>by simp[aq.qG]at P;omega⟩
def aq.Ur(n:aq.OK ⟨y.n,dE l y.l⟩)(P:y.get d5=some L):aq.get ⟨y.n,dE l y.l⟩ d5=some L:=by
 obtain⟨a,rfl⟩:=aq.get_some P;exact n.get ((cP l y.l).mem_iff.2 (QJ _ a))
def aq.eZ(n:aq)(P:ah):((n.add P).1≠0/\(n.add P).2=n)\/(n.add P=(0,⟨n.n,dE P n.l⟩)/\dm P n.n=0/\n.get (aZ P)=none/\P.seq=n.vec.getD P.origin.toNat 0+1/\∀a,a<n.n->n.mr P a=true):=by
 rw[aq.add_def];split
 ·rename_i b;exact .inl ⟨b,rfl⟩
 rename_i c;split
 ·exact .inl ⟨sM,rfl⟩
 rename_i d;split
 ·exact .inl ⟨sM,rfl⟩
 rename_i e;split
 ·exact .inl ⟨sM,rfl⟩
 rename_i f;refine .inr ⟨rfl,by simpa using c,by simpa using d,by simpa using e,?_⟩;simpa[List.any_eq_false]using f
def aq.Us{S:aq}(P:dm l S.n=0)(a:S.get (aZ l)=none)(b:l.seq=S.vec.getD l.origin.toNat 0+1)(c:∀n,n<S.n->S.mr l n=true):S.add l=(0,⟨S.n,dE l S.l⟩):=by
 rw[aq.add_def,Zq (by simpa using P),Zq (by simp[a]),Zq (by simpa using b),Zq];simpa[List.any_eq_false]using c
def aq.Cl.add{b:aq}(g:b.Cl){a:ah}(q:a.Ok):(b.add a).2.Cl:=by
 have k:=(aq.AT g.ok q).1;rcases b.eZ a with⟨-,f⟩|⟨h,r,y,s,t⟩
 ·rw[f];exact g
 rw[h]at k⊢;simp only at k⊢;obtain⟨z,A,B,-⟩:=jP r;obtain⟨i,l⟩:∃i:Nat,a.origin=i:=⟨a.origin.toNat,oM⟩
 have u:i<b.n:=oM
 rw[l,Qx,b.qU u]at s;have c:∀n,n∈dE a b.l↔n=a\/n∈b.l:=λn=>by rw[(cP a b.l).mem_iff,Q2]
 have d:∀n e,b.mr n e=true->aq.mr ⟨b.n,dE a b.l⟩ n e=true:=λn e P=>by
  rw[vu]at P⊢;rcases P with P|⟨v,h,f⟩
  ·exact .inl P
  ·exact .inr ⟨v,aq.Ur k h,f⟩
 refine⟨k,λn P e j=>?_,λn P=>?_,λe m j h f=>?_⟩
 ·rcases(c n).1 P with rfl|P
  ·exact d _ _ (t e j)
  ·exact d _ _ (g.mr n P e j)
 ·rw[aq.GB]
  rcases(c n).1 P with rfl|P
  ·rw[l,Qx,Zx rfl];omega
  ·have:=g.le n P
   split<;>omega
 ·rw[aq.GB]at f
  by_cases p:a.origin=(e:Int)
  ·rw[Zx p]at f
   have w:i=e:=oM
   subst w
   by_cases x:m=a.seq
   ·exact⟨a,(c a).2 (.inl rfl),by simp[aZ,l,x]⟩
   ·obtain⟨n,P,o⟩:=g.has i m j h oM
    exact⟨n,(c n).2 (.inr P),o⟩
  ·rw[Zq p]at f
   obtain⟨n,P,o⟩:=g.has e m j h oM;exact⟨n,(c n).2 (.inr P),o⟩
def aq.VR(n:aq)(P:ah):(n.add P).2.n=n.n:=by
 rcases n.eZ P with⟨-,a⟩|⟨b,-⟩
 ·rw[a]
 ·rw[b]
def aq.Az(n:aq)(P:ah):(n.add P).2.l.length<=n.l.length+1:=by
 rcases n.eZ P with⟨-,a⟩|⟨b,-⟩
 ·rw[a];omega
 ·rw[b];show(dE P n.l).length<=_;rw[(cP P n.l).length_eq];simp
def aq.nW(n:aq)(P:List ah)(a:ah):n.eG (P++[a])=((n.eG P).add a).2:=by unfold aq.eG;rw[List.foldl_append];rfl
def aq.Bi(n:aq)(P a:List ah):n.eG (P++a)=(n.eG P).eG a:=by unfold aq.eG;rw[List.foldl_append]
def aq.Cl.eG:∀{l:List ah} {S:aq},S.Cl->(∀e∈l,e.Ok)->(S.eG l).Cl
 |[],S,n,_=>n
 |e::l,S,n,P=>aq.Cl.eG (l:=l) (S:=(S.add e).2) (n.add (P e (QV ..))) λa b=>P a (QJ _ b)
def aq.RM:∀(P:List ah) (n:aq),(n.eG P).n=n.n
 |[],n=>rfl
 |e::P,n=>(aq.RM P _).trans (n.VR e)
def aq.nV:∀(P:List ah) (n:aq),(n.eG P).l.length<=n.l.length+P.length
 |[],n=>by simp[aq.eG]
 |e::P,n=>by
  have a:=aq.nV P (n.add e).2;have b:=n.Az e;show((n.add e).2.eG P).l.length<=_;simp only[Xq];omega
def uf{P:ah}:∀{n:List ah},(∀x∈n,eX P x=false)->dE P n=n++[P]
 |[],_=>rfl
 |x::n,a=>by
  unfold dE;rw[Zq (by rw[a x (QV ..)];simp),uf λb c=>a b (QJ _ c)];rfl
def aq.Cl.take{n:aq}(f:n.Cl):∀{k:Nat},k<=n.l.length->(⟨n.n,[]⟩:aq).eG (n.l.take k)=⟨n.n,n.l.take k⟩/\aq.Cl ⟨n.n,n.l.take k⟩
 |0,_=>⟨rfl,by simpa using aq.Cl.new f.ok.n⟩
 |k+1,U=>by
  obtain⟨I,j⟩:=aq.Cl.take f (k:=k) oM;have e:n.l[k]? =some n.l[k]:=Qq oM;have l:n.l[k]∈n.l:=XY oM;generalize n.l[k]=P at e l;have v:n.l=n.l.take k++P::n.l.drop (k+1):=by
   conv=>lhs;rw[<-ZX k n.l]
   congr 1
   rw[X4 oM]
   congr 1
   have:=Qq (l:=n.l) (i:=k) oM;rw[e]at this;exact(XJ this).symm
  have p:=f.ok.RA;have g:=f.ok.ids;rw[v]at p g;have d:∀x∈n.l,eX x P=true->x∈n.l.take k:=λx b m=>by
   rw[v]at b;rcases Q6.1 b with b|b
   ·exact b
   rcases Q2.1 b with rfl|b
   ·rw[kr]at m;omega
   ·have J:=(List.pairwise_append.1 p).2.1
    have q:=(List.pairwise_cons.1 J).1 x b;rw[nX q]at m;cases m
  have a:∀x∈n.l.take k,eX x P=true:=λx b=>(List.pairwise_append.1 p).2.2 x b P (QV ..);have w:aq.get ⟨n.n,n.l.take k⟩ (aZ P)=none:=by
   cases K:aq.get ⟨n.n,n.l.take k⟩ (aZ P)with
   |none=>rfl
   |some x=>
    obtain⟨h,i⟩:=aq.get_some K;rw[Q3,QY,List.nodup_append]at g;exact Zz i (g.2.2 (aZ x) (Xk.2 ⟨x,h,rfl⟩) (aZ P) (QV ..))
  have y:=f.ok.XN P l;obtain⟨V,W,L,X,-,-,Y,-,z,-⟩:=jP y;obtain⟨c,r⟩:∃c:Nat,P.origin=c:=⟨P.origin.toNat,oM⟩
  have s:c<n.n:=oM
  have A:∀o,o<n.n->aq.mr ⟨n.n,n.l.take k⟩ P o=true:=λo M=>by
   have:=f.mr P l o M;rw[vu]at this⊢;rcases this with B|⟨x,t,C,N⟩
   ·exact .inl B
   ·obtain⟨h,i⟩:=aq.get_some t
    refine .inr ⟨x,?_,C,N⟩;rw[<-i];exact j.ok.get (d x h (by rw[kr];exact .inl C))
  have E:=f.ok.ok P l;have Q:P.seq=(aq.vec ⟨n.n,n.l.take k⟩).getD P.origin.toNat 0+1:=by
   rw[r,Qx,aq.qU (S:=⟨n.n,n.l.take k⟩) s];have Z:(aq.qG ⟨n.n,n.l.take k⟩ c:Int)+1<=P.seq:=by
    rcases Int.lt_or_le (aq.qG ⟨n.n,n.l.take k⟩ c:Int) P.seq with m|O
    ·omega
    ·obtain⟨x,R,S⟩:=j.has c P.seq s L O
     have:=aq.get_none w x R;exact Zz (S.trans (by simp[aZ,r])) this
   have O:P.seq<=(aq.qG ⟨n.n,n.l.take k⟩ c:Int)+1:=by
    have T:qm (P.seq-1)=P.seq-1:=by
     have:=E.seq;exact wrap_i64 (by unfold aH at*;omega)
    rw[T,r,Qx]at z;have:=A c s;rw[vu,z]at this;rcases this with B|⟨x,t,-⟩
    ·omega
    ·obtain⟨h,i⟩:=aq.get_some t
     have q:=j.le x h;have F:x.origin=c/\x.seq=P.seq-1:=by
      have:=i;simp only[aZ,Prod.mk.injEq]at this;exact this
     rw[F.1,F.2,Qx]at q;omega
   show P.seq=(aq.qG ⟨n.n,n.l.take k⟩ c:Int)+1;omega
  have H:=aq.Us (S:=⟨n.n,n.l.take k⟩) y w Q A;have a0:dE P (n.l.take k)=n.l.take (k+1):=by
   rw[uf λx e=>nX (a x e),Qw,e];rfl
  rw[show n.l.take (k+1)=n.l.take k++[P] by rw[Qw,e];rfl,aq.nW,I,H];have u:=j.add E;rw[H]at u;rw[show dE P (n.l.take k)=n.l.take k++[P]from uf λx e=>nX (a x e)]at u⊢;exact⟨rfl,u⟩
def aq.Cl.Wz(n:y.Cl):(⟨y.n,[]⟩:aq).eG y.l=y:=by
 have:=(n.take (Q4 _)).1;rw[List.take_length]at this;exact this
def uP:lq:=⟨[(3,[(6,.slice none 0 0),(16,WP 0)])],[],[5,12],[],[(5,⟨[0,1,2,4,0,16,40,64,128,128,511,2047],[4095,4094,4093,4091,4095,4079,4055,4031,3967,3967,3839,3583],[0,0,0,1,0,2,2,0,0,0,0,0]⟩),(12,⟨[0,0,2,4,8,0,32,0,208,257,1023],[2047,2047,2045,2043,2039,2047,2015,2047,1839,2046,1791],[0,0,0,0,1,0,2,0,2,0,0]⟩)]⟩
def uQ(N:PA b (.cells #[.slice v a c] 258) λu=>(rS u (ab_ b 0) λO w c3=>(∃o:Nat->be->Nat->Nat->Int->bc,(∃P,o P none 0 0 0 u)/\∀(P:Nat) (e:be) (f:Nat) (g:Nat) (n:Int) (c4:Nat->Value) (h:World),o P e f g n h->al (decide (n<(w:Int))) ((ix_ O n w λQ R=>(rI h (ad Q (R+Int.toNat n)) λi=>(∀j,bW h j->∃p:ac,(dr d λx S=>(¬p x/\(rP j (ad x S) λT=>PC_ 129 #[.ii i] j (λU q=>∃y,U= .string y/\(aj p j q/\PC_ 198 #[.pointer T,.string y] q (λV k=>∃W z X A,V= .tuple #[.slice W z X,.ii A]/\(aj p q k/\al (A !=0) (rt B ((.tuple #[.slice e f g,.ii 0])) k) ((dr d λY Z=>(rP k (ad Y Z) λa1=>PC_ 204 #[.pointer a1,.ii i] k (λa2 a3=>∃D C E l,a2= .tuple #[.slice D C E,.ii l]/\PR_ (ap_ 36 (.slice e f g) (.slice D C E)) a3 (kS_ λG F H r=>(dr d λa4 a5=>(rS r (ad a4 (a5+2)) λa6 a7 a8=>PA r (.cells #[.ii i] 3) λa9=>PR_ (ap_ 52 (.slice a6 a7 a8) (.slice (some (ab_ r 0)) 1 1)) a9 (kS_ λb0 b1 b2 b3=>(dr d λb4 b5=>PS b3 (ad b4 (b5+2)) (.slice b0 b1 b2) λb6=>(dr d λb7 b8=>PS b6 (ad b7 (b8+3)) (.ii l) λI=>al (decide (l<(z:Int))) ((∀m,bW I m->∃s:ac,(dr d λJ b9=>(¬s J/\(rP m (ad J b9) λc0=>PC_ 129 #[.ii i] m (λc1 t=>∃K,c1= .string K/\(aj s m t/\PC_ 205 #[.pointer c0,.string K,.ii l] t (kI_ λc2 L=>(aj s t L/\rt B ((.tuple #[.slice G F H,.ii c2])) L)) (pZ B))) (pZ B)))))) ((∃M,M<P/\o M G F H (PP .i64 (n+1)) I))))) (pV B)))) (pV B)) (pE B)))))) (pZ B))) (pZ B)))))))) (rt B ((.tuple #[.slice e f g,.ii 0])) h)))):bn 152 #[.pointer d,.agg #[.slice v a c]] b B:=DC uP Tryz.func152 rfl N
end Go.Proofs.YtkpomgifkloklaaGreatDoor
namespace Go.aw
open Go
def ix(n:List Int):List UInt8:=bl ((n.length:Int)::n)
def bT(n:List Int):List UInt8:=cF 2 (ix n)
def lf(n:List UInt8):List Int×iu:=aW (bK 64 ⟨n,0,0⟩).1.toNat (bK 64 ⟨n,0,0⟩).2
def iY(n:List UInt8):Option (List Int):=
 if(bw n).no≠0\/(bw n).n≠n.length\/(bw n).kind≠2 then none else if iv (lf (bw n).body).2≠0 then none else some (lf (bw n).body).1
def FK(n:List UInt8):(∀P∈(lf n).1,aH P)/\(lf n).1.length<=64/\(lf n).2.Fit:=by
 obtain⟨a,e,f,g⟩:=iu.Fit.count (r:=⟨n,0,0⟩) ⟨Qj _,.inl rfl⟩ (m:=64) oM;obtain⟨b,c,d,h⟩:=a.ints (bK 64 ⟨n,0,0⟩).1.toNat;exact⟨c,by show(aW _ _).1.length<=64;rw[d];omega,b⟩
variable{s:List Int}{u:List UInt8}
def Qf(n:iY u=some s):(∀P∈s,aH P)/\s.length<=64:=by
 unfold iY at n;split at n
 ·cases n
 split at n
 ·cases n
 ·cases n
  exact⟨(FK _).1,(FK _).2.1⟩
def yv(a:∀n∈s,aH n)(b:s.length<=64):(ix s).length<=585:=by
 have:=gj (l:=(s.length:Int)::s) (by
  intro n P;rcases Q2.1 P with rfl|P
  ·unfold aH;omega
  ·exact a n P)
 unfold ix;rw[Xq]at this;omega
def se(n:List Int):(bT n).length=(ix n).length+9:=ft _ _
def pf(n:∀a∈s,aH a)(b:s.length<=64):iY (bT s)=some s:=by
 have j:=yv n b;have c:bw (bT s)=⟨2,ix s,(ix s).length+9,0⟩:=by
  have:=FL (k:=2) (body:=ix s) (r:=[]) dC dC oM
  rwa [List.append_nil]at this
 have d:(iu.mk (ix s) 0 0).At (ix s) (ep (s.length:Int)++(bl (s++[])++[])):=⟨rfl,Qj _,rfl,by rw[List.drop_zero];simp[ix,lE]⟩
 obtain⟨e,f⟩:=d.count (m:=64) cS oM oM;obtain⟨g,h⟩:=iu.At.ints s f n;have P:lf (ix s)=aW s.length (bK 64 ⟨ix s,0,0⟩).2:=by unfold lf;rw[e,Qx]
 have i:iv (lf (ix s)).2=0:=by rw[P];exact iu.At.done (by simpa[bl]using h)
 unfold iY;rw[c,Zq (by simp[se])];simp only;rw[Zq (by rw[i];simp),P,g]
end Go.aw
namespace Go.Proofs.YtkpomgifkloklaaGreatDoor
open Go.aw
def Hd(n:Int)(P:bZ):Int:=P.synced+max 0 (min n ((P.bytes.length:Int)-P.synced))
def tv(n:Int)(P:bZ):bZ:=P.cut (Hd n P)
def ak.eA(D:ak)(n:Int):ak:={D with files:=(D.files.filter λP=>P.2.jZ).map (λP=>(P.1,tv n P.2)),jF:=false,dead:=false}
def ak.JA(D:ak)(n:List (ByteArray×bZ)):ak:=⟨D.most,n,D.jF,D.left,D.dead⟩
def ak.iE(D:ak):ak:={D with files:=D.files.filter λn=>n.2.jZ}
def Ee(n:List (ByteArray×bZ))(P:ByteArray×bZ->Bool):fm (n.filter P)<=fm n:=by
 unfold fm
 induction n with
 |nil=>simp
 |cons a n b=>
  rw[List.filter_cons];split
  ·simp;omega
  ·simp;omega
variable{x:ByteArray}{e:Int}{g0:List ByteArray}{b2 s:List Int}{E e1:List ah}{a c i p:Nat}{a0 f:ac}{d v:be}{j:Type}{b:World}{L l:ah}
def rz{n:List (ByteArray×j)}(P:Tidy n)(a:ByteArray×j->Bool):Tidy (n.filter a):=List.Nodup.sublist (List.Sublist.map _ List.filter_sublist) P
def ak.Ok.iE{D:ak}(n:D.Ok):D.iE.Ok:=by
 have c:=Ee D.files λP=>P.2.jZ;have b:=n.fits;have d:=List.length_filter_le (λP:ByteArray×bZ=>P.2.jZ) D.files;have e:=n.many;unfold ak.used at b;exact⟨n.most,by show fm (D.files.filter _)<=D.most;omega,by show(D.files.filter _).length<=64;omega,rz n.tidy _,λP a=>n.names P (List.mem_filter.1 a).1,λP a=>n.Ud P (List.mem_filter.1 a).1,n.BT,n.BU⟩
def Sq{P:List (ByteArray×j)}(b:Tidy P){k e:ByteArray×j->j}{u l:j}(f:(x,u)∈P)(g:∀a∈P,a.1≠x->e a=k a)(p:e (x,u)=l):
  aJ (P.map λn=>(n.1,k n)) x l=P.map λn=>(n.1,e n):=by
 induction P with
 |nil=>cases f
 |cons q P m=>
  obtain⟨n,a⟩:=q;unfold Tidy at b m;simp only[QY,List.nodup_cons]at b;simp only[QY];unfold aJ
  by_cases h:(x==n)=true
  ·have r:x=n:=eq_of_beq h
   subst r;have s:a=u:=by
    rcases Q2.1 f with h|h
    ·cases h;rfl
    ·exact Zz (Xk.2 ⟨_,h,rfl⟩) b.1
   subst s;rw[Zx h,p]
   congr 1
   refine List.map_congr_left λc d=>?_;rw[g c (QJ _ d) λi=>b.1 (Xk.2 ⟨c,d,i⟩)]
  ·have o:n≠x:=λi=>h (by rw[i];simp)
   rw[Zq h,g (n,a) (QV ..) o]
   congr 1
   refine m b.2 ?_ λc d=>g c (QJ _ d);rcases Q2.1 f with H|H
   ·cases H;exact Zz rfl o
   ·exact H
def tw(n:Int)(left:List (ByteArray×oF))(P:ByteArray×bZ):bZ:=if left.any (λa=>a.1==P.1)then P.2 else tv n P.2
def Mq{D:ak}(h:aV b a f D)(e5:aH e):
  bn 76 #[RK a,WP e] b (Ok λS t=>∃q,S= .tuple #[]/\aV t a q (D.eA e)/\cd f b q t):=by
 obtain⟨u,x,j⟩:=h.open;have e6:x.filter (λn=>n.2.f.jZ)=x.filter (λn=>n.2.f.jZ):=rfl;refine uz ⟨a,0,rfl,some u,ae j.head rfl,PC.ok (Ap j.map j.each λn k P i=>(j.Jv n k P i).2.2) ?_⟩;rintro _ v ⟨rfl,c1,B⟩;have c2:∀P,P=u->f P:=λP m=>m▸j.Fr;have r:fK v a f D.iE u (x.filter λn=>n.2.f.jZ):=by
  have C:∀n∈x.filter (λn=>n.2.f.jZ),n∈x:=λn k=>(List.mem_filter.1 k).1;refine⟨B.get j.head (λm=>j.pr m),c1,?_,⟨λn k=>(j.each.each n (C n k)).keep B λP i=>(j.Jv n (C n k) P i).2.2,λn k c o=>j.each.apart n (C n k) c (C c o),rz j.each.tidy _⟩,λn k=>j.Jv n (C n k),j.Fr,j.pr,j.self,λP i=>Qk (j.aE P i) B.size,j.ok.iE⟩;show D.files.filter _=_;rw[j.files,List.filter_map]
  rfl
 generalize e7:x.filter (λn=>n.2.f.jZ)=p at r;have c3:∀n∈p,∀P,n.2.G P->P<v.heap.size:=λn k P i=>(r.each.each n k).aE P i;refine⟨rfl,a,0,rfl,some u,ae r.head rfl,mapRange mF r.map λw2 hR T s2=>?_⟩;have c4:Tidy D.iE.files:=r.ok.tidy;have c5:∀c∈p,wj c∈D.iE.files:=λc o=>by rw[r.files];exact Xk.2 ⟨c,o,rfl⟩
 have a5:cd f b f w2:=⟨((B.mono λP _ i=>c2 P i)).af T,λ_ h=>.inl h⟩
 refine⟨λU t=>∃(left s:List (ByteArray×oF)) (q:ac),cW t v.heap.size u Value.string (p.map eK) (left.map eK)/\U=left.length/\fK t a q (D.iE.JA (D.iE.files.map λg=>(g.1,tw e left g))) u s/\s.map eK=p.map eK/\
   cd f b q t/\(∀n∈left,n∈p/\au s n.1=some n.2)/\Tidy left/\v.heap.size<t.heap.size/\¬q v.heap.size,
  ⟨_,p,p,f,hR,rfl,?_,rfl,a5,λn k=>⟨k,rC r.each.tidy k⟩,r.each.tidy,oM,λi=>by have:=r.aE _ i;omega⟩,?_⟩
 ·have m:(D.iE.files.map λn=>(n.1,tw e p n))=D.iE.files:=by
   have:∀n∈D.iE.files,(n.1,tw e p n)=n:=λn k=>by
    rw[r.files]at k;obtain⟨c,o,rfl⟩:=Xk.1 k;have:p.any (λg=>g.1==(wj c).1)=true:=List.any_eq_true.2 ⟨c,o,by simp[wj]⟩;unfold tw;rw[Zx this]
   have I:=List.map_congr_left (f:=λn=>(n.1,tw e p n)) (g:=id) this;rw[I,List.map_id]
  rw[m];exact r.af T
 ·rintro U a1 w3 ⟨left,s,q,c6,rfl,V,a7,J,W,y,e2,X⟩
  refine oG c6 (λK=>.inl ⟨rfl,?_⟩) λd S l1 l2 Y c7 c8 c9 Z s4=>.inr ⟨_,_,rfl,rE c9 ?_⟩
  ·have d0:left=[]:=by simpa using K
   subst d0;refine⟨a,0,rfl,V.at.Ju λw5 h5 k5 s5=>⟨a,0,rfl,h5.AE λw6 h6 k6 s6=>Ok.mk ⟨q,rfl,?_,J.trans ⟨k5.then k6,λ_ h=>.inl h⟩⟩⟩⟩;have m:(D.iE.files.map λn=>(n.1,tw e [] n))=(D.files.filter λn=>n.2.jZ).map (λn=>(n.1,tv e n.2)):=List.map_congr_left λn _=>by simp[tw]
   rw[m]at h6;exact h6
  ·obtain⟨l,n,P,rfl,rfl,rfl,rfl⟩:=yj c7
   obtain⟨a8,E⟩:=W (d,n) sM;have E:au s d=some n:=E;have a9:∀P,P=v.heap.size->¬q P:=λP m=>m▸X;have w:=V.keep Z λP i m=>a9 P m i;have L:=w.get E;have M:=cA E;have d1:eQ Y n.q n.G n.f:=w.each.each _ M;have d2:∀P,n.G P->P<v.heap.size:=c3 _ a8;have b0:∀P,n.G P->q P/\P≠a/\P≠u:=w.Jv _ M;have b1:n.f.bytes.length<=262144:=w.ok.len (cA L);have e3:n.f.synced<=n.f.bytes.length:=w.ok.Ud _ (cA L);have e8:n.f=(wj (d,n)).2:=rfl;refine⟨_,_,rfl,λw5 z=>?_⟩;have b2:=d1.keep (z.keep (S:=λ_=>False)) λ_ _ h=>h;have b3:=w.af z.keep;obtain⟨fa,A,fc,F0,F,I,h3,h4⟩:=b2.body;have b4:A=n.f.bytes.length:=I.len dC;have H:(if(if(PP .i64 (((A:Nat):Int)-(n.f.synced:Int)))<e then(PP .i64 (((A:Nat):Int)-(n.f.synced:Int)))else e)>0 then(if(PP .i64 (((A:Nat):Int)-(n.f.synced:Int)))<e then(PP .i64 (((A:Nat):Int)-(n.f.synced:Int)))else e)else 0)=max 0 (min e ((n.f.bytes.length:Int)-n.f.synced)):=by
    rw[wrap_i64 cS,b4];omega
   refine⟨n.q,0,rfl,_,ae F rfl,n.q,0,rfl,fa,A,fc,ae F rfl,n.q,0,rfl,_,ae F rfl,?_⟩;refine PC.ok (by rw[H,wrap_i64 (by unfold aH at*;omega)];exact BX b2 b1) ?_;rintro _ w6 ⟨N,rfl,O,Q⟩
   replace O:eQ w6 n.q N (tv e n.f):=O
   have d3:((D.iE.JA (D.iE.files.map λg=>(g.1,tw e (l++(d,n)::P) g))).fP d (tv e n.f)).Ok:=b3.ok.cut L _;obtain⟨F6,b5,a0⟩:=b3.fv E O Q d3;have d4:=c8.keep (z.keep (S:=λ_=>False)) id id;have d5:=d4.keep Q.keep (λi=>by have:=d2 _ i;omega) (λi=>(b0 _ i).2.2 rfl);have b6:d∉(l++P).map (·.1):=by
    unfold Tidy at y;rw[Q3,QY]at y;rw[Q3];intro b7;have hp:=(List.perm_middle (a:=d) (l₁:=l.map (·.1)) (l₂:=P.map (·.1))).nodup_iff.1 y;exact(List.nodup_cons.1 hp).1 b7
   have b8:Tidy (l++P):=by
    unfold Tidy at y⊢;rw[Q3,QY]at y;rw[Q3];exact(List.nodup_cons.1 ((List.perm_middle (a:=d) (l₁:=l.map (·.1)) (l₂:=P.map (·.1))).nodup_iff.1 y)).2
   have b9:(l++P).any (λc=>c.1==d)=false:=by
    rw[List.any_eq_false];intro c o K;exact b6 (Xk.2 ⟨c,o,eq_of_beq K⟩)
   have fY:aJ (D.iE.files.map λg=>(g.1,tw e (l++(d,n)::P) g)) d (tv e n.f)=D.iE.files.map λg=>(g.1,tw e (l++P) g):=by
    refine Sq (u:=n.f) c4 (c5 _ a8) (λc o R=>?_) ?_
    ·have d6:(d==c.1)=false:=beq_false_of_ne (Ne.symm R)
     have m:(l++(d,n)::P).any (λg=>g.1==c.1)=(l++P).any (λg=>g.1==c.1):=by
      rw[List.any_append,List.any_cons,List.any_append,d6,Bool.false_or]
     show tw e (l++P) c=tw e (l++(d,n)::P) c;unfold tw;rw[m]
    ·unfold tw
     rw[Zq (by show¬((l++P).any (λc=>c.1==d)=true);rw[b9];simp)]
   have d7:(D.iE.JA (D.iE.files.map λg=>(g.1,tw e (l++(d,n)::P) g))).fP d (tv e n.f)=D.iE.JA (D.iE.files.map λg=>(g.1,tw e (l++P) g)):=by
    unfold ak.fP ak.JA;simp only[fY]
   rw[d7]at b5;have a4:(aJ s d (⟨n.q,N,tv e n.f⟩:oF)).map eK=p.map eK:=by
    have F:(aJ s d (⟨n.q,N,tv e n.f⟩:oF)).map eK=aJ (s.map eK) d (ptr n.q):=rA (λn:oF=>ptr n.q) s d _;rw[F,rD (k:=d) (v:=ptr n.q) (l:=s.map eK) (Xk.2 ⟨(d,n),M,rfl⟩) w.map.tidy,a7]
   refine⟨rfl,_,?_,l++P,_,F6,by rw[Q3];exact d5,rfl,b5,a4,?_,λc o=>?_,b8,?_,?_⟩
   ·simp
   ·have e4:=B.size
    have d8:cd f b q Y:=⟨J.keep.new Z λP i=>.inr oM,J.new⟩
    exact(d8.trans ⟨z.keep,λ_ h=>.inl h⟩).trans a0
   ·have d9:c∈l++(d,n)::P:=by simp only[Q6,Q2]at o⊢;exact o.imp id .inr
    obtain⟨e0,e1⟩:=W c d9;have R:c.1≠d:=λm=>b6 (Xk.2 ⟨c,o,m⟩);refine⟨e0,?_⟩;rw[bE,Zq (by simpa using R)];exact e1
   ·have:=Q.keep.size;have:=(z.keep (S:=λ_=>False)).size;omega
   ·intro i
    rcases a0.new _ i with h|h
    ·exact X h
    ·have:=(z.keep (S:=λ_=>False)).size;omega
def aQ:ByteArray:=⟨#[109,97,110,105,102,101,115,116,46,116,109,112]⟩
def cj:ByteArray:=⟨#[109,97,110,105,102,101,115,116]⟩
def eE(D:ak):Int×ak:=if(au D.files aQ).isSome then D.delete aQ else(0,D)
def qb(n:List Int):Nat->ak->Int×ak
 |0,D=>eE D
 |1,D=>D.create aQ
 |2,D=>D.append aQ (bT n)
 |3,D=>D.sync aQ
 |_,D=>D.rename aQ cj
def pD(n:List Int):Nat->Nat->ak->Int×ak
 |_,0,D=>(0,D)
 |P,a+1,D=>if(qb n P D).1≠0 then((qb n P D).1,(eE (qb n P D).2).2)else pD n (P+1) a (qb n P D).2
def bD(D:ak)(n:List Int):Int×ak:=if 64<n.length then(3,D)else pD n 0 5 D
def dI(D:ak):Option (List Int):=if(D.read cj).2≠0 then none else iY (D.read cj).1
def Ke(n:List ByteArray):(tI n).Perm n:=List.mergeSort_perm _ _
def FI{D:ak}:x∈D.list↔(au D.files x).isSome=true:=by
 unfold ak.list;rw[(Ke _).mem_iff];constructor
 ·intro n
  cases P:au D.files x with
  |none=>exact Zz n (jS.1 P)
  |some a=>rfl
 ·intro n
  obtain⟨a,b⟩:=Option.isSome_iff_exists.1 n;exact Xk.2 ⟨_,cA b,rfl⟩
def o_(D:ak):D.list.length=D.files.length:=by unfold ak.list tI;simp
def Qe(n:List Int)(c:a<5)(D:ak):pD n a (5-a) D=if(qb n a D).1≠0 then((qb n a D).1,(eE (qb n a D).2).2)else pD n (a+1) (5-(a+1)) (qb n a D).2:=by
 obtain⟨P,b⟩:∃P,5-a=P+1:=⟨4-a,oM⟩
 rw[b,show 5-(a+1)=P by omega]
 rfl
def HG{D:ac}(P:Row Px 16 b D d a g0):
  bn 318 #[.slice d a c,.string x] b (Ok λo e=>(∃k:Int,o= WP k/\(0<=k↔x∈g0))/\b=e):=by
 have u:=P.len;have p:=P.eO;unfold aP at p;refine kW ⟨λl i e=>∃n:Nat,i=n/\n<=a/\l=a-n/\x∉g0.take n/\b=e,⟨_,0,rfl,Qj _,rfl,sM,rfl⟩,?_⟩;rintro l i _ _ ⟨n,rfl,v,rfl,f,rfl⟩;refine al.dec (λq=>?_) (λq=>?_)
 ·obtain⟨r,g,w,rfl,m,_,s⟩:=P.nK (i:=n) oM
  refine⟨r,g,rfl,oM,oM,_,s,al.ZC (λj=>?_) (λj=>?_)⟩
  ·exact Ok.mk ⟨⟨_,rfl,λ_=>j▸QZ m,λ_=>oM⟩,rfl⟩
  ·refine⟨_,oM,n+1,an oM,oM,rfl,?_,rfl⟩
   rw[Qw,m];intro t;rcases Q6.1 t with h|h
   ·exact f h
   ·simp at h;exact j h
 ·rw[Qz oM]at f
  exact Ok.mk ⟨⟨_,rfl,λh=>oM,λh=>Zz h f⟩,rfl⟩
def Au{D:ac}(n:Row Px 16 b D d a g0):
  bn 272 #[.slice d a c,.string x] b (Ok λP e=>P= .bool (decide (x∈g0))/\b=e):=by
 refine jw (PC.ok (HG n) ?_);rintro _ _ ⟨⟨g,rfl,f⟩,rfl⟩;exact⟨_,rfl,Ok.mk ⟨by rw[decide_eq_decide.2 f],rfl⟩⟩
def sd{D:ak}(n:aV b a f D):bn 208 #[RK a] b (Ok (wm b a f (eE D))):=by
 refine xV (PC.ok (yl n) ?_);rintro _ l ⟨m,o,p,G,rfl,g,P,q⟩;have r:D.list.length<=64:=by rw[o_];exact n.ok.many
 refine⟨_,_,_,rfl,PC.ok (Au (g.row dC cw)) ?_⟩;rintro _ _ ⟨rfl,rfl⟩;have e:(aQ∈D.list)↔(au D.files aQ).isSome=true:=FI;refine⟨_,rfl,al.dec (λc=>PC.ok (yP (n.af P)) λh i j=>mQ h i P ?_) (λc=>?_)⟩
 ·have d:eE D=D.delete aQ:=by unfold eE;rw[Zx (e.1 c)]
  rw[d];exact j
 ·have d:eE D=(0,D):=by unfold eE;rw[Zq λk=>c (e.2 k)]
  rw[d];exact Ok.mk (wm.same (n.af P) P.keep)
def CK(C:qX b)(u:Row aO 8 b f d a s)(v:∀h∈s,aH h)(hD:∀P,f P->P<b.heap.size)(E:s.length<=64):
  bn 212 #[.agg #[.slice d a c]] b (Ok (qh gC 5 b (bT s))):=by
 have F:=u.len;refine xW (PA.mk λH I s1 w=>⟨_,_,_,ae w rfl,PC.ok (BY (m:=(a:Int)) cS (Row.nil H λ_=>False) cw λ_ J=>J.elim) ?_⟩);rintro _ L ⟨a2,n2,c2,M,rfl,x,y,N⟩;have O:ai b L:=I.then y;have Q:ep (a:Int)=bl ((a:Int)::s.take 0):=by simp[bl]
 rw[List.nil_append,Q]at x;refine⟨_,_,_,rfl,_,_,_,ae (y.get w id) rfl,λz l m o i A=>∃n:Nat,i=n/\n<=a/\z=a-n/\∃B,aS gC 5 B A l m o (bl ((a:Int)::s.take n))/\ai b A/\∀P,B P->b.heap.size<=P,
  ⟨_,0,rfl,Qj _,rfl,M,x,O,λP j=>by have:=N P j;omega⟩,?_⟩
 rintro z l m o i _ R ⟨n,rfl,hj,rfl,S,e,g,a0⟩;have a1:(bl ((a:Int)::s.take n)).length<=9*(n+1):=by
  have h1:=gj (l:=(a:Int)::s.take n) (by
   intro h K;rcases Q2.1 K with rfl|K
   ·unfold aH;omega
   ·exact v h (List.mem_of_mem_take K))
  have h2:((a:Int)::s.take n).length=n+1:=by simp;omega
  omega
 have a3:=e.len dC;refine al.dec (λa5=>?_) (λa6=>?_)
 ·obtain⟨P,p,h,rfl,K,T,U⟩:=(u.af g).nK (i:=n) oM
  refine⟨P,p,rfl,oM,oM,_,U,PC.ok (BY T (e.row (bytes:=1) dC cw) cw e.aE) ?_⟩;rintro _ V ⟨W,X,Y,q,rfl,k,r,t⟩;refine⟨_,_,_,rfl,_,?_,n+1,an oM,oM,rfl,q,?_,g.then r,λP j=>by have:=t P j;have:=g.size;omega⟩
  ·omega
  ·have Z:bl ((a:Int)::s.take (n+1))=bl ((a:Int)::s.take n)++ep h:=by
    rw[Qw,K,<-List.cons_append,je]
    congr 1
    simp[bl]
   rw[Z];exact k
 ·obtain rfl:n=a:=oM
  rw[Qz oM,F]at e
  change aS gC 5 S R l m o (ix s)at e
  have a7:=yv v E;refine PC.ok (Fh (C.af g) (e.row (bytes:=1) dC cw) e.aE) ?_;rintro _ V ⟨_,rfl,W,X,Y,q,rfl,k,r,t⟩;rw[show lr 2 (ix s)=(bT s,0) by unfold lr bT;rw[Zq dC,Zq oM]]at k⊢;exact⟨_,_,_,_,rfl,Ok.mk ⟨_,_,_,q,rfl,k,g.then r,λP j=>by have:=t P j;have:=g.size;omega⟩⟩
def CL{D:ak}(ht:qX b)(hD:aV b a f D)(hl:Row aO 8 b a0 d c s)(a8:∀b8∈s,aH b8)(a3:∀n,a0 n->n<b.heap.size/\¬f n)(a9:∀n,f n->n≠2/\n≠3):
  bn 154 #[RK a,.agg #[.slice d c i]] b (Ok (wm b a f (bD D s))):=by
 have hn:=hl.len;refine xF (PA.mk λw1 k1 s1 g1=>PA.mk λj U s2 g2=>PA.mk λw3 H s3 g3=>⟨_,_,_,ae (H.get g2 id) rfl,al.dec (λh=>?_) (λh=>?_)⟩)
 ·refine PS.mk g3 sM λp B s4 g4=>⟨_,ae g4 rfl,?_⟩
  have k:bD D s=(3,D):=by unfold bD;rw[Zx oM]
  rw[k];have y:ai b p:=((k1.then U).then H).new B λn P=>.inr oM;exact Ok.mk (wm.same (hD.af y) y.keep)
 refine PA.mk λp B s4 g4=>?_;have y:ai b p:=((k1.then U).then H).then B;have k:bD D s=pD s 0 5 D:=by unfold bD;rw[Zq oM]
 rw[k];have I:=hD.aE;refine⟨λa2 M l=>∃(u:Nat) (J:ak) (v:ac),M=u/\u<=5/\a2=5-u/\pD s 0 5 D=pD s u (5-u) J/\aV l a v J/\aj (λn=>f n\/n=j.heap.size) p l/\(∀n,v n->f n\/p.heap.size<=n)/\l.heap[j.heap.size]? =some (.cells #[WP 0] 37 (0,0)),
  ⟨_,0,D,f,rfl,oM,rfl,rfl,hD.af y,aj.refl _,λn P=>.inl P,B.get g3 id⟩,?_⟩
 rintro a2 M _ x ⟨u,J,v,rfl,hi,rfl,N,C,E,V,ge⟩;have W:∀n,b.heap.size<=n->n<p.heap.size->¬v n:=λn h1 h2 hf=>by
  rcases V n hf with h|h
  ·have:=I n h;omega
  ·omega
 have O:x.heap[b.heap.size]? =some (.cells #[RK a] 110 (0,0)):=E.get (B.get (H.get (U.get g1 id) id) id) (λq=>q.elim (λh=>by have:=I _ h;omega) (λh=>oM));have gm:x.heap[w1.heap.size]? =some (.cells #[.slice d c i] 258 (0,0)):=E.get (B.get (H.get g2 id) id) (λq=>q.elim (λh=>by have:=I _ h;omega) (λh=>oM));have Q:=E.get g4 (λq=>q.elim (λh=>by have:=I _ h;omega) (λh=>oM));have c6:=E.size;have w:∀(k:Int) (R:ak) (G:ac) (g:World),aV g a G R->aj (λn=>f n\/n=j.heap.size) p g->(∀n,G n->f n\/p.heap.size<=n)->g.heap[j.heap.size]? =some (.cells #[WP k] 37 (0,0))->
   pD s 0 5 D=(k,if k≠0 then(eE R).2 else R)->
   Lv LL (λb0=>∃A:Int,b0.cell? ⟨j.heap.size,0,none⟩=some (WP A)/\Ok (wm b a f (pD s 0 5 D)) (.returned (WP A)) b0) (λch l=>Ok (wm b a f (pD s 0 5 D)) (.panicked ch) l)
    ([{target:=.fn (.func 207) #[RK j.heap.size,RK b.heap.size],args:= #[]}]:List Deferred) .returning g:=by
  intro k R G g hE r hG X hr;have b9:g.heap[b.heap.size]? =some (.cells #[RK a] 110 (0,0)):=r.get (B.get (H.get (U.get g1 id) id) id) (λq=>q.elim (λh=>by have:=I _ h;omega) (λh=>oM));have m:∀o (K:ac) (E':ak),aV o a K E'->cd G g K o->pD s 0 5 D=(k,E')->∃A:Int,o.cell? ⟨j.heap.size,0,none⟩=some (WP A)/\Ok (wm b a f (pD s 0 5 D)) (.returned (WP A)) o:=by
   intro o K E' a4 t a1;have c0:¬G j.heap.size:=λh=>(hG _ h).elim (λh=>by have:=I _ h;omega) (λh=>oM);have c7:=r.size;refine⟨k,ae (t.keep.get X c0) rfl,Ok.mk ?_⟩;rw[a1];refine⟨K,rfl,a4,?_,λn P=>?_⟩
   ·have c1:aj f b g:=y.keep.new r λn P=>P.imp id λh=>by omega
    exact c1.new t.keep λn P=>(hG n P).imp id λh=>by omega
   ·rcases t.new n P with h|h
    ·exact(hG n h).imp id λh=>by omega
    ·exact .inr oM
  refine Lv.one sM kR (CallsD.mono (sT (R:=λe' o=>e'= .returned (.tuple #[])/\∃A:Int,o.cell? ⟨j.heap.size,0,none⟩=some (WP A)/\Ok (wm b a f (pD s 0 5 D)) (.returned (WP A)) o) ⟨_,ae X rfl,al.eu (λY=>?_) (λZ=>?_)⟩) ?_)
  ·refine⟨_,ae b9 rfl,PC.ok (sd hE) ?_⟩
   rintro _ o ⟨K,rfl,a4,t⟩;exact⟨_,rfl,rfl,m o K _ a4 t (by rw[hr,Zx Y])⟩
  ·exact⟨rfl,m g G R hE (cd.refl _ _) (by rw[hr,Zq (by simpa using Z)])⟩
  ·rintro e' u' o ⟨rfl,rfl,hX⟩
   exact Lv.ret rfl hX
 refine al.dec (λc8=>?_) (λc9=>?_)
 ·have b1:u<5:=oM
  have step:∀κ ε,(∀z l,wm x a v (qb s u J) z l->κ z l)->∃b2:Value,x.cell? ⟨w3.heap.size,0+Int.toNat (u:Int),none⟩=some b2/\∃a5 a7 b3,b2= .func (.func a5) a7 b3/\enters LL a5=true/\PC LL a5 (a7++ #[]++b3) x κ ε:=by
   intro κ ε e;rw[Qx,Xz];have m:∀{b4:Int×ak} {z l},wm x a v b4 z l->∃M:Int,z= WP M/\Ok (wm x a v b4) (.returned (WP M)) l:=λh=>mQ _ _ (aj.refl _) h
   match u,b1,e with
   |0,_,e=>exact⟨_,ae Q rfl,_,_,_,rfl,kR,PC.ok (uE ⟨_,ae O rfl,PC.ok (sd C) λz l h=>m h⟩) e⟩
   |1,_,e=>exact⟨_,ae Q rfl,_,_,_,rfl,kR,PC.ok (uG ⟨_,ae O rfl,PC.ok (yQ C) λz l h=>m h⟩) e⟩
   |2,_,e=>
    refine⟨_,ae Q rfl,_,_,_,rfl,kR,PC.ok (φ:=wm x a v (qb s 2 J)) (uH λg d6=>?_) e⟩;have r:ai x g:=d6.keep;have F:aj (λn=>f n\/n=j.heap.size) p g:=E.then r.keep;have c2:Row aO 8 g a0 d c s:=(hl.af y).keep F λn P q=>q.elim (a3 n P).2 λh=>by have:=(a3 n P).1;omega
    have c3:qX g:=by
     have:=(ht.af y)
     have d0:b.heap.size<=p.heap.size:=y.size;have h1:=ht.lt;have hz:=F.size;refine⟨λS hj=>?_,λS hj=>?_,oM⟩
     ·exact(this.lower S hj)▸F.cell (a:=⟨2,S,none⟩) (by show 2<_;omega) (λq=>q.elim (λh=>(a9 _ h).1 rfl) (λh=>by have h:2=j.heap.size:=h;omega))
     ·exact(this.upper S hj)▸F.cell (a:=⟨3,S,none⟩) (by show 3<_;omega) (λq=>q.elim (λh=>(a9 _ h).2 rfl) (λh=>by have h:3=j.heap.size:=h;omega))
    refine⟨v,W _ (Q4 _) oM,_,ae (r.get O id) rfl,_,_,_,ae (r.get gm id) rfl,PC.ok (CK c3 c2 a8 (λn P=>by have:=(a3 n P).1;have:=y.size;have:=F.size;omega) oM) ?_⟩;rintro _ o ⟨d1,n7,d2,F7,rfl,a6,L,c4⟩;have d3:=se s;have d4:=yv a8 oM;refine⟨_,_,_,rfl,L.keep,PC.ok (yR ((C.af r).af L) (a6.row dC cw) (λk=>a6.Pq k) λn P=>⟨a6.aE n P,λhf=>by have:=C.aE n hf;have:=c4 n P;have:=r.size;omega⟩) ?_⟩;rintro _ w8 ⟨F8,rfl,c5,t⟩;exact⟨_,rfl,t.keep,Ok.mk ⟨F8,rfl,c5,(cd.mk (ai.keep (r.then L)) λ_ h=>.inl h:cd v x v o).trans t⟩⟩
   |3,_,e=>exact⟨_,ae Q rfl,_,_,_,rfl,kR,PC.ok (uI ⟨_,ae O rfl,PC.ok (EZ C) λz l h=>m h⟩) e⟩
   |4,_,e=>exact⟨_,ae Q rfl,_,_,_,rfl,kR,PC.ok (uJ ⟨_,ae O rfl,PC.ok (Jy C) λz l h=>m h⟩) e⟩
  refine⟨_,_,rfl,oM,oM,step _ _ ?_⟩;rintro _ g ⟨F6,rfl,h6,t⟩;have b5:∀n,F6 n->n≠j.heap.size:=λn P k=>by
   subst k;rcases t.new _ P with h|h
   ·exact W _ oM oM h
   ·omega
  have b6:∀n,F6 n->f n\/p.heap.size<=n:=λn P=>by
   rcases t.new n P with h|h
   ·exact V n h
   ·exact .inr oM
  have F:aj (λn=>f n\/n=j.heap.size) p g:=E.new t.keep λn P=>(V n P).imp .inl id;refine⟨_,rfl,PS.mk (t.keep.get ge (W _ oM oM)) sM λo L s7 T=>?_⟩;have h7:=h6.keep L λn P=>b5 n P;have b7:aj (λn=>f n\/n=j.heap.size) p o:=F.then (L.mono λn _ P=>.inr P);rw[Qe s b1]at N;refine⟨_,ae T rfl,al.eu (λY=>?_) (λZ=>?_)⟩
  ·refine⟨_,ae T rfl,PS.mk T sM λw8 k8 s8 g8=>?_⟩
   exact w _ _ F6 w8 (h7.keep k8 λn P=>b5 n P) (b7.then (k8.mono λn _ P=>.inr P)) b6 g8 (by rw[N,Zx Y,Zx Y])
  ·rw[Zq (by simpa using Z)]at N
   rw[Z]at T;exact⟨rfl,_,oM,u+1,_,F6,an oM,oM,rfl,N,h7,b7,b6,T⟩
 ·obtain rfl:u=5:=oM
  refine⟨_,ae ge rfl,PS.mk ge sM λg r s6 X=>?_⟩;refine w 0 J v g (C.keep r λn P k=>W n oM oM P) (E.then (r.mono λn _ P=>.inr P)) V X ?_;rw[N];rfl
def Eo{D:ak}(ht:qX b)(hD:aV b a f D):
  bn 151 #[RK a] b (Ok λQ g=>∃l o p G,Q= .tuple #[.agg #[.slice l o p],.bool (dI D).isSome]/\aS aO 3 G g l o p ((dI D).getD [])/\ai b g/\∀n,G n->b.heap.size<=n):=by
 refine zW (PA.mk λA C s1 g1=>PC.ok (yk (hD.af C)) ?_);rintro _ w2 ⟨_,rfl,a7,n2,c2,F2,rfl,u,R,e8⟩
 change aS gC 5 F2 w2 a7 n2 c2 (D.read cj).1 at u
 have b3:(D.read cj).1.length<=262144:=by
  unfold ak.read;split
  ·simp
  ·split
   ·simp
   ·rename_i e7 hf;exact hD.ok.len (cA hf)
 have a3:∀{g},ai A g->g.heap[b.heap.size]? =some (.cells #[.slice none 0 0] 258 (0,0)):=λhk=>hk.get g1 id;have d:dI D=none->∀v,ai A v->PS v ⟨b.heap.size,0,none⟩ (.slice none 0 0) λw=>∃(b4:be) (b5:Nat) (b6:Nat),w.cell? ⟨b.heap.size,0,none⟩=some (.slice b4 b5 b6)/\
   Ok (λQ g=>∃l o p G,Q= .tuple #[.agg #[.slice l o p],.bool (dI D).isSome]/\aS aO 3 G g l o p ((dI D).getD [])/\ai b g/\∀n,G n->b.heap.size<=n) (.returned (.tuple #[.agg #[.slice b4 b5 b6],.bool false])) w:=by
  intro S v E;refine PS.mk (a3 E) sM λw4 T s4 U=>⟨_,_,_,ae U rfl,?_⟩
  rw[S];exact Ok.mk ⟨none,0,0,λ_=>False,rfl,aS.nil w4,(C.then E).new T λn P=>.inr oM,λ_ h=>h.elim⟩
 refine⟨_,_,_,_,rfl,al.eu (λk=>d (by unfold dI;exact Zx k) w2 R) (λS=>?_)⟩;have B:dI D=iY (D.read cj).1:=by unfold dI;exact Zq λh=>h S
 generalize(D.read cj).1=F at u b3 B;have d6:=u.len dC;refine PC.ok (Fj (ht.af (C.then R)) (u.row (bytes:=1) dC cw) u.lL u.aE) ?_;rintro _ v ⟨c0,n3,c3,F3,rfl,b7,E,e9⟩;refine⟨_,_,_,_,_,_,rfl,PA.mk λw4 T s4 U=>PS.mk U sM λw5 k5 s5 g5=>PS.mk g5 sM λx k6 s6 g6=>?_⟩;have V:x.heap[v.heap.size]? =some (.cells #[WP (bw F).kind,.slice c0 n3 c3] 318 (0,0)):=g6;have W:ai v x:=(T.new k5 λn P=>.inr oM).new k6 λn P=>.inr oM;have s:ai A x:=(R.then E).then W;have g0:=W.size;refine al.eu (λk=>d (by rw[B];unfold iY;exact Zx (.inl k)) x s) (λb8=>?_);refine al.eu (λk=>d (by rw[B];unfold iY;exact Zx (.inr (.inl λe=>k (by rw[e,d6])))) x s) (λg2=>?_);refine⟨_,ae V rfl,al.eu (λk=>d (by rw[B];unfold iY;exact Zx (.inr (.inr k))) x s) (λd7=>?_)⟩;have X:dI D=if iv (lf (bw F).body).2≠0 then none else some (lf (bw F).body).1:=by
  rw[B];unfold iY;refine Zq ?_;rintro(h|h|h)
  ·exact h b8
  ·exact h oM
  ·exact h d7
 have Y:=b7.af W;obtain⟨g3,h9,d8⟩:=wA b8;generalize(bw F).body=c at Y X d8 V b7;refine⟨_,_,_,ae V rfl,PC.ok (Fc (Y.row (bytes:=1) dC cw) Y.aE) ?_⟩;rintro _ w ⟨H,a4,rfl,I,k7,hP⟩;refine⟨_,rfl,PA.mk λw8 k8 s8 g8=>PC.ok (JB (m:=64) (I.af k8)) ?_⟩;rintro _ t ⟨rfl,Z,k9⟩;have b9:=I.aE;have hq:=I.self;have g7:=b9 H hq;have h2:=hP H hq;obtain⟨c1,a8,c5,c4⟩:=iu.Fit.count (r:=⟨c,0,0⟩) ⟨Qj _,.inl rfl⟩ (m:=64) oM;have g9:t.heap[w.heap.size]? =some (.cells #[.slice none 0 0] 258 (0,0)):=k9.get g8 (λe=>oM);have J:lf c=aW (bK 64 ⟨c,0,0⟩).1.toNat (bK 64 ⟨c,0,0⟩).2:=rfl;have K:ai A t:=((s.then k7).then k8).new k9 λn P=>.inr (by have:=s.size;omega);generalize h3:bK 64 ⟨c,0,0⟩=ct at Z c1 a8 c5 c4 J;obtain⟨cn,L⟩:=ct;simp only at Z c1 a8 c5 c4 J;refine⟨_,rfl,λm a5 g=>∃i:Nat,a5=i/\(i:Int)<=cn/\m=cn.toNat-i/\fL g H a4 (aW i L).2/\ai A g/\∃l o p G,g.heap[w.heap.size]? =some (.cells #[.slice l o p] 258 (0,0))/\aS aO 3 G g l o p (aW i L).1/\(∀n,G n->t.heap.size<=n)/\t.heap.size<=g.heap.size,
  ⟨_,0,rfl,a8,rfl,Z,K,none,0,0,λ_=>False,g9,aS.nil t,λ_ h=>h.elim,Q4 _⟩,?_⟩
 have h4:=k9.size;rintro m a5 _ c6 ⟨i,rfl,hj,rfl,a0,M,c7,c8,c9,d0,a9,y,q,f0⟩;have d9:∀n,a4 n->n<t.heap.size:=λn P=>by have:=b9 n P;omega
 refine al.dec (λh5=>?_) (λh6=>?_)
 ·intro N b0
  have j:ai c6 N:=b0.keep;refine⟨(λn=>n=H\/d0 n),λhs=>hs.elim (λe=>oM) (λe=>by have:=q _ e;omega),_,_,_,ae (j.get a9 id) rfl,PC.ok (Hg (a0.af j)) ?_⟩;rintro _ d1 ⟨rfl,d2,r⟩;obtain⟨f1,f2,f3,f4⟩:=c1.ints i;obtain⟨f5,f6,f7⟩:=f1.int;refine⟨_,rfl,r.mono λn _ P=>.inl P,?_⟩;have a1:=(y.af j).keep r λn P e=>by have:=q n P;omega
  refine PA.mk λh7 z h8 e0=>⟨z.keep,?_⟩
  have d3:=a1.af z;have d4:(aW i L).1.length=i:=f3;refine lW d3 vr (D:=(·=d1.heap.size)) (Row.lit e0 [(fA (aW i L).2).1] rfl (λf8 hx=>by simp at hx;subst hx;exact f6) (by unfold aP;simp)) (λn e=>⟨oM,λe2=>by have:=a1.aE n (a1.self n e2);omega⟩) (by rw[d4];unfold aP;simp;omega) (by rw[d4];unfold maxLen;simp;omega) λb1 e1 e3 i0 a2 O _ d5=>?_
  replace a2:=a2.alone
  have e4:e3.heap[w.heap.size]? =some (.cells #[.slice c7 c8 c9] 258 (0,0)):=O.get (z.get (r.get (j.get a9 id) (λe=>oM)) id) (λe=>by have:=q _ (y.self _ e);omega);have z1:=j.size;have z2:=r.size;have z3:=z.size;have z4:=O.size;have a6:∀n,aI b1=some n->t.heap.size<=n:=λn P=>by
   rcases d5 n P with h|h
   ·exact q n h
   ·omega
  refine⟨_,_,_,rfl,PS.mk e4 sM λi1 b2 i2 e5=>⟨_,oM,i+1,an oM,oM,rfl,?_,?_,b1,_,e1,(λn=>aI b1=some n),e5,?_,a6,oM⟩⟩
  ·refine(((d2.af z).keep O λn P e=>by have:=d9 n P;have:=q n (y.self n e);omega)).keep b2 λn P e=>by have:=I.aE n P;omega
  ·refine((((M.then j).new r λn P=>.inr (by have:=s.size;omega)).then z).new O λn P=>.inr (by have:=q n (y.self n P);have:=K.size;omega)).new b2 λn P=>.inr (by have:=(s.then k7).size;omega)
  ·exact a2.keep b2 λn P e=>by have:=a6 n P;omega
 ·obtain rfl:cn=(i:Int):=oM
  rw[Qx]at J;rw[<-J]at a0 y;refine PC.ok (NU a0) ?_;rintro _ N ⟨rfl,b0⟩;have j:ai c6 N:=b0.keep;refine⟨_,rfl,al.eu (λk=>d (by rw[X];exact Zx k) N (M.then j)) (λh0=>?_)⟩;have hS:dI D=some (lf c).1:=by rw[X];exact Zq λh=>h h0
  rw[hS];refine⟨_,_,_,ae (j.get a9 id) rfl,PS.mk (a3 (M.then j)) sM λd1 r i3 e6=>⟨_,_,_,ae e6 rfl,Ok.mk ⟨c7,c8,c9,d0,rfl,?_,?_,?_⟩⟩⟩
  ·exact(y.af j).keep r λn P e=>by have:=q n P;have:=K.size;omega
  ·exact(C.then (M.then j)).new r λn P=>.inr oM
  ·intro n P;have:=q n P;have:=K.size;omega
def Hr{x y:Operand}{a b c d:Int}{w:World}:(do eqGuard .eql 39 x y (.agg #[WP a,WP b]) (.agg #[WP c,WP d]);binOp .eql 39 (.agg #[WP a,WP b]) (.agg #[WP c,WP d]):Sem Value).run LL w= .ok (.bool (a==c&&b==d)) w:=by
 have f:Tryz.prog.underlying 39=some (.struct (Tryz.prog.fieldsOf 39)):=kR
 have e:Tryz.prog.underlying 3=some (.int .i64):=kR
 have n:(Tryz.prog.fieldsOf 39).toList.map (λP=>(P.name,P.type,P.offset))=[("Origin",3,0),("Seq",3,1)]:=kR
 rw[Sem.run_bind,run_eqGuard_agg w .eql _ x y _ _ kR,Result.andThen_ok,run_eql_struct,run_equalIn_struct w 9999 _ _ _ f kR];generalize(Tryz.prog.fieldsOf 39).toList=g at n
 match g,n with
 |[P,t],n=>
  simp only[QY,List.map_nil,List.cons.injEq,Prod.mk.injEq,and_true]at n;obtain⟨⟨h,i,j⟩,k,l,m⟩:=n;have o:(isAgg 3).run LL w= .ok false w:=di _ _ _ kR ⟨_,e⟩ w;have p:=run_equalIn_int (P:=LL) w 9998 3 .i64 .i64 a c e;have q:=run_equalIn_int (P:=LL) w 9998 3 .i64 .i64 b d e;unfold Op.eqFields Op.eqFields Op.eqFields;rw[h,i,j,k,l,m]
  cases r:a==c<;>simp[part,o,p,q,r]
  by_cases s:b=d<;>simp[s]
 |[],n=>simp at n
 |[_],n=>simp at n
 |_::_::_::_,n=>simp at n
def nx{a j r t:Nat}{D u:ac}(c:Row aO 8 b D d a s)(k:Row aO 8 b u v j b2):
  bn 17 #[.slice d a r,.slice v j t] b (Ok λw e=>w= .bool (decide (s=b2))/\bW b e):=by
 have x:=c.len;have y:=k.len;have z:=c.eO;unfold aP at z;refine Bu (al.eu (λl=>?_) (λl=>?_))
 ·have f:s≠b2:=by rintro rfl;simp[x,y]at l
  exact Ok.mk ⟨by simp[f],bW.refl b⟩
 ·refine⟨λm i e=>∃n:Nat,i=n/\n<=a/\m=a-n/\s.take n=b2.take n/\bW b e,⟨_,0,rfl,Qj _,rfl,rfl,bW.refl b⟩,?_⟩
  rintro m i _ L ⟨n,rfl,M,rfl,o,P⟩;refine al.dec (λA=>?_) (λA=>?_)
  ·obtain⟨B,C,N,rfl,p,_,E⟩:=(c.af P.keep).nK (i:=n) oM
   obtain⟨F,H,O,rfl,g,_,I⟩:=(k.af P.keep).nK (i:=n) oM;refine⟨B,C,rfl,oM,oM,_,E,F,H,rfl,oM,oM,_,I,λQ q=>?_⟩;refine al.eu (λh=>?_) (λh=>?_)
   ·have f:s≠b2:=by rintro rfl;rw[p]at g;cases g;exact h rfl
    exact Ok.mk ⟨by simp[f],P.then q⟩
   ·subst h
    exact⟨_,oM,n+1,an oM,oM,rfl,Fu o p g,P.then q⟩
  ·have:s=b2:=by
    have J:s.take n=s:=Qz oM;have K:b2.take n=b2:=Qz oM;rw[<-J,<-K,o]
   exact Ok.mk ⟨by simp[this],P⟩
def nz{D y:ac}(z:Row aO 8 b D d a l.aM)(A:Row aO 8 b y v c L.aM):
  bn 30 #[.agg (aF l d a i).toArray,.agg (aF L v c p).toArray] b (Ok λm g=>m= .bool (decide (l=L))/\ai b g):=by
 have no:∀{g},ai b g->l≠L->Ok (λm g=>m= .bool (decide (l=L))/\ai b g) (.returned (.bool false)) g:=λB C=>Ok.mk ⟨by rw[Xv C],B⟩;refine zR (PA.mk λI E J F=>PA.mk λr s K j=>?_);have P:=s.get F id;have k:ai b r:=E.then s;refine⟨_,_,ae P rfl,ae P rfl,_,_,ae j rfl,ae j rfl,aK.mk Hr ⟨_,rfl,al.mk (λo=>?_) (λo=>?_)⟩⟩
 rotate_left
 ·exact no k λn=>by subst n;simp at o
 refine⟨_,ae P rfl,_,ae j rfl,al.eT (λt=>?_) (λt=>no k λn=>t (by rw[n]))⟩;refine⟨_,_,_,ae P rfl,_,_,_,ae j rfl,PC.ok (nx (z.af k) (A.af k)) ?_⟩;rintro _ u ⟨rfl,H⟩;have q:ai r u:=H.keep;have P:=q.get P id;have h:=q.get j id;have f:ai b u:=k.then q;refine⟨_,rfl,al.dec (λw=>?_) (λw=>no f λn=>w (by rw[n]))⟩;refine⟨_,ae P rfl,_,ae h rfl,al.eT (λM=>?_) (λe=>no f λn=>e (by rw[n]))⟩;refine⟨_,ae P rfl,_,ae h rfl,al.eT (λN=>?_) (λe=>no f λn=>e (by rw[n]))⟩;refine⟨_,ae P rfl,_,ae h rfl,al.eT (λO=>?_) (λe=>no f λn=>e (by rw[n]))⟩;refine⟨_,ae P rfl,_,ae h rfl,al.eT (λQ=>?_) (λe=>no f λn=>e (by rw[n]))⟩;refine⟨_,ae P rfl,_,ae h rfl,al.eT (λR=>?_) (λe=>no f λn=>e (by rw[n]))⟩;refine⟨_,ae P rfl,_,ae h rfl,Ok.mk ⟨?_,f⟩⟩
 congr 1
 have S:l.origin=L.origin/\l.seq=L.seq:=by simpa using o
 by_cases x:l.key=L.key
 ·have:l=L:=by cases l;cases L;simp_all
  subst this;simp
 ·rw[Xv λn=>x (by rw[n])]
  simp[x]
def Cp{c m w x:Nat}{D y:ac}(f:Row iz 96 b D d c E)(o:Row iz 96 b y v m e1):
  bn 39 #[.slice d c w,.slice v m x] b (Ok λz g=>z= .bool (decide (E=e1))/\ai b g):=by
 have A:=f.len;have B:=o.len;have C:=f.eO;unfold aP at C;refine xG (al.eu (λp=>?_) (λp=>?_))
 ·have h:E≠e1:=by rintro rfl;simp[A,B]at p
  exact Ok.mk ⟨by simp[h],aj.refl b⟩
 ·refine⟨λq i g=>∃a:Nat,i=a/\a<=c/\q=c-a/\E.take a=e1.take a/\ai b g,⟨_,0,rfl,Qj _,rfl,rfl,aj.refl b⟩,?_⟩
  rintro q i _ S ⟨a,rfl,T,rfl,r,s⟩;refine al.dec (λF=>?_) (λF=>?_)
  ·intro H I
   have e:ai b H:=s.then I.keep;obtain⟨J,K,U,V,rfl,_,_,t,L,W,X,Y,rfl,M,Z⟩:=(f.af e).vv (i:=a) oM;obtain⟨N,O,a0,fs,rfl,_,_,j,Q,a2,n2,c2,rfl,R,a3⟩:=(o.af e).vv (i:=a) oM;have n:=λi (k:i<10)=>L i k;have P:=λi (k:i<10)=>Q i k;refine⟨J,K,rfl,oM,oM,_,_,_,_,_,_,_,_,_,_,_,_,n 0 dC,n 1 dC,n 2 dC,n 3 dC,n 4 dC,n 5 dC,n 6 dC,n 7 dC,n 8 dC,n 9 dC,?_⟩;refine⟨N,O,rfl,oM,oM,_,_,_,_,_,_,_,_,_,_,_,_,P 0 dC,P 1 dC,P 2 dC,P 3 dC,P 4 dC,P 5 dC,P 6 dC,P 7 dC,P 8 dC,P 9 dC,?_⟩;refine PC.ok (nz M R) ?_;rintro _ w3 ⟨rfl,u⟩;refine⟨_,rfl,al.not (al.dec (λl=>?_) (λl=>?_))⟩
   ·subst l
    exact⟨_,oM,a+1,an oM,oM,rfl,Fu r t j,e.then u⟩
   ·have h:E≠e1:=by rintro rfl;rw[t]at j;cases j;exact l rfl
    exact Ok.mk ⟨by simp[h],e.then u⟩
  ·have:E=e1:=by
    have n:E.take a=E:=Qz oM;have P:e1.take a=e1:=Qz oM;rw[<-n,<-P,r]
   exact Ok.mk ⟨by simp[this],s⟩
end Go.Proofs.YtkpomgifkloklaaGreatDoor
namespace Go.aw
open Go.ChangeShapes Go.WideShapes Go.ChangeAt Go.RowKit
def mS{n:Type}(P:Program)(a:TypeId)(b:DataW n):Prop:=∀c∈b.weights P a,c<=reachBytes
abbrev In(n:World):ac:=λP=>P<n.heap.size
variable{e:Int}{a c:Nat}{j:Type}{g q:TypeId}
section
variable {H:Type} {enc:TypeId×Value->H} {P:Program} {w:World} {base:Nat} {held:Bool}
def SH{n:List TypeId}{a:List (DataW H)}(c:(DataW.weightsEach P n a).all (·<=reachBytes)=true){j:Nat}{b:DataW H}(d:n[j]? =some g)(e:a[j]? =some b):mS P g b:=
 λf h=>by simpa using ZY.1 c _ (DataW.weights_mem_each d e f h)
def rJ{b:TypeId}:∀{n:List (DataW H)} {d:DataW H},d∈n->∀a∈d.weights P b,a∈DataW.weightsAll P b n
 |x::n,d,h,a,c=>by
  simp only[DataW.weightsAll,Q6];rcases Q2.1 h with rfl|h
  ·exact Or.inl c
  ·exact Or.inr (rJ h a c)
def Reads{c:Type}(P:Program)(d:kq c)(a:TypeId):Prop:=
 ∀(H:Type) (enc:TypeId×Value->H) (w:World) (held:Bool) (n:Nat) (cs:List Value) (b:DataW H×List MemPlace),DataW.trod enc P w 0 (λ_=>true) held n a cs=some b->mS P a b.1->∃e,d.rep w (In w) e cs
def lZ{P:Option _}{b:Value}(n:w.cell? ⟨a,c,P⟩=some b):a<w.heap.size:=by
 unfold World.cell? at n
 by_cases d:a<w.heap.size
 ·exact d
 ·rw[show w.heap[a]? =none by simp;omega]at n;cases n
def open_row{i:kq j}{bytes v:Nat}{cs:List Value}{B:DataW H×List MemPlace}(I:P.underlying g=some (.slice q))(Q:P.cellsOf q=i.k)(J:0<i.k)(R:P.bytesOf q=bytes)(S:Reads P i q)(o:DataW.trod enc P w 0 (λ_=>true) held v g cs=some B)(T:mS P g B.1):
  ∃a p e U,cs=[.slice a p e]/\p<=e/\(a=none->p=0/\e=0)/\Row i bytes w (In w) a p U:=by
 rcases DataW.trod_slice I o with⟨rfl,rfl⟩|⟨a,b,e,n,f,p,_,rfl,rfl,hb,V,hm,a4,W,a5,a6⟩
 ·exact⟨none,0,0,[],rfl,Q4 _,λ_=>⟨rfl,rfl⟩,Row.nil _ _⟩
 ·have x:∀k∈(n.length+f.length)*P.bytesOf q::(DataW.weightsAll P q (n.map (·.1))++DataW.weightsAll P q (f.map (·.1))),k<=reachBytes:=by
   have:=T;simpa only[mS,DataW.weights,I,Q8]using this
  have read:∀d,d<b->∃c k,n[d]? =some k/\c.length=i.k/\(∀h,h<i.k->w.cell? (a.add (d*i.k+h))=c[h]?)/\DataW.trod enc P w 0 (λ_=>true) held p q c=some k:=by
   intro d m;have K:=W d m;rw[Q,Qq (by omega:d<n.length)]at K;obtain⟨c,A,y⟩:=Option.bind_eq_some_iff.1 K;obtain⟨_,C,s⟩:=World.cells?_some A;exact⟨c,_,Qq oM,C,λh E=>by rw[<-Addr.add_add];exact s h E,y⟩
  have X:0<b->a.spot=none:=by
   intro Y;obtain⟨c,k,_,C,s,_⟩:=read 0 Y;have:=s 0 J;rw[Nat.zero_mul,Nat.add_zero,Qq oM]at this;have q:a.add 0=a:=by simp[Addr.add]
   rw[q]at this;unfold World.cell? at this;split at this
   ·cases t:a.spot with
    |none=>rfl
    |some L=>rw[t]at this;simp at this
   ·cases this
  have one:∀d,d<b->∃r,∃u z M,some a=some ⟨u,z,none⟩/\u<w.heap.size/\In w u/\(∀h,h<i.k->w.cell? ⟨u,z+d*i.k+h,none⟩=M[h]?)/\i.rep w (In w) r M:=by
   intro d m;have t:=X oM;have N:∀F,a.add F=⟨a.block,a.off+F,none⟩:=by
    intro F;obtain⟨u,Z,L⟩:=a;simp only at t;subst t;unfold Addr.add;split
    ·next o=>subst o;rfl
    ·rfl
   obtain⟨c,k,y,C,s,h5⟩:=read d m;have a0:mS P q k.1:=λr l=>x r (QJ _ (ZV _ (rJ (d:=k.1) (Xk.2 ⟨k,QZ y,rfl⟩) r l)));obtain⟨r,l⟩:=S H enc w held p c k h5 a0;have O:a.block<w.heap.size:=by
    have:=s 0 J;rw[N,Qq oM]at this;exact lZ this
   refine⟨r,a.block,a.off,c,?_,O,O,λh E=>?_,l⟩
   ·obtain⟨u,Z,L⟩:=a
    simp only at t;rw[t]
   ·have:=s h E
    rw[N]at this;rw[<-this,Nat.add_assoc]
  have a1:b*bytes<=aP:=by
   have A:=x _ (QV ..);have y:b*P.bytesOf q<=(n.length+f.length)*P.bytesOf q:=Q0 _ oM;rw[R]at A y;unfold reachBytes at A;unfold aP;omega
  by_cases l:b=0
  ·subst l
   exact⟨some a,0,e,[],rfl,Qj _,λo=>(by cases o),rfl,sM,λd B m=>(by simp at m)⟩
  ·have a2:Nonempty j:=⟨(one 0 oM).choose⟩
   haveI:Inhabited j:=⟨Classical.choice a2⟩
   obtain⟨a3,hf⟩:=Go.Deep.choose_lt one;refine⟨some a,b,e,(List.range b).map a3,rfl,V,λo=>(by cases o),sM,a1,λd r l=>?_⟩
   by_cases m:d<b
   ·rw[Q9,List.getElem?_range m]at l
    cases l
    exact hf d m
   ·rw[Q7 dg]at l;cases l
def bu(n:(Lit.int .i64 e).wf=true):aH e:=by
 have:IntKind.i64.min<=e/\e<=IntKind.i64.max:=by simpa[Lit.wf]using n
 exact this
end
variable{o:Array Value}{a8:Func}{g1:List MemPlace}{b k:World}
def ai.below(n:ai b k):Below b.heap.size b k:=⟨n.os,n.tape,n.output,n.size,λP a=>n.block P a id⟩
section
variable {H:Type} {enc:TypeId×Value->H} {P:Program}
def wC(i:laidOutB P=true){e j:World}(k:ai e j){l:Nat->Bool}:∀{b:List TypeId} {m:List Value} {o:List (DataW H)} {c:List MemPlace},b.all (λf=>P.readableRec f&&decide (f<P.types.size))=true->(∀n∈c,n.block<e.heap.size)->(∀n∈c,l n.block=true)->
  DataW.TrodAll enc P e 0 (λ_=>true) true b m o c->DataW.TrodAll enc P j 0 l true b m o c
 |[],_,_,_,_,_,_,a=>by
  obtain⟨rfl,rfl,rfl⟩:=trodAll_nil a;exact trodAll_mk0
 |f::b,_,_,_,d,p,q,a=>by
  obtain⟨t,u,v,w,x,y,rfl,rfl,rfl,r,s⟩:=trodAll_cons a;simp only[List.all_cons,QK,Zk]at d;refine trodAll_cons_mk (WideElems.Trod_stays i d.1.1 d.1.2 r (λg h=>k.below.same (p g (ZV _ h))) λg h=>q g (ZV _ h)) (wC i k (by simpa using d.2) (λn a=>p n (ZW _ a)) (λn a=>q n (ZW _ a)) s)
def PI{c:ChangeSpec}{e m:List (DataW H)}{tb:TypeId}{n h E i:Bool}(F:laidOutB P=true)(u:a8.resultTypes= #[tb])(v:P.underlying tb=some .bool)(w:c.vars=[])(I:(c.fn H (e++m)).results=[.lit (.bool true)])(J:(c.fn H (e++m)).args=e)(K:(c.fn H (e++m)).vars=[])(L:a8.params.toList.all (λx=>P.readableRec x&&decide (x<P.types.size))=true)(p:DataW.Whole enc P a8.params.toList c.vars n b o.toList e m g1)(q:ai b k):c.post enc P a8 n h E i b o (.bool true) k:=by
 have M:=p;have r:=λa d=>p.lt a d;obtain⟨a,V,N,y,O,Q,R⟩:=p;rw[w]at y;obtain⟨rfl,rfl⟩:=trodVars_none y;obtain rfl:g1=a:=by simpa using O
 have z:∀f:Nat->Bool,(∀a∈g1,f a.block=true)->DataW.TrodAll enc P k 0 f true a8.params.toList o.toList (c.fn H (e++[])).args g1:=λf S=>by
  rw[J];exact wC F q L (λs t=>by simpa using r s t) (λs t=>S s t) N
 have A:∀(g:Nat) (f:Nat->Bool) (B:Bool),DataW.TrodAll enc P k g f B a8.resultTypes.toList ((Value.bool true).resultList a8.resultTypes.size) (c.fn H (e++[])).results []:=λg f B=>by
  rw[u,I];exact trodAll_cons_mk (shut_bool v _) trodAll_mk0
 have C:∀f:Nat->Bool,DataW.TrodVars enc P k f c.vars (c.fn H (e++[])).vars []:=λf=>by rw[K,w];exact rfl
 have T:∀a∈g1,(λg=>decide (g<b.heap.size)) a.block=true:=λa d=>by simpa using r a d
 refine⟨e,[],g1,[],g1,[],M,A _ _ _,z _ T,C _,World.keptBut_mono (λa d=>⟨d,Or.inr (by simpa using d)⟩) (q.below.frame (·∈g1)),λ_=>?_⟩;refine⟨ok_one u rfl (okWide_bool_mk v _),_,_,([]++g1)++[],⟨[]++g1,[],trodAll_append (z _ (λ_ _=>rfl)) (A _ _ _),C _,rfl,?_,?_⟩,?_⟩
 ·intro g j d
  have l:MemPlace.cell g j∈g1:=by simpa using d
  rw[q.below.frozen (p:=⟨g,j,none⟩) (r _ l)];exact Q g j (by simpa using l)
 ·intro U
  simpa using R U
 ·intro a d _
  simpa using d
end
end Go.aw
namespace Go.Proofs.YtkpomgifkloklaaGreatDoor
open Go.aw
def bb(a P:World)(d:Nat)(D:ak)(b:ac):Prop:=∃c,aV P d c D/\ai a P/\(∀n,c n->a.heap.size<=n/\¬b n)/\∀n,b n->n<P.heap.size
abbrev no:ac:=λ_=>False
abbrev dY(n:ac):ac:=λP=>¬n P
variable{o:Array Value}{x:ByteArray}{A:FuncId}{e:Int}{d4:Int×ak}{u:List UInt8}{a c:Nat}{f:ac}{d:be}
section
variable {w0 w w1 w':World} {p:Nat} {D D':ak} {X Y:ac}
def bb.gr(n:bb w0 w p D X):ai w0 w:=by obtain⟨a,b,P,c,d⟩:=n;exact P
def bb.ok(n:bb w0 w p D X):D.Ok:=by obtain⟨a,P,b,c,d⟩:=n;exact P.ok
def bb.af(P:bb w0 w p D X)(n:ai w w'):bb w0 w' p D X:=by
 obtain⟨a,b,c,d,e⟩:=P;exact⟨a,b.af n,c.af n,d,λf g=>Qk (e f g) n.size⟩
def bb.mono(c:bb w0 w p D X)(a:∀n,Y n->X n):bb w0 w p D Y:=by
 obtain⟨d,e,f,b,g⟩:=c;exact⟨d,e,f,λn P=>⟨(b n P).1,λh=>(b n P).2 (a n h)⟩,λn P=>g n (a n P)⟩
def bb.add(P:bb w0 w p D X)(b:ai w w')(c:∀n,Y n->w.heap.size<=n/\n<w'.heap.size):bb w0 w' p D (λn=>X n\/Y n):=by
 obtain⟨f,d,g,e,h⟩:=P;exact⟨f,d.af b,g.af b,λn a=>⟨(e n a).1,λi=>i.elim (e n a).2 λj=>by have:=d.aE n a;have:=(c n j).1;omega⟩,λn a=>a.elim (λP=>Qk (h n P) b.size) λP=>(c n P).2⟩
def bb.of(a:ai w0 w)(b:ai w w')(e:aV w' p f D)(c:∀n,f n->w.heap.size<=n)(d:∀n,X n->n<w.heap.size):bb w0 w' p D X:=
 ⟨f,e,a.af b,λn P=>⟨Xx a.size (c n P),λg=>by have:=c n P;have:=d n g;omega⟩,λn P=>Qk (d n P) b.size⟩
def oB(w0 w:World)(p:Nat)(X:ac)(n:Int×ak)(P:Value)(w':World):Prop:=P= WP n.1/\bb w0 w' p n.2 X/\aj (dY X) w w'
def bb.YA(e:bb w0 w p D X)(d:ai w w1)(i:∀a,aV w1 p a D->(∀n,a n->w0.heap.size<=n/\n<w.heap.size/\¬X n)->bn A o w1 (Ok (wm w1 p a d4))):bn A o w1 (Ok (oB w0 w1 p X d4)):=by
 obtain⟨a,f,g,b,h⟩:=e;refine Calls.ok (i a (f.af d) λn P=>⟨(b n P).1,f.aE n P,(b n P).2⟩) ?_;rintro q w' ⟨j,k,l,c⟩;have:=d.size;have:=g.size;have:=c.keep.size;exact⟨k,⟨j,l,(g.af d).new c.keep λn P=>.inr (b n P).1,λn P=>(c.new n P).elim (b n) λe=>⟨oM,λm=>by have:=h n m;omega⟩,λn P=>by have:=h n P;omega⟩,c.keep.mono λn _ P=>(b n P).2⟩
def bb.call(a:bb w0 w p D X)(b:∀P,aV w p P D->(∀n,P n->w0.heap.size<=n/\n<w.heap.size/\¬X n)->bn A o w (Ok (wm w p P d4))):bn A o w (Ok (oB w0 w p X d4)):=a.YA (aj.refl w) b
def bb.append(P:bb w0 w p D X)(b:Row gC 1 w f d a u)(i:d=none->a=0/\c=0)(e:∀n,f n->n<w0.heap.size\/X n):
  bn 176 #[RK p,.string x,.slice d a c] w (Ok (oB w0 w p X (D.append x u))):=by
 have o:=P.gr.size;have j:∀n,X n->n<w.heap.size:=by obtain⟨k,q,r,s,l⟩:=P;exact l
 exact P.call λk m g=>yR m b i λn b=>⟨(e n b).elim (λP=>oM) (j n),λh=>(e n b).elim (λP=>by have:=(g n h).1;omega) (g n h).2.2⟩
def bb.create(n:bb w0 w p D X):bn 186 #[RK p,.string x] w (Ok (oB w0 w p X (D.create x))):=n.call λa P _=>yQ P
def bb.sync(n:bb w0 w p D X):bn 178 #[RK p,.string x] w (Ok (oB w0 w p X (D.sync x))):=n.call λa P _=>EZ P
def bb.oD{k:ByteArray}(n:bb w0 w p D X):bn 205 #[RK p,.string k,WP e] w (Ok (oB w0 w p X (D.oD k e))):=n.call λa P _=>Sn P
def bb.delete(n:bb w0 w p D X):bn 124 #[RK p,.string x] w (Ok (oB w0 w p X (D.delete x))):=n.call λa P _=>yP P
def bb.read{k:ByteArray}(j:bb w0 w p D X):bn 198 #[RK p,.string k] w (Ok λd w'=>∃a b c P,d= .tuple #[.slice a b c,WP (D.read k).2]/\aS gC 5 P w' a b c (D.read k).1/\(∀n,P n->w.heap.size<=n)/\bb w0 w' p D (λn=>X n\/P n)/\ai w w'):=by
 obtain⟨P,e,l⟩:=j;refine Calls.ok (yk e) ?_;rintro d w' ⟨m,rfl,a,b,c,G,rfl,f,g,h⟩;exact⟨a,b,c,G,rfl,f,h,bb.add ⟨P,e,l⟩ g λn i=>⟨h n i,f.aE n i⟩,g⟩
def bb.list(j:bb w0 w p D X):bn 181 #[RK p] w (Ok λd w'=>∃a b c P,d= .slice a b c/\aS Px 9 P w' a b c D.list/\(∀n,P n->w.heap.size<=n)/\bb w0 w' p D (λn=>X n\/P n)/\ai w w'):=by
 obtain⟨P,e,k⟩:=j;refine Calls.ok (yl e) ?_;rintro d w' ⟨a,b,c,G,rfl,f,g,h⟩;exact⟨a,b,c,G,rfl,f,h,bb.add ⟨P,e,k⟩ g λn i=>⟨h n i,f.aE n i⟩,g⟩
end
def gX(n:Nat):ak:=⟨n,[],false,0,false⟩
variable{B:ba}{s:List Int}{b k:World}
def t_(g:ai b k)(l:64<=e)(m:e<=262144):bn 58 #[WP e] k (Ok λa P=>∃n,a= .tuple #[RK n,WP 0]/\bb b P n (gX e.toNat) (λc=>c<k.heap.size)/\ai k P):=by
 refine Calls.ok Py ?_;intro a P d;rw[Zq oM]at d;obtain⟨n,o,rfl,h,f,i⟩:=d;exact⟨n,rfl,bb.of g f h i λc j=>j,f⟩
def JP{D:ak}(n:D.Ok)(P:ByteArray):(D.read P).1.length<=262144:=by
 unfold ak.read;split
 ·simp
 ·split
  ·simp
  ·rename_i b a;exact n.len (cA a)
def nA:ByteArray:=⟨#[97]⟩
open Go.aw Go.ChangeShapes Go.WideShapes Go.ChangeAt Go.RowKit
section
variable {w0 w w1 w':World} {p:Nat} {D D':ak} {X Y:ac}
def bb.bD(P:bb w0 w p D X)(g:qX w0)(j:Row aO 8 w f d a s)(k:∀l∈s,aH l)(h:∀n,f n->n<w0.heap.size\/X n):
  bn 154 #[RK p,.agg #[.slice d a c]] w (Ok (oB w0 w p X (bD D s))):=by
 have t:=P.gr.size;have m:∀n,X n->n<w.heap.size:=by obtain⟨o,u,v,x,q⟩:=P;exact q
 have y:=g.lt;exact P.call λo r e=>CL (g.af P.gr) r j k (λn b=>⟨(h n b).elim (λP=>oM) (m n),λi=>(h n b).elim (λP=>by have:=(e n i).1;omega) (e n i).2.2⟩) λn b=>by have:=(e n b).1;omega
def bb.iY(c:bb w0 w p D X)(j:qX w0):bn 151 #[RK p] w (Ok λd w'=>∃P a b G,d= .tuple #[.agg #[.slice P a b],.bool (dI D).isSome]/\aS aO 3 G w' P a b ((dI D).getD [])/\
  (∀n,G n->w.heap.size<=n)/\bb w0 w' p D (λn=>X n\/G n)/\ai w w'):=by
 have k:=c.gr;obtain⟨l,e,m⟩:=c;refine Calls.ok (Eo (j.af k) e) ?_;rintro d w' ⟨P,a,b,G,rfl,f,g,h⟩;exact⟨P,a,b,G,rfl,f,h,bb.add ⟨l,e,m⟩ g λn i=>⟨h n i,f.aE n i⟩,g⟩
end
def Oj{D:ac}{P bytes:Nat}(a:Row aO bytes b D d P s):∀n∈s,aH n:=λn c=>by
 obtain⟨e,f⟩:=List.mem_iff_getElem?.1 c;obtain⟨i,g,j,-,-,-,-,h⟩:=a.el e n f;exact h.2
def ER{D:ak}:((dI D).getD []).length<=64:=by
 unfold dI;split
 ·simp
 ·cases n:iY (D.read cj).1 with
  |none=>simp
  |some P=>exact(Qf n).2
def tn:(aQ==cj)=false:=by decide+kernel
def UI:dd aQ=true:=by decide+kernel
def Js:dd cj=true:=by decide+kernel
def Aj:lq:=⟨[(6,[(8,.slice none 0 0),(9,WP 0)])],[],[],[],[]⟩
def Ak(a0:PC_ 129 #[.ii e] b (λa3 a4=>∃o,a3= .string o/\PC_ 198 #[.pointer d,.string o] a4 (λa5 p=>∃q k l r,a5= .tuple #[.slice q k l,.ii r]/\al (r !=0) (rt B ((.tuple #[.slice none 0 0,.ii 0])) p) ((∃m:Nat->be->Nat->Nat->Int->bc,(∃j,m j none 0 0 0 p)/\∀(j:Nat) (c:be) (f:Nat) (g:Nat) (a:Int) (c9:Nat->Value) (s:World),m j c f g a s->((0:Int)<=a/\(a:Int)<=(k:Int)/\PC_ 199 #[.slice (df q (Int.toNat a) l 1) (k-Int.toNat a) (l-Int.toNat a)] s (λa6 h=>∃t u v w x y,a6= .tuple #[.agg #[.ii t,.slice u v w],.ii x,.ii y]/\PA h (.cells #[.ii 0,.slice none 0 0] 318) λa7=>PS a7 (ab_ h 0) (.ii t) λa8=>PS a8 (ab_ h (0+1)) (.slice u v w) λi=>al (y !=0) (rt B ((.tuple #[.slice c f g,.ii a])) i) ((rI i (ab_ h 0) λa9=>al (a9 !=1) (rt B ((.tuple #[.slice c f g,.ii a])) i) ((rS i (ab_ h (0+1)) λb0 b1 b2=>PC_ 270 #[.slice b0 b1 b2] i (λb3 n=>∃z A D C E G F H I J K L M,b3= .tuple #[.agg #[.ii z,.ii A,.ii D,.slice C E G,.ii F,.ii H,.ii I,.ii J,.ii K,.ii L],.ii M]/\PA n (.cells #[.ii 0,.ii 0,.ii 0,.slice none 0 0,.ii 0,.ii 0,.ii 0,.ii 0,.ii 0,.ii 0] 82) λb4=>PS b4 (ab_ n 0) (.ii z) λb5=>PS b5 (ab_ n (0+1)) (.ii A) λb6=>PS b6 (ab_ n (0+2)) (.ii D) λb7=>PS b7 (ab_ n (0+3)) (.slice C E G) λb8=>PS b8 (ab_ n (0+4)) (.ii F) λb9=>PS b9 (ab_ n (0+5)) (.ii H) λc0=>PS c0 (ab_ n (0+6)) (.ii I) λc1=>PS c1 (ab_ n (0+7)) (.ii J) λc2=>PS c2 (ab_ n (0+8)) (.ii K) λc3=>PS c3 (ab_ n (0+9)) (.ii L) λP=>al (M !=0) (rt B ((.tuple #[.slice c f g,.ii a])) P) ((∃N O Q R S T U V W X Y Z,P.cell? (ab_ n 0)=some (.ii N)/\P.cell? (ab_ n (0+1))=some (.ii O)/\P.cell? (ab_ n (0+2))=some (.ii Q)/\P.cell? (ab_ n (0+3))=some (.slice R S T)/\P.cell? (ab_ n (0+4))=some (.ii U)/\P.cell? (ab_ n (0+5))=some (.ii V)/\P.cell? (ab_ n (0+6))=some (.ii W)/\P.cell? (ab_ n (0+7))=some (.ii X)/\P.cell? (ab_ n (0+8))=some (.ii Y)/\P.cell? (ab_ n (0+9))=some (.ii Z)/\PA P (.cells #[.ii N,.ii O,.ii Q,.slice R S T,.ii U,.ii V,.ii W,.ii X,.ii Y,.ii Z] 82) λc4=>PR_ (ap_ 36 (.slice c f g) (.slice (some (ab_ P 0)) 1 1)) c4 (kS_ λc5 c6 c7 c8=>(∃a2,a2<j/\m a2 c5 c6 c7 (PP .i64 (a+x)) c8)) (pV B)))) (pE B)))))) (pE B))))) (pE B)) (pE B)):bn 204 #[.pointer d,.ii e] b B:=DC Aj Tryz.func204 rfl a0
end Go.Proofs.YtkpomgifkloklaaGreatDoor
namespace Go.aw
open Go
variable{E:List ah}{l:ah}
def ry(n:l.Ok)(P:l.aM.length<=64):gZ l=(oA l,0):=by
 have c:=FE n P;have a:jG l=(bl (gl l),0):=by unfold jG;rw[Zq oM]
 have b:lr 1 (bl (gl l))=(oA l,0):=by unfold lr oA;rw[Zq dC,Zq oM]
 unfold gZ;rw[a];simp only;rw[b];simp
def yK(P:¬l.aM.length<=64):gZ l=([],3):=by
 have n:jG l=([],3):=by unfold jG;rw[Zx oM]
 unfold gZ;rw[n];simp
def ends(n:List ah):List Int:=(List.range n.length).map λP=>((aB (n.take (P+1))).length:Int)
def CF{l:List ah}{i j:Nat}(n:i<=j):(aB (l.take i)).length<=(aB (l.take j)).length:=by
 have:l.take j=l.take i++(l.take j).drop i:=by
  conv=>lhs;rw[<-ZX i (l.take j)]
  rw[List.take_take,X2 n]
 rw[this,gF,QX];omega
def Jn(P:∀n∈E,n.Ok/\n.aM.length<=64):(aB E).length<=675*E.length:=by
 induction E with
 |nil=>simp[aB]
 |cons n E a=>
  rw[iy,QX,Xq];have d:=KH (P n (QV ..)).1 (P n (QV ..)).2;have e:=a λb c=>P b (QJ _ c);omega
end Go.aw
namespace Go.Proofs.YtkpomgifkloklaaGreatDoor
open Go.aw
variable{e:Int}
def Ka(b:0<=e)(c:e<1000000000000):dd (⟨(ax e).toArray⟩:ByteArray)=true:=by
 have d:=Da e;have f:=vg e.toNat;have a:=mX b c;have g:(⟨(ax e).toArray⟩:ByteArray).size=(ax e).length:=by simp[ByteArray.size]
 unfold dd;rw[g,QK,QK,Zk,Zk];refine⟨⟨by rw[a,QX];show 1<=4+_;omega,d⟩,?_⟩;show(ax e).all eP=true;rw[a,List.all_append,QK];refine⟨dC,ZY.2 λn P=>?_⟩;have:=ZY.1 f.2.1 n P;have h:∀n:UInt8,gY n=true->eP n=true:=by
  intro n;have i:(List.range 256).all (λe=>!(gY (UInt8.ofNat e))||eP (UInt8.ofNat e))=true:=by decide+kernel
  have:=ZY.1 i n.toNat (List.mem_range.2 n.toNat_lt);rw[UInt8.ofNat_toNat]at this;intro j;rw[j]at this;simpa using this
 exact h n this
end Go.Proofs.YtkpomgifkloklaaGreatDoor
namespace Go.aw
open Go
end Go.aw
namespace Go.Proofs.YtkpomgifkloklaaGreatDoor
section
open Go.aw
variable{a c:Nat}{f:ac}{d:be}{j:Type}{b:World}{l:ah}
def ES{D:ac}(r:Laid b)(s:Row aO 8 b D d a l.aM)(i:l.Ok)(t:∀P,D P->P<b.heap.size):
  bn 175 #[.agg (aF l d a c).toArray] b (Ok λu j=>∃k m o p,u= .tuple #[.slice k m o,WP (gZ l).2]/\aS gC 5 p j k m o (gZ l).1/\ai b j/\∀P,p P->b.heap.size<=P):=by
 refine Aa (PA.mk λC e E n=>?_);refine⟨_,_,_,_,_,_,_,_,_,_,_,_,ae n rfl,ae n rfl,ae n rfl,ae n rfl,ae n rfl,ae n rfl,ae n rfl,ae n rfl,ae n rfl,ae n rfl,
  PC.ok (PD (s.af e) i λP h=>Qk (t P h) e.size) ?_⟩
 rintro _ v ⟨_,rfl,F,H,I,J,rfl,q,f,K⟩;refine⟨_,_,_,_,rfl,al.eu (λw=>?_) (λx=>?_)⟩
 ·rw[show gZ l=([],(jG l).2) by unfold gZ;rw[Zx w]]
  exact Ok.mk ⟨none,0,0,λ_=>False,rfl,aS.nil v,e.then f,λ_ g=>g.elim⟩
 rw[show gZ l=lr 1 (jG l).1 by unfold gZ;rw[Zq (by simpa using x)]];have L:(jG l).1.length<=666:=by
  by_cases g:64<l.aM.length
  ·simp[jG,g]
  ·have:=FE i oM
   simpa[jG,g]using this
 refine PC.ok (Fh (r.af (e.then f)).qp (q.row (bytes:=1) dC cw) q.aE) ?_;rintro _ M ⟨_,rfl,N,O,Q,y,rfl,z,A,B⟩;refine⟨_,_,_,_,rfl,Ok.mk ⟨_,_,_,y,rfl,z,(e.then f).then A,λP h=>?_⟩⟩;have:=B P h;have:=(e.then f).size;omega
def TD{n:List j}(b:n.length=a)(P:Nat):(n.take a).drop P=n.drop P:=by rw[Qz oM]
def Th{D:ak}{no:Int}(O:Laid b)(Q:aV b a f D)(hn:aH no):
  bn 204 #[RK a,WP no] b (Ok λB d=>∃o p q G,B= .tuple #[.slice o p q,WP ((bL (D.read (cI (ax no))).1).2:Int)]/\
   aS wu 82 G d o p q (bL (D.read (cI (ax no))).1).1/\ai b d/\(∀P,G P->b.heap.size<=P)/\(bL (D.read (cI (ax no))).1).1.length<=262144):=by
 refine Ak (PC.ok (ky O hn) ?_);rintro _ w1 ⟨rfl,u⟩;refine⟨_,rfl,PC.ok (yk (Q.af u)) ?_⟩;rintro _ r ⟨_,rfl,a4,R,c2,F2,rfl,l,C,c3⟩;have S:=JP Q.ok (cI (ax no));have E:(D.read (cI (ax no))).2≠0->(D.read (cI (ax no))).1=[]:=by
  unfold ak.read;split
  ·intro _;rfl
  ·split
   ·intro _;rfl
   ·intro h;exact Zz rfl h
 generalize D.read (cI (ax no))=rd at l S E;obtain⟨c,er⟩:=rd;simp only at l S E⊢;refine⟨_,_,_,_,rfl,al.eu (λk=>?_) (λhe=>?_)⟩
 ·rw[E k,r_]
  exact Ok.mk ⟨none,0,0,λ_=>False,rfl,aS.nil r,u.then C,λ_ h=>h.elim,sM⟩
 have b2:=l.len dC;have b3:=l.lL;have a9:Row gC 1 r F2 a4 R c:=l.row dC cw;refine⟨λT v w y F d=>∃(n:Nat) (g:List ah) (G:ac),F=n/\n<=c.length/\T=c.length-n/\bL c=(g++(bL (c.drop n)).1,n+(bL (c.drop n)).2)/\g.length<=n/\
  aS wu 82 G d v w y g/\ai r d/\∀P,G P->r.heap.size<=P,⟨_,0,[],λ_=>False,rfl,Qj _,rfl,sM,sM,aS.nil r,aj.refl _,λ_ h=>h.elim⟩,?_⟩
 rintro T v w y _ _ U ⟨n,g,G,rfl,c5,rfl,V,c6,s,m,H⟩;refine⟨oM,oM,?_⟩;have W:ai b U:=(u.then C).then m;have X:=(a9.af m).part (lo:=n) (hi:=R) (cap:=c2) oM (Q4 _) b3;rw[TD b2.symm]at X;rw[Qx];refine PC.ok (Fj (O.af W).qp X oM λP e=>by have:=l.aE P e;have:=m.size;omega) ?_;rintro _ I ⟨b0,n4,c4,F4,rfl,b4,z,c8⟩;have i:¬((bw (c.drop n)).no=0/\(bw (c.drop n)).kind=1/\(jf (bw (c.drop n)).body).2=0)->∀d,ai I d->
   Ok (λB d=>∃o p q G,B= .tuple #[.slice o p q,WP ((bL c).2:Int)]/\aS wu 82 G d o p q (bL c).1/\ai b d/\(∀P,G P->b.heap.size<=P)/\(bL c).1.length<=262144) (.returned (.tuple #[.slice v w y,WP (n:Int)])) d:=by
  intro h d Y;rw[V,C_ h];refine Ok.mk ⟨v,w,y,G,sM,by simpa using(s.af z).af Y,(W.then z).then Y,λP e=>?_,by simp;omega⟩;have:=H P e;have:=(u.then C).size;omega
 refine⟨_,_,_,_,_,_,rfl,PA.mk λw5 k5 s5 g5=>?_⟩;refine storeAll [WP (bw (c.drop n)).kind,.slice b0 n4 c4] g5 rfl λJ k6 s6 Z=>?_;have t:ai I J:=k5.new k6 λP e=>.inr oM;refine al.eu (λk=>i (λh=>k h.1) J t) (λa0=>?_);refine⟨_,ae Z rfl,al.eu (λk=>i (λh=>k h.2.1) J t) (λb1=>?_)⟩;obtain⟨b5,h9,c9⟩:=wA a0;rw[XZ]at b5;have a1:=b4.af t;refine⟨_,_,_,ae Z rfl,PC.ok (PE (a1.row (bytes:=1) dC cw) a1.aE) ?_⟩;rintro _ w7 ⟨a7,n7,c7,F7,rfl,K,k7,a3⟩;obtain⟨L,a5⟩:=TE (bw (c.drop n)).body;generalize M:jf (bw (c.drop n)).body=b6 at K L a5;obtain⟨x,xe⟩:=b6;simp only at K L a5;refine⟨_,_,_,_,_,_,_,_,_,_,_,_,_,rfl,PA.mk λw8 k8 s8 g8=>?_⟩;refine storeAll (aF x a7 n7 c7) g8 rfl λA k9 s9 j=>?_;have a6:ai w7 A:=k8.new k9 λP e=>.inr oM;have a8:ai I A:=(t.then k7).then a6;refine al.eu (λk=>i (λh=>k (by have:=h.2.2;rw[M]at this;exact this)) A a8) (λb7=>?_);refine⟨_,_,_,_,_,_,_,_,_,_,_,_,ae j rfl,ae j rfl,ae j rfl,ae j rfl,ae j rfl,ae j rfl,ae j rfl,ae j rfl,ae j rfl,ae j rfl,?_⟩;have N:ai U A:=z.then a8;have b8:=s.af N;have a2:=K.af a6;have d0:=(z.then t).size;refine ON b8 Ik (x:=x) (D:=F7) ⟨a7,n7,c7,F7,rfl,a2,λ_ h=>h,L,by unfold aP;omega⟩ (λP e=>⟨a2.aE P e,λhc=>?_⟩) cw (by unfold maxLen;omega) λa' c' d1 F' b9 c0 c1 _=>?_
 ·have h1:=s.aE P (s.self P hc)
  have h2:=a3 P e;omega
 refine⟨_,_,_,rfl,_,?_,n+(bw (c.drop n)).n,g++[x],F',?_,oM,rfl,?_,by simp;omega,b9,?_,?_⟩
 ·omega
 ·rw[wrap_i64 cS];omega
 ·rw[V,zn ⟨a0,b1,by rw[M];exact b7⟩,M,List.drop_drop]
  simp only[XQ,List.cons_append,List.nil_append,Nat.add_assoc]
 ·exact(m.then N).new c0 λP e=>.inr (H P (s.self P e))
 ·intro P e
  have hz:=(m.then N).size;have d2:=m.size;rcases c1 P e with h|h|h
  ·exact H P h
  ·have:=a3 P h;omega
  ·omega
end
section
open Go.aw
variable{o:Array Value}{A:FuncId}{e:Int}{d4:Int×ak}{s:List Int}{a c:Nat}{f:ac}{d:be}{b:World}
def bV{D:ac}(h:Row aO 8 b D d a s)(f:∀n,D n->n<b.heap.size):
  bn 85 #[.slice d a c] b (Ok (qh aO 3 b s)):=by
 have x:=h.len;have P:=h.eO;refine pt (lx vr.under ⟨_,rfl,al.mk (λe=>?_) (λe=>PA.mk λj g y k=>?_)⟩)
 ·have:s=[]:=by
   cases d with
   |none=>
    cases s with
    |nil=>rfl
    |cons l z=>obtain⟨n,m,A,o,_⟩:=h.el 0 l rfl;cases o
   |some p=>cases e
  subst this;exact Ok.mk ⟨none,0,0,λ_=>False,rfl,aS.nil b,aj.refl _,λ_ h=>h.elim⟩
 ·cases d with
  |none=>cases e
  |some p=>
   have q:aS aO 3 (·=b.heap.size) j (UV b.heap.size) 0 0 []:=
    ⟨⟨[],λ_=>False,Own.AU (cur:= #[]) k rfl (Qj _),rfl,λ_ h=>h.elim⟩,λn P=>by simpa[aI]using P.symm,λn P=>oM⟩
   refine lW q vr (D:=D) (h.af g) (λn P=>⟨by have:=f n P;omega,by have:=f n P;simp only[aI];intro r;cases r;omega⟩) dg (by unfold aP at P;unfold maxLen;simp;omega) λi t B C u v _ w=>?_;refine⟨_,_,_,rfl,Ok.mk ⟨i,_,t,λn=>aI i=some n,rfl,by have h:=u.alone;rw[List.nil_append]at h;exact h,g.new v λn P=>.inr ?_,λn P=>?_⟩⟩
   ·simp only[aI,Q1]at P;omega
   ·rcases w n P with h|h<;>omega
def eN(n:Int)(P:ByteArray):Int:=if(ig P).2 then max n ((ig P).1+1)else n
def tQ(n:List ByteArray):Int:=n.foldl eN 1
def iD(D:ak):Int:=tQ D.list
def FD(n:ByteArray):0<=(ig n).1/\(ig n).1<1000000000000:=by
 unfold ig;split
 ·rename_i a P
  have:=(CD P).2;simp;omega
 ·simp
def HB(P:1<=e/\e<=1000000000000)(n:ByteArray):1<=eN e n/\eN e n<=1000000000000:=by
 have:=FD n;unfold eN;split<;>omega
def JW:∀(P:List ByteArray) (n:Int),(1<=n/\n<=1000000000000)->1<=P.foldl eN n/\P.foldl eN n<=1000000000000
 |[],n,a=>a
 |s::P,n,a=>JW P _ (HB a s)
def sA(n:List ByteArray):1<=tQ n/\tQ n<=1000000000000:=JW n 1 oM
def JX{D:ak}(s:Laid b)(h:aV b a f D):
  bn 150 #[RK a] b (Ok λt d=>t= WP (iD D)/\ai b d):=by
 refine DS (PC.ok (yl h) ?_);rintro _ i ⟨u,c,z,G,rfl,j,k,A⟩;have B:D.list.length<=64:=by rw[o_];exact h.ok.many
 have C:=j.len dC;have v:Row Px 16 i G u c D.list:=j.row dC cw;refine⟨_,_,_,rfl,λl m o d=>∃n:Nat,o=n/\n<=c/\l=c-n/\m=tQ (D.list.take n)/\ai i d,⟨_,0,rfl,Qj _,rfl,rfl,aj.refl _⟩,?_⟩;rintro l m o _ E ⟨n,rfl,F,rfl,rfl,P⟩;refine al.dec (λH=>?_) (λI=>?_)
 ·obtain⟨w,e,p,rfl,x,_,y⟩:=(v.af P).nK (i:=n) oM
  refine⟨w,e,rfl,oM,oM,_,y,PC.ok (Br (s.af (k.then P))) ?_⟩;rintro _ J ⟨rfl,q⟩;have K:=FD p;have L:=sA (D.list.take n);have r:tQ (D.list.take (n+1))=eN (tQ (D.list.take n)) p:=by
   unfold tQ;rw[Qw,x,List.foldl_append];rfl
  refine⟨_,_,rfl,al.mk (λg=>⟨_,?_,n+1,an oM,oM,rfl,?_,P.then q⟩) (λg=>⟨_,?_,n+1,an oM,oM,rfl,?_,P.then q⟩)⟩
  ·omega
  ·rw[r,wrap_i64 cS]
   unfold eN;rw[Zx g];split<;>omega
  ·omega
  ·rw[r];unfold eN;rw[Zq (by simp[g])]
 ·obtain rfl:n=c:=oM
  rw[Qz oM];exact Ok.mk ⟨rfl,k.then P⟩
structure dA where
 size:Int
 bd:List Int
 bytes:Int
 next:Int
structure jE (w:World) (p q:Nat) (G:ac) (V:dA):Prop where
 body:∃a n c E,w.heap[q]? =some (.cells #[RK p,WP V.size,.slice a n c,WP V.bytes,WP V.next] 256 (0,0))/\aS aO 3 E w a n c V.bd/\∀b,E b->G b/\b≠q
 self:G q
 aE:∀b,G b->b<w.heap.size
 many:V.bd.length<=64
 BL:aH V.next
section
variable {w0 w w1 w':World} {p q:Nat} {D D':ak} {V V':dA} {X Y G S:ac}
def jE.keep(P:jE w p q G V)(a:aj S w w')(c:∀n,G n->¬S n):jE w' p q G V:=by
 obtain⟨e,f,g,h,i,j,d⟩:=P.body;exact⟨⟨e,f,g,h,a.get i (c q P.self),j.keep a λn b=>c n (d n b).1,d⟩,P.self,λn b=>Qk (P.aE n b) a.size,P.many,P.BL⟩
def jE.af(n:jE w p q G V)(P:ai w w'):jE w' p q G V:=n.keep P λ_ _ n=>n
def cG(w0 w:World)(p q:Nat)(V:dA)(D:ak)(X:ac):Prop:=∃G,bb w0 w p D (λn=>X n\/G n)/\jE w p q G V/\∀n,G n->w0.heap.size<=n/\¬X n
def cG.gr(n:cG w0 w p q V D X):ai w0 w:=by obtain⟨G,P,a,b⟩:=n;exact P.gr
def cG.ok(n:cG w0 w p q V D X):D.Ok:=by obtain⟨G,P,a,b⟩:=n;exact P.ok
def cG.many(n:cG w0 w p q V D X):V.bd.length<=64:=by obtain⟨G,a,P,b⟩:=n;exact P.many
def cG.BL(n:cG w0 w p q V D X):aH V.next:=by obtain⟨G,a,P,b⟩:=n;exact P.BL
def cG.aE(P:cG w0 w p q V D X):∀n,X n->n<w.heap.size:=by obtain⟨G,⟨c,d,e,f,a⟩,g,h⟩:=P;exact λn b=>a n (.inl b)
def cG.ZU(P:cG w0 w p q V D X):q<w.heap.size/\w0.heap.size<=q/\¬X q:=by obtain⟨G,b,n,a⟩:=P;exact⟨n.aE q n.self,a q n.self⟩
def cG.uV(n:cG w0 w p q V D X):bb w0 w p D X:=by obtain⟨G,P,b,c⟩:=n;exact P.mono λd a=>.inl a
def cG.af(P:cG w0 w p q V D X)(n:ai w w'):cG w0 w' p q V D X:=by
 obtain⟨G,a,b,c⟩:=P;exact⟨G,a.af n,b.af n,c⟩
def cG.mono(c:cG w0 w p q V D X)(a:∀n,Y n->X n):cG w0 w p q V D Y:=by
 obtain⟨G,d,e,b⟩:=c;exact⟨G,d.mono λn P=>P.imp (a n) id,e,λn P=>⟨(b n P).1,λf=>(b n P).2 (a n f)⟩⟩
def cG.add(e:cG w0 w p q V D X)(a:ai w w')(b:∀n,Y n->w.heap.size<=n/\n<w'.heap.size):cG w0 w' p q V D (λn=>X n\/Y n):=by
 obtain⟨G,f,c,d⟩:=e;refine⟨G,(f.add a b).mono λn P=>?_,c.af a,λn P=>⟨(d n P).1,λg=>g.elim (d n P).2 λh=>by have:=c.aE n P;have:=(b n h).1;omega⟩⟩;rcases P with(P|P)|P
 ·exact .inl (.inl P)
 ·exact .inr P
 ·exact .inl (.inr P)
def cG.other(f:cG w0 w p q V D X)(a:aj Y w w')(b:∀n,Y n->X n/\w0.heap.size<=n):cG w0 w' p q V D X:=by
 obtain⟨G,⟨g,h,i,d,j⟩,k,e⟩:=f;exact⟨G,⟨g,h.keep a λn P c=>(d n P).2 (.inl (b n c).1),i.new a λn P=>.inr (b n P).2,d,λn P=>Qk (j n P) a.size⟩,k.keep a λn P c=>(e n P).2 (b n c).1,e⟩
def cG.on(d:cG w0 w p q V D X)(e:∀a,(∀n,X n->a n)->bb w0 w p D a->bn A o w (Ok (oB w0 w p a d4))):bn A o w (Ok λb w'=>b= WP d4.1/\cG w0 w' p q V d4.2 X/\aj (dY X) w w'):=by
 obtain⟨G,f,g,h⟩:=d;refine Calls.ok (e _ (λn P=>.inl P) f) ?_;rintro b w' ⟨i,j,c⟩;exact⟨i,⟨G,j,g.keep c λn P k=>k (.inr P),h⟩,c.mono λn _ P l=>P (.inl l)⟩
def dA.last(V:dA):ByteArray:=cI (ax (V.bd.getLast?.getD 0))
def jE.row(d:jE w p q G V):∃P n b a,w.heap[q]? =some (.cells #[RK p,WP V.size,.slice P n b,WP V.bytes,WP V.next] 256 (0,0))/\Row aO 8 w a P n V.bd/\(∀c,a c->G c/\c≠q)/\n=V.bd.length:=by
 obtain⟨P,n,b,a,f,e,g⟩:=d.body;have:=d.many;exact⟨P,n,b,a,f,e.row dC cw,g,e.len dC⟩
def JY(d:Laid w)(b:jE w p q G V)(e:V.bd≠[]):bn 177 #[RK q] w (Ok λf w'=>f= .string V.last/\ai w w'):=by
 obtain⟨u,P,v,x,g,h,y,i⟩:=b.row;have z:0<V.bd.length:=List.length_pos_iff.2 e;have A:=b.many;refine vO λw1 j=>?_;have n:ai w w1:=j.keep;have c:=n.get g id;have k:PP .i64 ((P:Int)-1)=((P-1:Nat):Int):=by rw[wrap_i64 cS];omega
 obtain⟨l,a,m,rfl,o,r,s⟩:=(h.af n).nK (i:=P-1) oM;refine⟨q,0,rfl,_,_,_,ae c rfl,q,0,rfl,_,_,_,ae c rfl,l,a,rfl,?_⟩;rw[k];refine⟨oM,oM,m,s,PC.ok (ky (d.af n) r) ?_⟩;rintro _ B ⟨rfl,t⟩;refine⟨_,rfl,Ok.mk ⟨?_,n.then t⟩⟩;unfold dA.last;rw[List.getLast?_eq_getElem?,<-i,o];rfl
def JZ(i:Laid w0)(f:cG w0 w p q V D X)(j:V.bd≠[]):bn 118 #[RK q] w (Ok λk w'=>k= WP (D.sync V.last).1/\cG w0 w' p q V (D.sync V.last).2 X/\aj (dY X) w w'):=by
 refine vL λw1 l=>?_;have c:ai w w1:=l.keep;have m:=f.af c;obtain⟨G,o,n,g⟩:=m;obtain⟨y,z,A,B,r,C,E,h⟩:=n.row;have F:=g q n.self;have H:=n.aE q n.self;refine⟨λa=>a≠q/\¬X a,q,0,rfl,λs=>s.1 rfl,_,ae r rfl,PC.ok (JY (i.af (f.gr.then c)) n j) ?_⟩;rintro _ I ⟨rfl,b⟩;have t:=n.af b;have u:=o.af b;refine⟨_,rfl,b.keep,PC.ok u.sync ?_⟩;rintro _ J ⟨rfl,v,d⟩;refine⟨_,rfl,d.mono λa _ P=>⟨λx=>P (.inr (x▸n.self)),λe=>P (.inl e)⟩,Ok.mk ⟨rfl,⟨G,v,t.keep d λa P h=>h (.inr P),g⟩,?_⟩⟩;exact(ai.keep (c.then b)).then (d.mono λa _ P e=>P (.inl e))
def Hc(n:jE w p q G V):bn 128 #[RK q] w (Ok (qh aO 3 w V.bd)):=by
 obtain⟨i,j,k,l,a,b,c,m⟩:=n.row;refine qA ⟨q,0,rfl,_,_,_,ae a rfl,PC.ok (bV b λP d=>n.aE P (c P d).1) ?_⟩;rintro _ w1 ⟨o,r,s,e,rfl,f,g,h⟩;exact⟨_,_,_,rfl,Ok.mk ⟨_,_,_,e,rfl,f,g,h⟩⟩
def Si(n:jE w p q G V):bn 127 #[RK q] w (Ok λP w'=>P= WP V.next/\w=w'):=by
 obtain⟨b,c,d,e,a,f,g,h⟩:=n.row;exact vN ⟨q,0,rfl,_,ae a rfl,Ok.mk ⟨rfl,rfl⟩⟩

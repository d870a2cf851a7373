import Derived.Test.YtjgjkeponbeekaaGreatDoorKc9
import Derived.Maps.RangeRun
import Derived.Laws.RangeAny
import Derived.Laws.Runes
import Derived.Lib.AppendZeros
set_option linter.all false
set_option maxRecDepth 100000
open Go.IntKind renaming wrap→ZU
namespace Go.aq
open Go
def ar{n P:Type}[BEq n](b:List (n×P))(a:n):Option P:=match b with
 |[]=>none
 |(c,d)::e=>if a==c then some d else ar e a
def aI{n a:Type}[BEq n](e:List (n×a))(P:n)(b:a):List (n×a):=match e with
 |[]=>[(P,b)]
 |(c,f)::d=>if P==c then(P,b)::d else(c,f)::aI d P b
def bN{n P:Type}[BEq n](d:List (n×P))(a:n):List (n×P):=match d with
 |[]=>[]
 |(b,e)::c=>if a==b then c else(b,e)::bN c a
variable{e7:Array MapEntry}{a c:Nat}{h:Program}{L j:Type}{e6:TypeDesc}{C c2 f7 g r:TypeId}{e8:TypeInfo}{d2 x:Value}{q u:L1}{b k:World}{z:UV}
def bB[BEq j][LawfulBEq j](d:List (j×L))(P n:j)(f:L):ar (aI d P f) n=if n==P then some f else ar d n:=by
 induction d with
 |nil=>simp[aI,ar]
 |cons g k h=>
  obtain⟨b,l⟩:=g;unfold aI
  by_cases a:P==b
  ·rw[Zx a]
   have e:P=b:=by simpa using a
   subst e;unfold ar;split<;>rfl
  ·rw[Zq a]
   unfold ar
   by_cases c:n==b
   ·rw[Zx c]
    have e:n=b:=by simpa using c
    subst e;have:(n==P)=false:=by
     cases i:n==P
     ·rfl
     ·exfalso;apply a;have:n=P:=by simpa using i
      simp[this]
    rw[this];simp[ar,a]
   ·rw[Zq c];rw[h];simp[ar,c]
def Tidy{n P:Type}(a:List (n×P)):Prop:=(a.map (·.1)).Nodup
def Sj[BEq j][LawfulBEq j]{P:List (j×L)}{n:j}{c:L}{a:j}:a∈(aI P n c).map (·.1)↔a=n\/a∈P.map (·.1):=by
 induction P with
 |nil=>simp[aI]
 |cons d g e=>
  obtain⟨b,i⟩:=d;unfold aI
  by_cases h:n==b
  ·rw[Zx h]
   have f:n=b:=by simpa using h
   subst f;simp
  ·rw[Zq h]
   simp only[QY,Q2,e];constructor
   ·rintro(h|h|h)<;>simp[h]
   ·rintro(h|h|h)<;>simp[h]
def Tidy.aI{n e:Type}[BEq n][LawfulBEq n]{b:List (n×e)}(P:Tidy b)(c:n)(g:e):Tidy (aI b c g):=by
 unfold Tidy at*
 induction b with
 |nil=>simp[aq.aI]
 |cons h k i=>
  obtain⟨f,l⟩:=h;simp only[QY,List.nodup_cons]at P;unfold aq.aI
  by_cases a:c==f
  ·rw[Zx a]
   have j:c=f:=by simpa using a
   subst j;simpa using P
  ·rw[Zq a]
   simp only[QY,List.nodup_cons];refine⟨λd=>?_,i P.2⟩;rcases Sj.1 d with rfl|d
   ·simp at a
   ·exact P.1 d
def Sk[BEq j][LawfulBEq j]{P:List (j×L)}{b a:j}(n:a∈(bN P b).map (·.1)):a∈P.map (·.1):=by
 induction P with
 |nil=>simp[bN]at n
 |cons c e d=>
  obtain⟨f,g⟩:=c;unfold bN at n;split at n
  ·simp only[QY,Q2];exact .inr n
  ·simp only[QY,Q2]at n⊢
   rcases n with n|n
   ·exact .inl n
   ·exact .inr (d n)
def Tidy.bN{n b:Type}[BEq n][LawfulBEq n]{a:List (n×b)}(P:Tidy a)(c:n):Tidy (bN a c):=by
 unfold Tidy at*
 induction a with
 |nil=>simp[aq.bN]
 |cons d g e=>
  obtain⟨h,i⟩:=d;simp only[QY,List.nodup_cons]at P;unfold aq.bN;split
  ·exact P.2
  ·simp only[QY,List.nodup_cons]
   exact⟨λf=>P.1 (Sk f),e P.2⟩
def jE[BEq j][LawfulBEq j]{a:List (j×L)}{n:j}:ar a n=none↔n∉a.map (·.1):=by
 induction a with
 |nil=>simp[ar]
 |cons c f d=>
  obtain⟨b,g⟩:=c;unfold ar
  by_cases P:n==b
  ·have e:n=b:=by simpa using P
   rw[Zx P];subst e;simp
  ·rw[Zq P,d]
   have:n≠b:=by rintro rfl;simp at P
   simp[this]
def fZ[BEq j][LawfulBEq j]{b:List (j×L)}(g:Tidy b)(P n:j):ar (bN b P) n=if n==P then none else ar b n:=by
 induction b with
 |nil=>simp[bN,ar]
 |cons h l i=>
  obtain⟨c,m⟩:=h;have e:=g;simp only[Tidy,QY,List.nodup_cons]at e;unfold bN
  by_cases d:P==c
  ·rw[Zx d]
   have f:P=c:=by simpa using d
   subst f
   by_cases a:n==P
   ·have:n=P:=by simpa using a
    subst this;simp only[beq_self_eq_true,if_true];exact jE.2 e.1
   ·rw[Zq a]
    simp[ar,a]
  ·rw[Zq d]
   unfold ar
   by_cases a:n==c
   ·have f:n=c:=by simpa using a
    subst f;have:(n==P)=false:=by
     cases k:n==P
     ·rfl
     ·exfalso;apply d;have:n=P:=by simpa using k
      simp[this]
    simp[this]
   ·rw[Zq a,Zq a];exact i e.2
def cm[BEq j][LawfulBEq j]{P:List (j×L)}{a:j}{b:L}(n:ar P a=some b):(a,b)∈P:=by
 induction P with
 |nil=>simp[ar]at n
 |cons c h d=>
  obtain⟨e,i⟩:=c;unfold ar at n;split at n
  ·rename_i f
   have g:a=e:=by simpa using f
   subst g
   cases n
   simp
  ·exact QJ _ (d n)
def fB[BEq j][LawfulBEq j]{n:List (j×L)}{a:j}{b:L}{P:j×L}(h:P∈aI n a b):P=(a,b)\/P∈n:=by
 induction n with
 |nil=>simpa[aI]using h
 |cons c e d=>
  obtain⟨f,g⟩:=c;unfold aI at h;split at h
  ·rcases Q2.1 h with h|h
   ·exact .inl h
   ·exact .inr (QJ _ h)
  ·rcases Q2.1 h with h|h
   ·exact .inr (h▸QV ..)
   ·rcases d h with h|h
    ·exact .inl h
    ·exact .inr (QJ _ h)
def gK[BEq j][LawfulBEq j]{n:List (j×L)}{a:j}{P:j×L}(h:P∈bN n a):P∈n:=by
 induction n with
 |nil=>simp[bN]at h
 |cons b d c=>
  obtain⟨e,f⟩:=b;unfold bN at h;split at h
  ·exact QJ _ h
  ·rcases Q2.1 h with h|h
   ·exact h▸QV ..
   ·exact QJ _ (c h)
def rm[BEq j][LawfulBEq j]{n:List (j×L)}(a:Tidy n){k:j}{v:L}(b:(k,v)∈n):ar n k=some v:=by
 induction n with
 |nil=>cases b
 |cons c g d=>
  obtain⟨e,h⟩:=c;simp only[Tidy,QY,List.nodup_cons]at a;unfold ar;rcases Q2.1 b with P|P
  ·cases P;simp
  ·have:k≠e:=by
    intro f;exact a.1 (Xk.2 ⟨(k,v),P,f⟩)
   rw[Zq (by simpa using this)];exact d a.2 P
def yp[BEq j](n:List (j×L))(P:j)(a:L):(aI n P a).length<=n.length+1:=by
 induction n with
 |nil=>simp[aI]
 |cons b c d=>
  unfold aI;split
  ·simp
  ·simp;omega
def IU[BEq j](n:List (j×L))(P:j):(bN n P).length<=n.length:=by
 induction n with
 |nil=>simp[bN]
 |cons a b c=>
  unfold bN;split
  ·simp
  ·simp;omega
def fF{n P a:Type}(b:P->a->Prop):List (n×P)->List (n×a)->Prop
 |[],[]=>True
 |(c,d)::e,(f,g)::h=>c=f/\b d g/\fF b e h
 |_,_=>False
def fF.keys{a b c:Type}{e:b->c->Prop}:∀{n:List (a×b)} {P:List (a×c)},fF e n P->n.map (·.1)=P.map (·.1)
 |[],[],_=>rfl
 |(f,g)::n,(h,i)::P,d=>by simp[d.1,fF.keys d.2.2]
def fF.mono{d e f:Type}{g h:e->f->Prop}:∀{n:List (d×e)} {P:List (d×f)},fF g n P->(∀a b,g a b->h a b)->fF h n P
 |[],[],_,_=>trivial
 |(j,a)::n,(k,b)::P,c,i=>⟨c.1,i _ _ c.2.1,fF.mono c.2.2 i⟩
def fF.ar{P e f:Type}[BEq P]{g:e->f->Prop}(n:P):∀{a:List (P×e)} {b:List (P×f)},fF g a b->
  (aq.ar a n=none/\aq.ar b n=none)\/∃c d,aq.ar a n=some c/\aq.ar b n=some d/\g c d
 |[],[],_=>.inl ⟨rfl,rfl⟩
 |(i,c)::a,(m,d)::b,j=>by
  obtain⟨rfl,k,l⟩:=j;unfold aq.ar
  by_cases h:n==i
  ·simp only[h,if_true];exact .inr ⟨c,d,rfl,rfl,k⟩
  ·simp only[h];exact fF.ar n l
def fF.aI{n P a:Type}[BEq n]{R:P->a->Prop}{b:n}{f:P}{g:a}(c:R f g):∀{d:List (n×P)} {e:List (n×a)},fF R d e->fF R (aq.aI d b f) (aq.aI e b g)
 |[],[],_=>⟨rfl,c,trivial⟩
 |(j,m)::d,(o,p)::e,k=>by
  obtain⟨rfl,l,h⟩:=k;unfold aq.aI
  by_cases i:b==j
  ·simp only[i,if_true];exact⟨rfl,c,h⟩
  ·simp only[i];exact⟨rfl,l,fF.aI c h⟩
def fF.bN{n c d:Type}[BEq n]{e:c->d->Prop}{P:n}:∀{a:List (n×c)} {b:List (n×d)},fF e a b->fF e (aq.bN a P) (aq.bN b P)
 |[],[],_=>trivial
 |(h,k)::a,(l,m)::b,i=>by
  obtain⟨rfl,j,f⟩:=i;unfold aq.bN
  by_cases g:P==h
  ·simp only[g,if_true];exact f
  ·simp only[g];exact⟨rfl,j,fF.bN f⟩
def fF.length{n P a:Type}{d:P->a->Prop}{b:List (n×P)}{c:List (n×a)}(e:fF d b c):b.length=c.length:=by
 have:=Zj List.length e.keys;simpa using this
structure bR {κ:Type} (w:World) (r:Nat) (enc:κ->Value) (l:List (κ×Value)):Prop where
 at':∃es clock,w.heap[r]? =some (.map es clock)/\es.toList.map (λe=>(e.key,e.val))=l.map (λp=>(enc p.1,p.2))/\
  (∀e∈es.toList,e.born<clock)/\(es.toList.map (·.born)).Nodup
 tidy:Tidy l
def bR.keep{S:LL}{P:j->Value}{d:List (j×Value)}(e:bR b a P d)(f:aj S b k)(g:¬S a):bR k a P d:=by
 obtain⟨h,n,i,c⟩:=e.at';exact⟨⟨h,n,f.get i g,c⟩,e.tidy⟩
def bR.af{n:j->Value}{P:List (j×Value)}(c:bR b a n P)(d:ai b k):bR k a n P:=c.keep d id
def bR.lt{n:j->Value}{d:List (j×Value)}(e:bR b a n d):a<b.heap.size:=by
 obtain⟨g,P,f,c⟩:=e.at';exact aA f
def bR.new{n:j->Value}(P:b.heap[a]? =some (.map #[] 0)):bR b a n ([]:List (j×Value)):=
 ⟨⟨_,_,P,rfl,sM,sM⟩,by simp[Tidy]⟩
def m_{n:Type}[BEq n](b:List (n×Value))(P:n)(a:Nat):Option (Nat×Value):=match b with
 |[]=>none
 |(c,d)::e=>if P==c then some (a,d)else m_ e P (a+1)
def Cx{a:Type}[BEq a][LawfulBEq a]{n:a->Value}{g:TypeDesc}(h:∀i j,Instr.sameNow g (n i) (n j)=some (i==j))(b:a):
  ∀(c:List MapEntry) (d:List (a×Value)) (f:Nat),c.map (λe=>(e.key,e.val))=d.map (λk=>(n k.1,k.2))->Instr.findNow g (n b) c f=some (m_ d b f)
 |[],[],_,_=>rfl
 |[],_::_,_,P=>by simp at P
 |_::_,[],_,P=>by simp at P
 |e::c,(l,q)::d,f,P=>by
  simp only[QY,List.cons.injEq,Prod.mk.injEq]at P;obtain⟨⟨m,o⟩,p⟩:=P;unfold Instr.findNow m_;rw[m,h]
  cases r:b==l
  ·simp only[Bool.false_eq_true,if_false]
   exact Cx h b c d (f+1) p
  ·simp[o]
def Hj[BEq j]{n:j->Value}(a:∀b c,Instr.sameNow e6 (n b) (n c)=none)(d:j)(P:MapEntry)(e:List MapEntry)(f:j)(g:P.key=n f)(h:Nat):Instr.findNow e6 (n d) (P::e) h=none:=by
 unfold Instr.findNow;rw[g,a]
def tG{a:Type}[BEq a]{h:Program}{i:TypeId}{n:a->Value}{b:World}(j:∀k l,(Op.equal i (n k) (n l)).run h b= .ok (k==l) b)(c:a):
  ∀(d:List MapEntry) (f:List (a×Value)) (g:Nat),d.map (λe=>(e.key,e.val))=f.map (λm=>(n m.1,m.2))->(Instr.findAsking i (n c) d g).run h b= .ok (m_ f c g) b
 |[],[],_,_=>rfl
 |[],_::_,_,P=>by simp at P
 |_::_,[],_,P=>by simp at P
 |e::d,(o,s)::f,g,P=>by
  simp only[QY,List.cons.injEq,Prod.mk.injEq]at P;obtain⟨⟨p,q⟩,r⟩:=P;unfold Instr.findAsking m_;rw[p];simp only[Sem.run_bind,j,Result.andThen_ok]
  cases t:c==o
  ·simpa using tG j c d f (g+1) r
  ·simp[q]
structure jh {κ:Type} [BEq κ] (P:Program) (kt:TypeId) (enc:κ->Value):Prop where
 find:∀(k:κ) (es:List MapEntry) (l:List (κ×Value)) (w:World),es.map (λe=>(e.key,e.val))=l.map (λp=>(enc p.1,p.2))->(Instr.findKey kt (enc k) es).run P w= .ok (m_ l k 0) w
 check:∀k w e,(Instr.checkKey e 10000 kt (enc k)).run P w= .ok () w
 same:∀n a,Instr.sameBits (n+1) (enc a) (enc a)=true
 inj:∀{a b},enc a=enc b->a=b
def jh.flat[BEq j][LawfulBEq j]{n:j->Value}(l:h.underlying g=some e6)(f:∀P a,Instr.sameNow e6 (n P) (n a)=some (P==a))(m:∀i b c d,(Instr.checkKey d (i+1) g (n b)).run h c= .ok () c)(e:∀i P,Instr.sameBits (i+1) (n P) (n P)=true):jh h g n:=
 ⟨λb o p c q=>by simp[Instr.findKey,run_underlying l,Cx f b o p 0 q],λb c d=>m 9999 b c d,e,λ{P a} d=>by
  have k:=f P a;rw[d,f a a]at k;simpa using k.symm⟩
def jh.struct[BEq j]{n:j->Value}(o:h.underlying g=some e6)(q:∀P a,Instr.sameNow e6 (n P) (n a)=none)(r:∀P a b,(Op.equal g (n P) (n a)).run h b= .ok (P==a) b)(s:∀e b f,(Instr.checkKey f 10000 g (n e)).run h b= .ok () b)(c:∀t P,Instr.sameBits (t+1) (n P) (n P)=true)(l:∀{P a},n P=n a->P=a):jh h g n:=by
 refine⟨λe i d b k=>?_,s,c,l⟩
 cases i with
 |nil=>
  cases d with
  |nil=>simp[Instr.findKey,run_underlying o,Instr.findNow,m_]
  |cons m d=>simp at k
 |cons f i=>
  cases d with
  |nil=>simp at k
  |cons m d=>
   have p:=k;simp only[QY,List.cons.injEq,Prod.mk.injEq]at p;simp only[Instr.findKey,Sem.run_bind,run_underlying o,Result.andThen_ok,Hj q e f i m.1 p.1.1];exact tG (λP a=>r P a b) e (f::i) (m::d) 0 k
def ye[BEq j][LawfulBEq j](P:List (j×Value))(a:j):∀n,(m_ P a n).map (·.2)=ar P a:=by
 induction P with
 |nil=>intro n;rfl
 |cons b d c=>
  intro n;obtain⟨e,f⟩:=b;unfold m_ ar;split
  ·rfl
  ·exact c (n+1)
def kh[BEq j][LawfulBEq j]{n:j->Value}(f:jh h g n)(P:j)(a:List MapEntry)(b:List (j×Value))(i:a.map (λd=>(d.key,d.val))=b.map (λe=>(n e.1,e.2)))(c:World):
  (Instr.findKey g (n P) a).run h c= .ok (m_ b P 0) c:=by
 exact f.find P a b c i
def dI(n:b.heap[a]? =some (.map e7 c)):(getObj a).run h b= .ok (.map e7 c) b:=by
 simp[getObj,Sem.run,n]
def dP[BEq j][LawfulBEq j]{n:j->Value}(c:jh h g n)(a:Bool)(b:j)(P:World):(Instr.checkKey a 10000 g (n b)).run h P= .ok () P:=by
 exact c.check b P a
def DX(P:h.info? g=some e8)(a:e8.zero=some x)(n:World):(zeroValue g).run h n= .ok x n:=by
 simp[zeroValue,typeInfo,P,a]
structure mE (P:Program) (t kt vt:TypeId) (z:Value):Prop where
 under:P.underlying t=some (.map kt vt)
 zero:(P.info? vt).bind (·.zero)=some z
def mE.NA(b:mE h g r C x)(P:World):(zeroValue C).run h P= .ok x P:=by
 have n:=b.zero
 cases a:h.info? C with
 |none=>rw[a]at n;cases n
 |some c=>rw[a]at n;exact DX a n P
def eI[BEq j][LawfulBEq j]{n:j->Value}(i:mE h g r C x)(k:jh h r n){P:List (j×Value)}(m:bR b a n P)(c:j)(e:Bool):
  (Instr.lookup g (.map (some a)) (n c) e).run h b= .ok (if e then .tuple #[(ar P c).getD x,.bool (ar P c).isSome]else(ar P c).getD x) b:=by
 obtain⟨o,f,p,q,_⟩:=m.at';have s:=kh k c o.toList P q b;have d:=ye P c 0;simp only[Instr.lookup,Sem.run_bind,run_underlying i.under,Result.andThen_ok,dI p,dP k,s,Sem.run_pure]
 cases l:m_ P c 0 with
 |none=>rw[l]at d;simp only[Option.map_none]at d;rw[<-d];cases e<;>simp[i.NA]
 |some t=>rw[l]at d;simp only[Option.map_some]at d;rw[<-d];cases e<;>simp
def As[BEq j][LawfulBEq j]{n:j->Value}(d:mE h g r C x)(e:jh h r n){c:List (j×Value)}(f:bR b a n c){P:j}(i:q ((ar c P).getD x) b):aJ h (Instr.lookup g (.map (some a)) (n P) false) b q u:=aJ.mk (eI d e f P false) i
def jA[BEq j][LawfulBEq j]{enc:j->Value}(P:mE h g r C x)(c:jh h r enc){n:List (j×Value)}(d:bR b a enc n){k:j}(e:q (.tuple #[(ar n k).getD x,.bool (ar n k).isSome]) b):aJ h (Instr.lookup g (.map (some a)) (enc k) true) b q u:=aJ.mk (eI P c d k true) e
def aj.setObj(n:World)(P:Nat)(a:Obj):aj (·=P) n {n with heap:=n.heap.setIfInBounds P a}:=
 ⟨rfl,rfl,rfl,sM,λc d b=>by simp[Array.getElem?_setIfInBounds,Ne.symm b]⟩
def ot[BEq j][LawfulBEq j]{a:List (j×Value)}{b:j}:∀{n P:Nat} {e:Value},m_ a b n=some (P,e)->n<=P/\P-n<a.length/\a[P-n]? =some (b,e)/\∀g,aI a b g=a.set (P-n) (b,g)/\bN a b=a.eraseIdx (P-n):=by
 induction a with
 |nil=>intro n P e c;simp[m_]at c
 |cons l v m=>
  intro n P e c;obtain⟨o,g⟩:=l;unfold m_ at c;split at c
  ·rename_i f
   cases c
   have p:b=o:=by simpa using f
   subst p;simp[aI,bN]
  ·rename_i f
   obtain⟨w,h,i,k⟩:=m c;obtain⟨d,rfl⟩:∃d,P=n+1+d:=⟨P-(n+1),oM⟩
   have q:n+1+d-n=d+1:=oM
   have r:n+1+d-(n+1)=d:=oM
   rw[r]at h i k;rw[q];refine⟨oM,by simpa using h,by simpa using i,λs=>?_⟩;obtain⟨t,u⟩:=k s;unfold aI bN;rw[Zq f,Zq f];simp[t,u]
def sw[BEq j][LawfulBEq j]{n:List (j×Value)}{P:j}:∀{b:Nat},m_ n P b=none->(∀c,aI n P c=n++[(P,c)])/\bN n P=n:=by
 induction n with
 |nil=>intro b _;simp[aI,bN]
 |cons e i f=>
  intro b a;obtain⟨k,c⟩:=e;unfold m_ at a;split at a
  ·cases a
  ·rename_i d
   obtain⟨g,h⟩:=f a;refine⟨λl=>?_,?_⟩
   ·unfold aI;rw[Zq d,g];rfl
   ·unfold bN;rw[Zq d,h]
def map_eraseIdx{b c:Type}(a:b->c):∀(n:List b) (P:Nat),(n.eraseIdx P).map a=(n.map a).eraseIdx P
 |[],_=>by simp
 |x::n,0=>rfl
 |x::n,P+1=>by simp[map_eraseIdx a n P]
def cT(n:World)(P:Nat)(a:Obj)(b:P<n.heap.size):({n with heap:=n.heap.setIfInBounds P a}:World).heap[P]? =some a:=by simp[b]
def eJ(P:b.heap[a]? =some (.map e7 c))(n:Obj):(setObj a n).run h b= .ok () {b with heap:=b.heap.setIfInBounds a n}:=by
 simp[setObj,Sem.run,P]
def dz[BEq j][LawfulBEq j]{enc:j->Value}(F:mE h g r C x)(s:jh h r enc){m:List (j×Value)}(w:bR b a enc m){k:j}(H:∀t,bR t a enc (aI m k d2)->aj (·=a) b t->t.heap.size=b.heap.size->z t):jY h (Instr.mapUpdate g (.map (some a)) (enc k) d2) b z q:=by
 obtain⟨c,n,o,p,y,I⟩:=w.at';have u:=kh s k c.toList m p b;have N:c.toList.length=m.length:=by have:=Zj List.length p;simpa using this
 have J:=aA o
 cases v:m_ m k 0 with
 |none=>
  rw[v]at u;refine jY.mk (w':={b with heap:=b.heap.setIfInBounds a (.map (c.push {key:=enc k,val:=d2,born:=n}) (n+1))}) ?_ (H _ ⟨⟨_,_,cT b a _ J,?_,?_,?_⟩,w.tidy.aI k d2⟩ (aj.setObj b a _) sM)
  ·simp[Instr.mapUpdate,run_underlying F.under,dI o,dP s,u,eJ o]
  ·rw[(sw v).1 d2];simp[p]
  ·intro e d
   simp only[Array.toList_push,Q6,List.mem_singleton]at d;rcases d with d|rfl
   ·have:=y e d;omega
   ·show n<n+1;omega
  ·simp only[Array.toList_push,Q3,QY,List.map_nil]
   rw[List.nodup_append];refine⟨I,sM,?_⟩;intro V O W A X;simp only[List.mem_singleton]at A;obtain⟨e,d,rfl⟩:=Xk.1 O;have:=y e d;omega
 |some Q=>
  obtain⟨f,Y⟩:=Q;rw[v]at u;obtain⟨_,K,L,M⟩:=ot v;rw[Nat.sub_zero]at K L M;have B:f<c.size:=by
                 have:c.size=m.length:=by simpa using N
                 omega
  have R:c[f].key=enc k:=by
   have:=Zj (·[f]?) p;simp only[Q9,L,Option.map_some]at this;simp[B]at this;exact this.1
  refine jY.mk (w':={b with heap:=b.heap.setIfInBounds a (.map (c.modify f λe=>{e with key:=enc k,val:=d2}) n)}) ?_ (H _ ⟨⟨_,_,cT b a _ J,?_,?_,?_⟩,w.tidy.aI k d2⟩ (aj.setObj b a _) sM)
  ·have S:(Instr.keyThatStays (enc k) (enc k)).run h b= .ok (enc k) b:=by simp[Instr.keyThatStays,s.same]
   simp[Instr.mapUpdate,run_underlying F.under,dI o,dP s,u,B,R,S,eJ o]
  ·rw[(M d2).1]
   apply X3;intro i;have P:=Zj (·[i]?) p;simp only[Q9]at P;simp only[Array.toList_modify,Q9,Xj,List.getElem?_modify]
   by_cases l:f=i
   ·subst l
    simp[B,K]
   ·simp only[l,if_false,Option.map_map]at P⊢
    simpa using P
  ·intro e d
   rw[Array.toList_modify]at d;obtain⟨i,P⟩:=List.getElem?_of_mem d;rw[List.getElem?_modify]at P
   cases E:c.toList[i]? with
   |none=>rw[E]at P;simp at P
   |some T=>
    rw[E]at P;have U:=QZ E;have:=y T U
    by_cases l:f=i
    ·simp[l]at P;subst P;exact this
    ·simp[l]at P;subst P;exact this
  ·have:(c.modify f λe=>{e with key:=enc k,val:=d2}).toList.map (·.born)=c.toList.map (·.born):=by
    apply X3;intro i;simp only[Array.toList_modify,Q9,List.getElem?_modify,Option.map_map]
    by_cases l:f=i<;>simp[l]<;>rfl
   rw[this];exact I
def LJ[BEq j][LawfulBEq j]{c:j->Value}(v:mE h g r C x)(p:jh h r c){e:List (j×Value)}(s:bR b a c e){f:j}(w:∀k,bR k a c (bN e f)->aj (·=a) b k->k.heap.size=b.heap.size->q (.tuple #[]) k):aJ h (Builtin.delete_ #[g,c2] f7 #[.map (some a),c f]) b q u:=by
 obtain⟨n,P,i,l,y,z⟩:=s.at';have m:=kh p f n.toList e l b;have F:n.toList.length=e.length:=by have:=Zj List.length l;simpa using this
 have A:=aA i
 cases o:m_ e f 0 with
 |none=>
  rw[o]at m;refine aJ.mk (w':={b with heap:=b.heap.setIfInBounds a (.map n P)}) ?_ (w _ ⟨⟨_,_,cT b a _ A,?_,y,z⟩,s.tidy.bN f⟩ (aj.setObj b a _) sM)
  ·simp[Builtin.delete_,run_underlying v.under,dI i,dP p,m,eJ i]
  ·rw[(sw o).2];exact l
 |some H=>
  obtain⟨d,I⟩:=H;rw[o]at m;obtain⟨_,J,K,B⟩:=ot o;rw[Nat.sub_zero]at J K B;have t:d<n.size:=by
                 have:n.size=e.length:=by simpa using F
                 omega
  refine aJ.mk (w':={b with heap:=b.heap.setIfInBounds a (.map (n.eraseIdxIfInBounds d) P)}) ?_ (w _ ⟨⟨_,_,cT b a _ A,?_,?_,?_⟩,s.tidy.bN f⟩ (aj.setObj b a _) sM)
  ·simp[Builtin.delete_,run_underlying v.under,dI i,dP p,m,eJ i]
  ·rw[(B I).2]
   have:(n.eraseIdxIfInBounds d).toList=n.toList.eraseIdx d:=by simp[Array.eraseIdxIfInBounds,t]
   rw[this,map_eraseIdx,l,map_eraseIdx]
  ·intro L E
   have:(n.eraseIdxIfInBounds d).toList=n.toList.eraseIdx d:=by simp[Array.eraseIdxIfInBounds,t]
   rw[this]at E;exact y L (List.mem_of_mem_eraseIdx E)
  ·have:(n.eraseIdxIfInBounds d).toList=n.toList.eraseIdx d:=by simp[Array.eraseIdxIfInBounds,t]
   rw[this,map_eraseIdx];exact z.sublist (List.eraseIdx_sublist _ _)
def Jw[BEq j][LawfulBEq j]{P:j->Value}(e:mE h g r C x){f:List (j×Value)}(i:bR b a P f)(k:∀c,bR c a P ([]:List (j×Value))->aj (·=a) b c->c.heap.size=b.heap.size->q (.tuple #[]) c):aJ h (Builtin.clear_ #[g] c2 #[.map (some a)]) b q u:=by
 obtain⟨m,n,d,o,p,s⟩:=i.at';have l:=aA d;refine aJ.mk (w':={b with heap:=b.heap.setIfInBounds a (.map #[] n)}) ?_ (k _ ⟨⟨_,_,cT b a _ l,rfl,sM,sM⟩,by simp[Tidy]⟩ (aj.setObj b a _) sM);simp[Builtin.clear_,run_underlying e.under,dI d,eJ d]
def WE(n:h.underlying g=some (.int .i64)):jh h g (Value.int .i64):=
 jh.flat n (λP b=>by simp[Instr.sameNow]) (λa c d e=>by simp[Instr.checkKey,run_underlying n]) λa P=>by simp[Instr.sameBits]
end Go.aq
namespace Go.aq
open Go
instance:LawfulBEq ByteArray where
 eq_of_beq:=λ{a b} h=>ByteArray.ext (eq_of_beq (show(a.data==b.data)=true from h))
 rfl:=λ{a}=>show(a.data==a.data)=true from by simp
variable{y:ByteArray}{a:Nat}{h:Program}{g:TypeId}{x:Value}{q u:L1}
def YO(n:h.underlying g=some .string):jh h g Value.string:=
 jh.flat n (λP b=>rfl) (λa c d e=>by simp[Instr.checkKey,run_underlying n]) λa P=>by simp[Instr.sameBits]
structure cR {κ:Type} (w:World) (it r:Nat) (enc:κ->Value) (l left:List (κ×Value)):Prop where
 at':∃es clock since seen c0,w.heap[r]? =some (.map es clock)/\es.toList.map (λe=>(e.key,e.val))=l.map (λp=>(enc p.1,p.2))/\
  (∀e∈es.toList,e.born<clock)/\(es.toList.map (·.born)).Nodup/\w.heap[it]? =some (.mapIter (some r) since seen c0)/\(∀x∈es.toList,x.born<since)/\since<=c0/\since<=clock/\
  (leftOf es seen).toList.map (λe=>(e.key,e.val))=left.map (λp=>(enc p.1,p.2))
 tidy:Tidy l
structure Vl {κ:Type} (w:World) (it r:Nat) (enc:κ->Value) (k:κ) (v:Value):Prop where
 at':∃(es:Array MapEntry) (clock since:Nat) (seen:Array Nat) (e:MapEntry),w.heap[r]? =some (.map es clock)/\w.heap[it]? =some (.mapIter (some r) since (seen.push e.born) clock)/\e∈es.toList/\(es.toList.map (·.born)).Nodup/\e.key=enc k/\e.val=v
section
variable {κ:Type} {w w':World} {it r:Nat} {enc:κ->Value} {l left:List (κ×Value)} {S:LL}
def cR.keep(b:cR w it r enc l left)(c:aj S w w')(d:¬S it)(e:¬S r):cR w' it r enc l left:=by
 obtain⟨f,n,P,seen,g,h,i,j,k,m,a⟩:=b.at';exact⟨⟨f,n,P,seen,g,c.get h e,i,j,k,c.get m d,a⟩,b.tidy⟩
def cR.af(n:cR w it r enc l left)(P:ai w w'):cR w' it r enc l left:=n.keep P id id
def cR.map(a:cR w it r enc l left):bR w r enc l:=by
 obtain⟨c,n,P,seen,h,d,e,f,g,i,b⟩:=a.at';exact⟨⟨c,n,d,e,f,g⟩,a.tidy⟩
def cR.ne(c:cR w it r enc l left):it≠r:=by
 obtain⟨e,n,P,seen,f,d,g,h,i,a,b⟩:=c.at';rintro rfl;rw[d]at a;cases a
def cR.lt(b:cR w it r enc l left):it<w.heap.size:=by
 obtain⟨d,n,P,seen,e,f,g,h,i,c,a⟩:=b.at';exact aA c
def mapRange{P a b:TypeId}(j:mE h P a b x)(c:bR w r enc l)(k:∀w',cR w' w.heap.size r enc l l->ai w w'->w'.heap.size=w.heap.size+1->q (L2 w.heap.size) w'):aJ h (Instr.range P (.map (some r))) w q u:=by
 obtain⟨d,n,e,f,g,m⟩:=c.at';have i:ai w (w.alloc (.mapIter (some r) n #[] n)):=aj.alloc w _;refine aJ.mk (run_range_map w P a b r d n j.under e) (k _ ⟨⟨d,n,n,#[],n,i.get e id,f,g,m,heap_alloc_new w _,g,Q4 _,Q4 _,?_⟩,c.tidy⟩ i sM);rw[<-f]
 congr 2
 unfold leftOf;simp
def oe{P:Program}(p:cR w it r enc l left)(U:left=[]->q (.tuple #[.bool false]) w)(V:∀s t A B w',left=A++(s,t)::B->cR w' it r enc l (A++B)->Vl w' it r enc s t->aj (·=it) w w'->w'.heap.size=w.heap.size->q (.tuple #[.bool true,enc s,t]) w'):
  aJ P (Instr.next (L2 it) false g) w q u:=by
 have W:=p.ne;obtain⟨d,n,b,seen,C,E,X,Y,v,F,H,Z,I,k⟩:=p.at';rcases run_next_at (P:=P) w g it r b C seen d n F E H Z with⟨hz,x⟩|⟨c,J,f,K,x⟩
 ·refine aJ.mk x (U ?_)
  have:(leftOf d seen).toList=[]:=by rw[Array.eq_empty_of_size_eq_zero hz]
  rw[this]at k;simpa using k.symm
 ·have y:ai w f:=by rcases K with rfl|rfl;exact aj.refl _;exact aj.drewN w 1
  have b0:f.heap.size=w.heap.size:=by rcases K with rfl|rfl<;>rfl
  have a0:f.heap[it]? =some (.mapIter (some r) b seen C):=y.get F id;have b1:f.heap[r]? =some (.map d n):=y.get E id;have a1:=aA a0
  let o:=ChangeMaps.setBlock f it (.mapIter (some r) b (seen.push c.born) n)
  have L:aj (·=it) f o:=aj.setObj f it _;have M:o.heap[it]? =some (.mapIter (some r) b (seen.push c.born) n):=cT f it _ a1;have N:o.heap[r]? =some (.map d n):=L.get b1 (λc=>W c.symm);have a2:=mem_left J;obtain⟨a,h,O⟩:=List.getElem_of_mem J;have Q:a<left.length:=by have:=Zj List.length k;simp at this;simp at h;omega
  have R:(c.key,c.val)=(enc left[a].1,left[a].2):=by
   have:=Zj (λa3=>a3[a]?) k;simp only[Q9]at this;rw[Qq h,Qq Q,O]at this;simpa using this
  have a4:left=left.take a++(left[a].1,left[a].2)::left.drop (a+1):=by
   have:=(ZX a left).symm;rw[X4 Q]at this;exact this
  have a5:(leftOf d (seen.push c.born)).toList=(leftOf d seen).toList.eraseIdx a:=by
   have j:((leftOf d seen).toList.map (·.born)).Nodup:=by
    unfold leftOf;rw[Array.toList_filter];exact v.sublist (List.Sublist.map _ List.filter_sublist)
   have hf:(leftOf d (seen.push c.born)).toList=(leftOf d seen).toList.filter (λi=>i.born !=c.born):=by
    unfold leftOf;rw[Array.toList_filter,Array.toList_filter,List.filter_filter]
    congr 1
    funext i
    rw[contains_push]
    cases seen.contains i.born<;>cases hx:(i.born==c.born)<;>simp only[bne,hx]<;>rfl
   rw[hf];have z:∀(e:List MapEntry) (a:Nat) (h:a<e.length),(e.map (·.born)).Nodup->e.filter (λi=>i.born !=e[a].born)=e.eraseIdx a:=by
    intro e
    induction e with
    |nil=>intro a h;simp at h
    |cons i e ih=>
     intro a h j;simp only[QY,List.nodup_cons]at j
     cases a with
     |zero=>
      simp only[List.getElem_cons_zero,List.eraseIdx_zero,List.tail_cons];rw[List.filter_cons_of_neg sM];apply List.filter_eq_self.2;intro a6 hy;simp only[bne_iff_ne,ne_eq];intro c;exact j.1 (c▸Xk.2 ⟨a6,hy,rfl⟩)
     |succ a=>
      simp only[List.getElem_cons_succ,List.eraseIdx_cons_succ];have m:a<e.length:=by simpa using h
      rw[List.filter_cons_of_pos,ih a m j.2];simp only[bne_iff_ne,ne_eq];intro c;exact j.1 (c▸Xk.2 ⟨e[a],XY m,rfl⟩)
   have:=z _ a h j;rw[O]at this;exact this
  have S:c.key=enc left[a].1:=(Prod.mk.inj R).1;have T:c.val=left[a].2:=(Prod.mk.inj R).2;refine aJ.mk x ?_;rw[S,T];refine V left[a].1 left[a].2 (left.take a) (left.drop (a+1)) o a4 ⟨⟨d,n,b,seen.push c.born,n,N,X,Y,v,M,H,I,I,?_⟩,p.tidy⟩ ⟨d,n,b,seen,c,N,M,a2.1,v,S,T⟩ ((ai.keep y).then L) ?_
  ·rw[a5,map_eraseIdx,k,<-map_eraseIdx]
   congr 1
   rw[List.eraseIdx_eq_take_drop_succ]
  ·show(f.heap.setIfInBounds it _).size=_
   simp[b0]
def rq{a:κ}(b:Vl w it r enc a x)(c:q (.tuple #[enc a,x]) w):aJ h (Instr.entry (L2 it)) w q u:=by
 obtain⟨d,n,P,seen,e,f,g,i,j,k,l⟩:=b.at';refine aJ.mk (run_entry_at w it r P seen d n e g f i j) ?_;rw[k,l];exact c
def Ry[BEq κ][LawfulBEq κ]{F H W X Y:TypeId}{c:κ}(I:mE h F H W x)(s:jh h H enc)(t:cR w it r enc l left)(Z:c∉left.map (·.1))(J:∀w',cR w' it r enc (bN l c) left->aj (·=r) w w'->w'.heap.size=w.heap.size->q (.tuple #[]) w'):aJ h (Builtin.delete_ #[F,X] Y #[.map (some r),enc c]) w q u:=by
 have K:=t.ne;obtain⟨P,a,b,seen,L,i,j,M,N,O,Q,R,S,B⟩:=t.at';have v:=kh s c P.toList l j w;have a0:P.toList.length=l.length:=by have:=Zj List.length j;simpa using this
 have T:=aA i
 cases y:m_ l c 0 with
 |none=>
  rw[y]at v;refine aJ.mk (w':={w with heap:=w.heap.setIfInBounds r (.map P a)}) ?_ (J _ ⟨⟨_,_,b,seen,L,cT w r _ T,?_,M,N,(aj.setObj w r _).get O K,Q,R,S,B⟩,t.tidy.bN c⟩ (aj.setObj w r _) sM)
  ·simp[Builtin.delete_,run_underlying I.under,dI i,dP s,v,eJ i]
  ·rw[(sw y).2];exact j
 |some d=>
  obtain⟨n,a1⟩:=d;rw[y]at v;obtain⟨_,f,U,V⟩:=ot y;rw[Nat.sub_zero]at f U V;have k:n<P.size:=by
                 have:P.size=l.length:=by simpa using a0
                 omega
  have m:(P.eraseIdxIfInBounds n).toList=P.toList.eraseIdx n:=by simp[Array.eraseIdxIfInBounds,k]
  have a2:(P.toList[n]'(by simpa using k)).key=enc c:=by
   have:=Zj (λz=>z[n]?) j;simp only[Q9,U,Option.map_some]at this;rw[Qq (by simpa using k)]at this;simpa using(Prod.mk.inj (XJ this)).1
  have C:∀g∈(leftOf P seen).toList,g.key≠enc c:=by
   intro g hx o;have:(g.key,g.val)∈left.map (λd=>(enc d.1,d.2)):=by rw[<-B];exact Xk.2 ⟨g,hx,rfl⟩
   obtain⟨z,hq,a3⟩:=Xk.1 this;have a4:enc z.1=enc c:=(Prod.mk.inj a3).1.trans o;exact Z (Xk.2 ⟨z,hq,s.inj a4⟩)
  have a5:(leftOf (P.eraseIdxIfInBounds n) seen).toList=(leftOf P seen).toList:=by
   unfold leftOf at C⊢;rw[Array.toList_filter]at C;rw[Array.toList_filter,Array.toList_filter,m];have E:∀(e:List MapEntry) (d:MapEntry->Bool) (n:Nat) (f:n<e.length),d e[n]=false->(e.eraseIdx n).filter d=e.filter d:=by
    intro e d
    induction e with
    |nil=>intro n f;simp at f
    |cons g e ih=>
     intro n f A
     cases n with
     |zero=>
      simp only[List.getElem_cons_zero]at A;simp[A]
     |succ n=>
      simp only[List.getElem_cons_succ]at A;simp only[List.eraseIdx_cons_succ,List.filter_cons];rw[ih n (by simpa using f) A]
   refine E _ _ n (by simpa using k) ?_
   cases a6: !seen.contains (P.toList[n]'(by simpa using k)).born with
   |false=>rfl
   |true=>exact Zz a2 (C _ (List.mem_filter.2 ⟨XY _,a6⟩))
  refine aJ.mk (w':={w with heap:=w.heap.setIfInBounds r (.map (P.eraseIdxIfInBounds n) a)}) ?_ (J _ ⟨⟨_,_,b,seen,L,cT w r _ T,?_,?_,?_,(aj.setObj w r _).get O K,?_,R,S,?_⟩,t.tidy.bN c⟩ (aj.setObj w r _) sM)
  ·simp[Builtin.delete_,run_underlying I.under,dI i,dP s,v,eJ i]
  ·rw[(V a1).2,m,map_eraseIdx,j,map_eraseIdx]
  ·intro o p
   rw[m]at p;exact M o (List.mem_of_mem_eraseIdx p)
  ·rw[m,map_eraseIdx]
   exact N.sublist (List.eraseIdx_sublist _ _)
  ·intro o p
   rw[m]at p;exact Q o (List.mem_of_mem_eraseIdx p)
  ·rw[a5];exact B
def VJ{P a b c:TypeId}(d:mE h P a b x)(e:bR w r enc l)(f:q (ZT (l.length:Int)) w):aJ h (Builtin.len_ #[P] c #[.map (some r)]) w q u:=by
 obtain⟨g,n,i,j,_⟩:=e.at';have k:g.size=l.length:=by have:=Zj List.length j;simpa using this
 refine aJ.mk (v:=ZT (l.length:Int)) ?_ f;rw[<-k];simp[Builtin.len_,Builtin.lenOf,run_underlying d.under,dI i,goInt]
def Cc(n:h.underlying g=some .string)(P:∀w',w'.heap[w.heap.size]? =some (.stringIter y 0)->ai w w'->w'.heap.size=w.heap.size+1->q (L2 w.heap.size) w'):aJ h (Instr.range g (.string y)) w q u:=
 aJ.mk (run_range_string w g y n) (P _ (World.iter_heap w y 0) (aj.alloc w _) (by simp[World.iter]))
def GX(n:w.heap[it]? =some (.stringIter y a))(b:y.size<=a->q (.tuple #[.bool false]) w)(c:a<y.size->∀w',w'.heap[it]? =some (.stringIter y (a+(Utf8.decode y a).2))->aj (·=it) w w'->w'.heap.size=w.heap.size->q (.tuple #[.bool true,ZT (a:Int),.int .i32 ((Utf8.decode y a).1:Int)]) w'):
  aJ h (Instr.next (L2 it) true g) w q u:=by
 by_cases P:a<y.size
 ·refine aJ.mk (w':={w with heap:=w.heap.setIfInBounds it (.stringIter y (a+(Utf8.decode y a).2))}) ?_ (c P _ (cT w it _ (aA n)) (aj.setObj w it _) sM)
  simp[Instr.next,getObj,setObj,Sem.run,n,P,goInt]
 ·refine aJ.mk ?_ (b oM)
  simp[Instr.next,getObj,Sem.run,n,P]
end
end Go.aq
namespace Go.Proofs.YtjgjkeponbeekaaGreatDoor
open Go.aq
def eG(b:UInt8):Bool:=(97<=b&&b<=122)||(48<=b&&b<=57)||b==46
def cY(n:ByteArray):Bool:=decide (1<=n.size)&&decide (n.size<=16)&&n.data.toList.all eG
structure bT where
 bytes:List UInt8
 synced:Nat
 jK:Bool
 deriving DecidableEq
structure ak where
 most:Nat
 files:List (ByteArray×bT)
 jv:Bool
 left:Int
 dead:Bool
 deriving DecidableEq
def eV(n:List (ByteArray×bT)):Nat:=(n.map λP=>P.2.bytes.length).sum
def ak.used(D:ak):Nat:=eV D.files
structure ak.Ok (D:ak):Prop where
 most:D.most<=262144
 fits:D.used<=D.most
 many:D.files.length<=64
 tidy:Tidy D.files
 names:∀x∈D.files,cY x.1=true
 Td:∀x∈D.files,x.2.synced<=x.2.bytes.length
 BP:0<=D.left
 BQ:aM D.left
variable{Z o:Array Value}{J:Bool}{y:ByteArray}{f8:ByteArray×bT}{A:FuncId}{e:Int}{h0:List (ByteArray×bT)}{w:List UInt8}{a c:Nat}{f:LL}{d:ac}{L j:Type}{c3:UInt8}{b k:World}{z:UV}{W:bT}
def LG(h:f8∈h0):f8.2.bytes.length<=eV h0:=by
 unfold eV
 induction h0 with
 |nil=>cases h
 |cons P h0 n=>
  simp only[QY,List.sum_cons];rcases Q2.1 h with rfl|h
  ·omega
  ·have:=n h;omega
def ak.Ok.len{D:ak}(n:D.Ok)(P:f8∈D.files):f8.2.bytes.length<=262144:=by
 have:=LG P;have:=n.fits;have:=n.most;unfold ak.used at*;omega
structure eH (w:World) (q:Nat) (G:LL) (f:bT):Prop where
 body:∃a n cap F,w.heap[q]? =some (.cells #[.slice a n cap,ZT f.synced,.bool f.jK] 239 (0,0))/\aV gh 5 F w a n cap f.bytes/\(∀b,F b->G b)/\¬F q
 self:G q
 aE:∀b,G b->b<w.heap.size
def eH.keep{S G:LL}(P:eH b a G W)(c:aj S b k)(f:∀n,G n->¬S n):eH k a G W:=by
 obtain⟨h,i,d,j,l,m,g,o⟩:=P.body;exact⟨⟨h,i,d,j,c.get l (f _ P.self),m.keep c (λn e=>f n (g n e)),g,o⟩,P.self,λn e=>Qk (P.aE n e) c.size⟩
structure od where
 q:Nat
 G:LL
 f:bT
def ptr(n:Nat):Value:=L2 n
def eB(n:ByteArray×od):ByteArray×Value:=(n.1,ptr n.2.q)
def vO(n:ByteArray×od):ByteArray×bT:=(n.1,n.2.f)
structure EE (w:World) (L:List (ByteArray×od)):Prop where
 each:∀x∈L,eH w x.2.q x.2.G x.2.f
 apart:∀x∈L,∀y∈L,x.1≠y.1->∀b,x.2.G b->¬y.2.G b
 tidy:Tidy L
structure aU (w:World) (p:Nat) (F:LL) (D:ak):Prop where
 body:∃r L,w.heap[p]? =some (.cells #[ZT D.most,.map (some r),.bool D.jv,ZT D.left,.bool D.dead] 143 (0,0))/\bR w r Value.string (L.map eB)/\D.files=L.map vO/\EE w L/\
  (∀x∈L,∀b,x.2.G b->F b/\b≠p/\b≠r)/\F r/\p≠r
 self:F p
 aE:∀b,F b->b<w.heap.size
 ok:D.Ok
variable{a3:List (ByteArray×od)}
def EE.keep{S:LL}(P:EE b a3)(d:aj S b k)(e:∀n∈a3,∀a,n.2.G a->¬S a):EE k a3:=
 ⟨λn c=>(P.each n c).keep d (e n c),P.apart,P.tidy⟩
def aU.keep{S d:LL}{D:ak}(P:aU b a d D)(c:aj S b k)(e:∀n,d n->¬S n):aU k a d D:=by
 obtain⟨i,j,l,m,o,p,g,h,q⟩:=P.body;exact⟨⟨i,j,c.get l (e _ P.self),m.keep c (e _ h),o,p.keep c (λr s n f=>e n (g r s n f).1),g,h,q⟩,P.self,λn f=>Qk (P.aE n f) c.size,P.ok⟩
def aU.af{D:ak}(n:aU b a f D)(P:ai b k):aU k a f D:=n.keep P λ_ _ n=>n
def rl(a:j->L)(P:List (ByteArray×j))(b:ByteArray)(c:j):(aI P b c).map (λn=>(n.1,a n.2))=aI (P.map λn=>(n.1,a n.2)) b (a c):=by
 induction P with
 |nil=>rfl
 |cons d P e=>
  obtain⟨n,f⟩:=d;simp only[aI,QY];split
  ·rfl
  ·simp[e]
def BR(a:j->L)(P:List (ByteArray×j))(b:ByteArray):(bN P b).map (λn=>(n.1,a n.2))=bN (P.map λn=>(n.1,a n.2)) b:=by
 induction P with
 |nil=>rfl
 |cons c P d=>
  obtain⟨n,e⟩:=c;simp only[bN,QY];split
  ·rfl
  ·simp[d]
def BS(a:j->L)(n:List (ByteArray×j))(b:ByteArray):ar (n.map λP=>(P.1,a P.2)) b=(ar n b).map a:=by
 induction n with
 |nil=>rfl
 |cons c n d=>
  obtain⟨P,e⟩:=c;simp only[ar,QY];split
  ·rfl
  ·exact d
def gi{P:List (ByteArray×j)}(c:Tidy P){a:j}{n:ByteArray×j}(h:n∈aI P y a):n=(y,a)\/(n∈P/\n.1≠y):=by
 by_cases b:n.1=y
 ·left
  have:=rm (c.aI y a) (k:=n.1) (v:=n.2) h;rw[bB,b]at this;simp at this;exact Prod.ext b this.symm
 ·rcases fB h with rfl|h
  ·exact .inl rfl
  ·exact .inr ⟨h,b⟩
def GN{P:List (ByteArray×j)}(a:Tidy P){n:ByteArray×j}(b:n∈bN P y):n∈P/\n.1≠y:=by
 refine⟨gK b,λd=>?_⟩;have c:=rm (a.bN y) (k:=n.1) (v:=n.2) b;rw[fZ a,d]at c;simp at c
def yB{l:List (ByteArray×bT)}{k:ByteArray}{f:bT}:eV (aI l k f)+((ar l k).map λn=>n.bytes.length).getD 0=eV l+f.bytes.length:=by
 unfold eV
 induction l with
 |nil=>simp[aI,ar]
 |cons P l a=>
  obtain⟨b,c⟩:=P;simp only[aI,ar];split
  ·simp;omega
  ·simp only[QY,List.sum_cons]at a⊢;omega
def yC{l:List (ByteArray×bT)}{k:ByteArray}:eV (bN l k)+((ar l k).map λn=>n.bytes.length).getD 0=eV l:=by
 unfold eV
 induction l with
 |nil=>simp[bN,ar]
 |cons P l a=>
  obtain⟨b,c⟩:=P;simp only[bN,ar];split
  ·simp;omega
  ·simp only[QY,List.sum_cons]at a⊢;omega
def xO{n:List (ByteArray×j)}{a:j}(P:(ar n y).isSome=true):(aI n y a).length=n.length:=by
 induction n with
 |nil=>simp[ar]at P
 |cons b n c=>
  obtain⟨e,f⟩:=b;simp only[aI,ar]at P⊢;split
  ·rfl
  ·rename_i d
   rw[Zq d]at P;simp[c P]
def aU.head{D:ak}(P:aU b a f D):∃n,b.heap[a]? =some (.cells #[ZT D.most,.map (some n),.bool D.jv,ZT D.left,.bool D.dead] 143 (0,0)):=by
 obtain⟨n,d,c,_⟩:=P.body;exact⟨n,c⟩
def aU.LH{D n:ak}(c:aU b a f D)(d:aj (·=a) b k)(j:∀P,b.heap[a]? =some (.cells #[ZT D.most,.map (some P),.bool D.jv,ZT D.left,.bool D.dead] 143 (0,0))->k.heap[a]? =some (.cells #[ZT n.most,.map (some P),.bool n.jv,ZT n.left,.bool n.dead] 143 (0,0)))(l:n.files=D.files)(m:n.Ok):aU k a f n:=by
 obtain⟨P,o,p,q,r,s,h,t,i⟩:=c.body;exact⟨⟨P,o,j P p,q.keep d (λu=>i u.symm),l.trans r,s.keep d (λv w e g=>(h v w e g).2.1),h,t,i⟩,c.self,λe g=>Qk (c.aE e g) d.size,m⟩
def aU.Ar{D:ak}(n:aU b a f D)(c:∀P,aU P a f {D with dead:=J}->aj f b P->P.heap.size=b.heap.size->z P):PS b ⟨a,0+4,none⟩ (.bool J) z:=by
 obtain⟨k,d⟩:=n.head;refine PS.mk d sM λP e h i=>c P (n.LH e (λl g=>?_) rfl ⟨n.ok.most,n.ok.fits,n.ok.many,n.ok.tidy,n.ok.names,n.ok.Td,n.ok.BP,n.ok.BQ⟩) (e.mono λJ _ j=>j▸n.self) h;rw[d]at g;cases g;exact i
def aU.IS{D:ak}(n:aU b a f D)(c:∀P,aU P a f {D with jv:=J}->aj f b P->P.heap.size=b.heap.size->z P):PS b ⟨a,0+2,none⟩ (.bool J) z:=by
 obtain⟨k,d⟩:=n.head;refine PS.mk d sM λP e h i=>c P (n.LH e (λl g=>?_) rfl ⟨n.ok.most,n.ok.fits,n.ok.many,n.ok.tidy,n.ok.names,n.ok.Td,n.ok.BP,n.ok.BQ⟩) (e.mono λJ _ j=>j▸n.self) h;rw[d]at g;cases g;exact i
def aU.Nh{D:ak}(n:aU b a f D)(i:0<=e)(j:aM e)(c:∀P,aU P a f {D with left:=e}->aj f b P->P.heap.size=b.heap.size->z P):PS b ⟨a,0+3,none⟩ (ZT e) z:=by
 obtain⟨o,d⟩:=n.head;refine PS.mk d sM λP g k l=>c P (n.LH g (λp h=>?_) rfl ⟨n.ok.most,n.ok.fits,n.ok.many,n.ok.tidy,n.ok.names,n.ok.Td,i,j⟩) (g.mono λq _ m=>m▸n.self) k;rw[d]at h;cases h;exact l
def OI:am 42 #[ZT e] b (Ok λc a=>
  if e<64\/e>262144 then c= .tuple #[.pointer none,ZT 1]/\a=b
  else∃d f,c= .tuple #[L2 d,ZT 0]/\aU a d f ⟨e.toNat,[],false,0,false⟩/\ai b a/\∀n,f n->b.heap.size<=n):=by
 refine Iz (al.dec (λP=>?_) (λP=>al.dec (λg=>?_) (λg=>?_)))
 ·exact Ok.mk (by rw[Zx (.inl P)];exact⟨rfl,rfl⟩)
 ·exact Ok.mk (by rw[Zx (.inr g)];exact⟨rfl,rfl⟩)
 ·refine PA.mk λi j o k=>PA.mk λl h p m=>Ok.mk ?_
  rw[Zq oM];refine⟨i.heap.size,λn=>b.heap.size<=n/\n<l.heap.size,rfl,⟨⟨b.heap.size,[],?_,bR.new (h.get k id),rfl,⟨sM,sM,by simp[Tidy]⟩,sM,oM,oM⟩,oM,λn P=>P.2,?_⟩,j.af h,λn P=>P.1⟩
  ·rw[m]
   have:((e.toNat:Nat):Int)=e:=oM
   rw[this]
  ·exact⟨by show e.toNat<=_;omega,by simp[ak.used,eV],by simp,by simp[Tidy],by simp,by simp,by simp,by unfold aM;simp⟩
def ak.Gn(D:ak)(n:Int):ak:={D with jv:=true,left:=max n 0}
def OJ{D:ak}(k:aM e)(n:aU b a f D):am 91 #[L2 a,ZT e] b (Ok λd P=>d= .tuple #[]/\aU P a f (D.Gn e)/\cu f b f P):=by
 have g:(if e>0 then e else 0)=max e 0:=oM
 refine vm ⟨a,0,rfl,n.IS λl h i m=>⟨a,0,rfl,h.Nh oM (by unfold aM at*;omega) λo c j p=>Ok.mk ⟨rfl,?_,i.then j,λ_ n=>.inl n⟩⟩⟩;rw[g]at c;exact c
def ak.dies(D:ak):Bool:=D.dead||(D.jv&&D.left==0)
def ak.cQ(D:ak):ak:=if D.jv then{D with left:=D.left-1}else D
def ak.gone(D:ak):ak:={D with dead:=true}
def LI{D:ak}(k:aU b a f D){e:Int}{D':ak}(z:enters WP A=true)(E:D.dies=false->∀n,aU n a f D.cQ->aj f b n->n.heap.size=b.heap.size->am A (o++ #[]++Z) n (Ok λg c=>∃d,g= ZT e/\aU c a d D'/\cu f n d c)):
  am 233 #[L2 a,.func (.func A) o Z] b (Ok λg c=>∃d,g= ZT (if D.dies then 15 else e)/\aU c a d (if D.dies then D.gone else D')/\cu f b d c):=by
 obtain⟨L,v⟩:=k.head;have l:∀n,D.dies=true->aU n a f {D with dead:=true}->aj f b n->Ok (λg c=>∃d,g= ZT (if D.dies then 15 else e)/\aU c a d (if D.dies then D.gone else D')/\cu f b d c) (.returned (ZT 15)) n:=
  λn h P F=>Ok.mk ⟨f,by rw[h];rfl,by rw[h];exact P,F,λ_ k=>.inl k⟩
 refine uu ⟨λn=>aU n a f D/\aj f b n/\n.heap.size=b.heap.size/\D.dies=false,?_,?_⟩
 ·refine⟨a,0,rfl,_,ae v rfl,al.mk (λh=>⟨a,0,rfl,k.Ar λn P i q=>?_⟩) (λh=>⟨a,0,rfl,_,ae v rfl,al.mk (λm=>⟨a,0,rfl,_,ae v rfl,a,0,rfl,k.Ar λn P i q=>?_⟩) (λm=>⟨a,0,rfl,k.Ar λn P i q=>?_⟩)⟩)⟩
  ·obtain⟨w,p⟩:=P.head
   exact⟨a,0,rfl,true,ae p rfl,l n (by simp[ak.dies,h]) P i⟩
  ·obtain⟨w,p⟩:=P.head
   refine⟨a,0,rfl,D.left==0,ae p rfl,al.mk (λr=>l n (by unfold ak.dies;rw[m,r];simp) (by rw[r]at P;exact P) i) (λr=>⟨?_,i,q,by unfold ak.dies;rw[h,r];simp⟩)⟩;have:({D with dead:=D.left==0}:ak)=D:=by rw[r,<-h]
   rw[this]at P;exact P
  ·obtain⟨w,p⟩:=P.head
   refine⟨a,0,rfl,false,ae p rfl,?_,i,q,by simp[ak.dies,h,m]⟩;have:({D with dead:=false}:ak)=D:=by rw[<-h]
   rw[this]at P;exact P
 ·rintro M n ⟨P,i,q,t⟩
  obtain⟨w,p⟩:=P.head;have s:∀j,aU j a f D.cQ->aj f b j->j.heap.size=b.heap.size->PC WP A (o++ #[]++Z) j (λg c=>∃B:Int,g= ZT B/\Ok (λg c=>∃d,g= ZT (if D.dies then 15 else e)/\aU c a d (if D.dies then D.gone else D')/\cu f b d c) (.returned (ZT B)) c)
    (λH c=>Ok (λg c=>∃d,g= ZT (if D.dies then 15 else e)/\aU c a d (if D.dies then D.gone else D')/\cu f b d c) (.panicked H) c):=by
   intro j x u y;refine PC.ok (E t j x u y) ?_;rintro _ N ⟨d,rfl,I,J⟩;exact⟨e,rfl,Ok.mk ⟨d,by rw[t];rfl,by rw[t];exact I,(cu.mk u λ_ k=>.inl k:cu f b f j).trans J⟩⟩
  refine⟨a,0,rfl,_,ae p rfl,al.mk (λm=>?_) (λm=>?_)⟩
  ·have O:D.left≠0:=by
    intro C;simp[ak.dies,m,C]at t
   have C:=P.ok.BP;have Q:=P.ok.BQ;have K:ZU .i64 (D.left-1)=D.left-1:=wrap_i64 (by unfold aM at*;omega);refine⟨a,0,rfl,_,ae p rfl,a,0,rfl,?_⟩;rw[K];refine P.Nh oM (by unfold aM at*;omega) λj x u y=>⟨A,o,Z,rfl,z,s j ?_ (i.then u) (y.trans q)⟩
   unfold ak.cQ;rw[Zx m];exact x
  ·refine⟨A,o,Z,rfl,z,s n ?_ i q⟩
   unfold ak.cQ;rw[Zq (by simp[m])];exact P
def cs:ByteArray:=⟨#[97,98,99,100,101,102,103,104,105,106,107,108,109,110,111,112,113,114,115,116,117,118,119,120,121,122,48,49,50,51,52,53,54,55,56,57,46]⟩
def RR:∀n:UInt8,decide (0<=Lib.indexByte cs.data.toList n)=eG n:=by
 have a:(List.range 256).all (λP=>decide (0<=Lib.indexByte cs.data.toList (UInt8.ofNat P))==eG (UInt8.ofNat P))=true:=by decide+kernel
 intro n;have:=ZY.1 a n.toNat (List.mem_range.2 n.toNat_lt);simpa using this
def T_(a:128<=c3.toNat):eG c3=false:=by
 have n:(List.range 128).all (λP=>eG (UInt8.ofNat (128+P))==false)=true:=by decide+kernel
 have:=ZY.1 n (c3.toNat-128) (List.mem_range.2 (by have:=c3.toNat_lt;omega));rw[show 128+(c3.toNat-128)=c3.toNat by omega]at this;simpa using this
def Ca:∀n∈cs.data.toList,n.toNat<128:=by decide+kernel
def Ua:cs.size=37:=by decide+kernel
def strings_IndexByte{n:ByteArray}{P:Int}{a:World}:am 358 #[.string n,.int .u8 P] a (Ok λc b=>c= ZT (Lib.indexByte n.data.toList P.toNat.toUInt8)/\a=b):=
 (Any.strings_IndexByte Tryz.Ub n P a).mono λf b ⟨d,e⟩=>⟨_,d,rfl,e.symm⟩
def Cb:am 359 #[.int .i32 e] b (Ok λc d=>c= .bool (Utf8.valid e)/\b=d):=by
 have a:=validRune_eq e;unfold validRune at a;refine mS (al.dec (λf=>al.dec (λg=>?_) (λg=>al.dec (λn=>al.dec (λP=>?_) (λP=>?_)) (λn=>?_))) (λf=>al.dec (λn=>al.dec (λP=>?_) (λP=>?_)) (λn=>?_)))
 all_goals
  refine Ok.mk ⟨?_,rfl⟩;rw[a]
  congr 1
  simp;omega
def rC(n:a<y.size):y[a]? =some (y[a]'n):=by simp[n]
def tx:∀{l:List UInt8} {n:UInt8},(∀b∈l,b≠n)->Lib.indexByte l n= -1
 |[],_,_=>rfl
 |b::l,n,P=>by
  have a:(b==n)=false:=beq_false_of_ne (P b (QV ..));have c:=tx (l:=l) λd e=>P d (QJ _ e);unfold Lib.indexByte;rw[a,c];rfl
def rD(x:0<=e):
  am 326 #[.string cs,.int .i32 e] b (Ok λg n=>(∃a:Int,g= ZT a/\decide (a>=0)=(decide (e<128)&&eG e.toNat.toUInt8))/\ai b n):=by
 refine sJ ⟨λh n=>h=decide (e<128)/\n=b,al.dec (λ_=>⟨rfl,rfl⟩) (λd=>Zz x d),?_⟩;rintro Q o f ⟨rfl,rfl⟩;refine al.dec (λd=>PC.ok strings_IndexByte ?_) (λd=>al.eL (λy=>?_) (λy=>PC.ok Cb ?_))
 ·rintro _ _ ⟨rfl,rfl⟩
  refine⟨_,rfl,Ok.mk ⟨⟨_,rfl,?_⟩,aj.refl _⟩⟩;have z:ZU .u8 e=e:=by
   unfold ZU;simp[IntKind.signed,IntKind.bits];omega
  rw[z,Zy d,Bool.true_and];exact RR _
 ·have no:∀n,ai f n->Ok (λg n=>(∃a:Int,g= ZT a/\decide (a>=0)=(decide (e<128)&&eG e.toNat.toUInt8))/\ai f n) (.returned (ZT (-1))) n:=λn p=>
   Ok.mk ⟨⟨_,rfl,by rw[Xv d];rfl⟩,p⟩
  refine Cc Tryz.underlying9 λA B q R=>⟨λi n=>∃P,i=cs.size-P/\n.heap[f.heap.size]? =some (.stringIter cs P)/\ai f n,⟨_,0,rfl,B,q⟩,?_⟩
  rintro i o r ⟨P,rfl,C,s⟩;refine GX C (λ_=>.inl ⟨rfl,no r s⟩) λj E t F S=>.inr ⟨_,_,rfl,?_⟩;have k:(cs[P]'j).toNat<128:=Ca _ (by rw[show cs[P]'j=cs.data.toList[P]'(by simpa using j)from by simp;rfl];exact XY _);have H:=decode_ascii cs P j k;rw[H]at t⊢;refine al.eL (λd=>oM) (λ_=>⟨_,?_,P+1,rfl,t,s.new F λh k=>.inr oM⟩);omega
 ·have no:∀n,ai f n->Ok (λg n=>(∃a:Int,g= ZT a/\decide (a>=0)=(decide (e<128)&&eG e.toNat.toUInt8))/\ai f n) (.returned (ZT (-1))) n:=λn p=>
   Ok.mk ⟨⟨_,rfl,by rw[Xv d];rfl⟩,p⟩
  rintro _ _ ⟨rfl,rfl⟩;refine⟨_,rfl,al.not (al.mk (λI=>?_) (λ_=>no _ (aj.refl _)))⟩;obtain⟨J,K,u⟩:=encode_facts e I oM;refine aJ.mk (run_convert_int_string f _ _ .i32 e kR Tryz.underlying9) ⟨_,rfl,?_⟩;generalize Utf8.encode e=c at J K u⊢;have L:ZU .i64 (((c.size:Nat):Int)-1)=((c.size-1:Nat):Int):=by rw[wrap_i64 (by unfold aM;omega)];omega
  rw[L];refine⟨λi a n=>a=((c.size-1:Nat):Int)/\ai f n,⟨0,rfl,aj.refl _⟩,?_⟩;rintro i a o A ⟨rfl,q⟩;have T:=Ua;have l:c.size-1<c.size:=oM
  have m:c.size-1<cs.size:=oM
  have U:=u l;have V:(cs[c.size-1]'m).toNat<128:=Ca _ (by rw[show cs[c.size-1]'m=cs.data.toList[c.size-1]'(by simpa using m)from by simp;rfl];exact XY _);refine al.dec (λW=>⟨λ_ _=>False,?_,λa o b d=>d.elim⟩) (λX=>oM);simp only[Qx];rw[an oM];refine⟨oM,_,rC m,oM,_,rC l,λr M=>al.eM (λ_=>λE N=>⟨oM,oM,oM,_,rC l,PC.ok strings_IndexByte ?_⟩) (λv=>oM)⟩;rintro _ _ ⟨rfl,rfl⟩;have O:Lib.indexByte (cs.extract (Int.toNat ((c.size-1+1:Nat):Int)) cs.size).data.toList ((((c[c.size-1]'l).toNat:Nat):Int).toNat.toUInt8)= -1:=by
   refine tx λh k v=>?_;have w:=Ca h (mem_extract k);rw[v]at w;simp at w;omega
  refine⟨_,rfl,al.dec (λ_=>no _ ((q.af M.keep).af N.keep)) (λd=>?_)⟩;rw[O]at d;omega
def Cd(c:0<=e):
  am 289 #[.int .i32 e] b (Ok λn P=>n= .bool (!(decide (e<128)&&eG e.toNat.toUInt8))/\ai b P):=by
 refine xG (PC.ok (φ:=λn P=>n= .bool (decide (e<128)&&eG e.toNat.toUInt8)/\ai b P) (oT (PC.ok (rD c) ?_)) ?_)
 ·rintro _ d ⟨⟨f,rfl,g⟩,a⟩
  exact⟨f,rfl,Ok.mk ⟨by rw[g],a⟩⟩
 ·rintro _ d ⟨rfl,a⟩
  exact⟨_,rfl,Ok.mk ⟨rfl,a⟩⟩
def lW:
  am 291 #[.string y,.func (.func 289) #[] #[]] b (Ok λe d=>e= .bool (!y.data.toList.all eG)/\ai b d):=by
 have t:enters WP 289=true:=kR
 refine oU (PC.ok (φ:=λe d=>(∃a:Int,e= ZT a/\decide (a>=0)= !y.data.toList.all eG)/\ai b d) (sV (PC.ok (φ:=λe d=>(∃a:Int,e= ZT a/\decide (a>=0)= !y.data.toList.all eG)/\ai b d) (sW ?_) ?_)) ?_)
 ·refine Cc Tryz.underlying9 λE u v F=>⟨λo d=>∃n,o=y.size-n/\n<=y.size/\d.heap[b.heap.size]? =some (.stringIter y n)/\ai b d/\(∀g∈y.data.toList.take n,eG g=true),⟨_,0,rfl,Qj _,u,v,sM⟩,?_⟩
  rintro o H I ⟨n,rfl,J,w,p,h⟩;refine GX w (λx=>.inl ⟨rfl,Ok.mk ⟨⟨_,rfl,?_⟩,p⟩⟩) λc z q A K=>.inr ⟨_,_,rfl,_,_,_,rfl,t,?_⟩
  ·rw[Qz (by simpa using x)]at h
   have:y.data.toList.all eG=true:=ZY.2 h;rw[this];rfl
  ·have r:ai b z:=p.new A λg P=>.inr oM
   have s:y.data.toList[n]? =some (y[n]'c):=by
    rw[Qq (by simpa using c)];simp;rfl
   refine PC.ok (Cd (Int.natCast_nonneg _)) ?_;rintro _ L ⟨rfl,i⟩;refine⟨_,rfl,al.mk (λj=>?_) (λf=>?_)⟩
   ·
    refine Ok.mk ⟨⟨_,rfl,?_⟩,r.af i⟩;have k:eG (y[n]'c)=false:=by
     by_cases P:(y[n]'c).toNat<128
     ·rw[decode_ascii y n c P]at j
      simp at j;exact j.resolve_left oM
     ·exact T_ oM
    have:y.data.toList.all eG=false:=List.all_eq_false.2 ⟨_,QZ s,by simp[k]⟩;rw[this];simp
   ·have P:(y[n]'c).toNat<128:=by
     by_cases P:(y[n]'c).toNat<128
     ·exact P
     ·have M:=(decode_high y n c oM).1
      have B:¬(((Utf8.decode y n).1:Int)<128):=oM
      rw[Xv B]at f;simp at f
    rw[decode_ascii y n c P]at q f;have k:eG (y[n]'c)=true:=by
     simp at f;exact f.2
    refine⟨_,?_,n+1,rfl,oM,i.get q id,r.af i,λg P=>?_⟩
    ·omega
    ·rw[Qw,s]at P
     rcases Q6.1 P with P|P
     ·exact h g P
     ·simp at P;rw[P];exact k
 ·rintro _ C ⟨⟨a,rfl,l⟩,m⟩
  exact⟨a,rfl,Ok.mk ⟨⟨a,rfl,l⟩,m⟩⟩
 ·rintro _ C ⟨⟨a,rfl,l⟩,m⟩
  exact⟨a,rfl,Ok.mk ⟨by rw[l],m⟩⟩
def vR:am 235 #[.string y] b (Ok λP a=>P= .bool (cY y)/\ai b a):=by
 refine Bt (al.Zo (λn=>al.dec (λc=>PC.ok lW ?_) (λc=>Ok.mk ⟨?_,aj.refl _⟩)) (λn=>Ok.mk ⟨?_,aj.refl _⟩))
 ·rintro _ g ⟨rfl,d⟩
  refine⟨_,rfl,Ok.mk ⟨?_,d⟩⟩;have e:1<=y.size:=by
   by_cases f:y.size=0
   ·exact Zz (ByteArray.ext (Array.eq_empty_of_size_eq_zero f)) n
   ·omega
  unfold cY;rw[Zy e,Zy (show y.size<=16 by omega)];simp
 ·unfold cY
  rw[Xv (show¬y.size<=16 by omega)];simp
 ·subst n;rfl
def lF{D:LL}(h:Row gh 1 b D d a w)(f:∀n,D n->n<b.heap.size):
  am 207 #[.slice d a c] b (Ok (qD gh 5 b w)):=by
 have x:=h.len;have P:=h.fe;refine mR (kW tT.under ⟨_,rfl,al.mk (λe=>?_) (λe=>PA.mk λj g y k=>?_)⟩)
 ·have:w=[]:=by
   cases d with
   |none=>
    cases w with
    |nil=>rfl
    |cons l z=>obtain⟨n,m,A,o,_⟩:=h.el 0 l rfl;cases o
   |some p=>cases e
  subst this;exact Ok.mk ⟨none,0,0,λ_=>False,rfl,aV.nil b,aj.refl _,λ_ h=>h.elim⟩
 ·cases d with
  |none=>cases e
  |some p=>
   have q:aV gh 5 (·=b.heap.size) j (PP b.heap.size) 0 0 []:=
    ⟨⟨[],λ_=>False,Own.AJ (cur:= #[]) k rfl (Qj _),rfl,λ_ h=>h.elim⟩,λn P=>by simpa[aG]using P.symm,λn P=>oM⟩
   refine lG q tT (D:=D) (h.af g) (λn P=>⟨by have:=f n P;omega,by have:=f n P;simp only[aG];intro r;cases r;omega⟩) (by simp;omega) (by unfold aT at P;unfold maxLen;simp;omega) λi s B C t u _ v=>?_;refine⟨_,_,_,rfl,Ok.mk ⟨i,_,s,λn=>aG i=some n,rfl,by have h:=t.alone;rw[List.nil_append]at h;exact h,g.new u λn P=>.inr ?_,λn P=>?_⟩⟩
   ·simp only[aG,Q1]at P;omega
   ·rcases v n P with h|h<;>omega
def g_(n:Int)(P:Nat):Nat:=(max 0 (min n P)).toNat
def ob(P:Int)(n:Nat):g_ P n<=n:=by unfold g_;omega
def bT.cut(n:bT)(P:Int):bT:=⟨n.bytes.take (g_ P n.bytes.length),g_ P n.bytes.length,true⟩
def TN(n:bT)(P:Int):(n.cut P).bytes.length=g_ P n.bytes.length:=by
 have:=ob P n.bytes.length;simp[bT.cut];omega
def BT{G:LL}(h:eH b a G W)(P:W.bytes.length<=262144):
  am 139 #[L2 a,ZT e] b (Ok λy p=>∃q,y= .tuple #[]/\eH p a q (W.cut e)/\cu G b q p):=by
 obtain⟨r,c,i,z,A,f,R,S⟩:=h.body;have B:c=W.bytes.length:=f.len dC;have T:=f.lv;refine vF λj C=>?_;have d:ai b j:=C.keep;have g:=d.get A id;have U:=ob e W.bytes.length;have E:(if(if((c:Nat):Int)<e then((c:Nat):Int)else e)>0 then(if((c:Nat):Int)<e then((c:Nat):Int)else e)else 0)=((g_ e W.bytes.length:Nat):Int):=by
  unfold g_;rw[B];omega
 refine⟨a,0,rfl,_,_,_,ae g rfl,a,0,rfl,r,c,i,ae g rfl,?_⟩;rw[E];refine⟨oM,oM,?_⟩;rw[Qx];have F:Row gh 1 j z r c W.bytes:=(f.row dC (by unfold aT;omega)).af d;refine PC.ok (lF (F.take (m:=g_ e W.bytes.length) oM) (λn P=>Qk (f.aE n P) d.size)) ?_;rintro _ H ⟨s,k,t,l,rfl,m,o,u⟩;have I:k=g_ e W.bytes.length:=by have:=m.len dC;rw[this];simp;omega
 have V:a<j.heap.size:=aA g;refine⟨_,_,_,rfl,a,0,rfl,PS.mk (o.get g id) sM λX J Y v=>⟨a,0,rfl,s,k,t,ae v rfl,a,0,rfl,PS.mk v sM λZ K s4 L=>⟨a,0,rfl,PS.mk L sM λM N s5 O=>Ok.mk ?_⟩⟩⟩;have w:aj (·=a) H M:=(J.then K).then N;have x:∀n,l n->n≠a:=λn P=>by have:=u n P;omega
 refine⟨λn=>n=a\/l n,rfl,⟨⟨s,k,t,l,?_,m.keep w x,λn P=>.inr P,λQ=>x a Q rfl⟩,.inl rfl,?_⟩,⟨((ai.keep d).then (ai.keep o)).then (w.mono λn _ P=>by rw[P];exact h.self),?_⟩⟩
 ·rw[O]
  subst I
  rfl
 ·rintro n (rfl|P)
  ·have:=o.size;omega
  ·have:=m.aE n P;omega
 ·rintro n (rfl|P)
  ·exact .inl h.self
  ·have:=u n P;have:=d.size;exact .inr oM
structure fx (w:World) (p:Nat) (F:LL) (D:ak) (r:Nat) (L:List (ByteArray×od)):Prop where
 head:w.heap[p]? =some (.cells #[ZT D.most,.map (some r),.bool D.jv,ZT D.left,.bool D.dead] 143 (0,0))
 map:bR w r Value.string (L.map eB)
 files:D.files=L.map vO
 each:EE w L
 IT:∀x∈L,∀b,x.2.G b->F b/\b≠p/\b≠r
 Fr:F r
 pr:p≠r
 self:F p
 aE:∀b,F b->b<w.heap.size
 ok:D.Ok
def aU.open{D:ak}(n:aU b a f D):∃P c,fx b a f D P c:=by
 obtain⟨P,c,d,e,g,h,i,j,k⟩:=n.body;exact⟨P,c,d,e,g,h,i,j,k,n.self,n.aE,n.ok⟩
def fx.at{D:ak}(n:fx b a f D c a3):aU b a f D:=
 ⟨⟨c,a3,n.head,n.map,n.files,n.each,n.IT,n.Fr,n.pr⟩,n.self,n.aE,n.ok⟩
def fx.keep{S e:LL}{D:ak}(n:fx b a e D c a3)(d:aj S b k)(f:∀P,e P->¬S P):fx k a e D c a3:=
 ⟨d.get n.head (f _ n.self),n.map.keep d (f _ n.Fr),n.files,n.each.keep d (λh i P g=>f P (n.IT h i P g).1),n.IT,n.Fr,n.pr,n.self,λP g=>Qk (n.aE P g) d.size,n.ok⟩
def fx.af{D:ak}(n:fx b a f D c a3)(P:ai b k):fx k a f D c a3:=n.keep P λ_ _ n=>n
def fx.box{D:ak}(h:fx b a f D c a3)(P:ByteArray):
  (ar D.files P=none/\ar (a3.map eB) P=none)\/∃n,ar a3 P=some n/\(P,n)∈a3/\ar D.files P=some n.f/\ar (a3.map eB) P=some (ptr n.q):=by
 have d:ar (a3.map eB) P=(ar a3 P).map λn=>ptr n.q:=BS (λn:od=>ptr n.q) a3 P;have e:ar D.files P=(ar a3 P).map λn=>n.f:=by rw[h.files];exact BS (λn:od=>n.f) a3 P
 cases g:ar a3 P with
 |none=>rw[g]at d e;exact .inl ⟨e,d⟩
 |some n=>rw[g]at d e;exact .inr ⟨n,rfl,cm g,e,d⟩
def ak.fC(D:ak)(n:ByteArray)(P:bT):ak:={D with files:=aI D.files n P}
def ak.vN(D:ak)(n:ByteArray):ak:={D with files:=bN D.files n}
def rp{l:List (ByteArray×j)}{k:ByteArray}{v:j}(h:(k,v)∈l)(n:Tidy l):aI l k v=l:=by
 induction l with
 |nil=>cases h
 |cons P l a=>
  obtain⟨b,d⟩:=P;unfold aI;unfold Tidy at n;simp only[QY,List.nodup_cons]at n;rcases Q2.1 h with h|h
  ·cases h;simp
  ·have:(k==b)=false:=beq_false_of_ne λc=>n.1 (Xk.2 ⟨(k,v),h,c⟩)
   rw[Zq (by simp[this]),a h n.2]
def fx.fg{h w':World}{m G':LL}{D:ak}(b:fx h a m D c a3){k:ByteArray}{x:od}(v:ar a3 k=some x)(t:eH w' x.q G' W)(g:cu x.G h G' w')(w:(D.fC k W).Ok):∃u,fx w' a u (D.fC k W) c (aI a3 k ⟨x.q,G',W⟩)/\cu m h u w':=by
 have i:=cm v;have j:=b.IT _ i;have y:aj m h w':=g.keep.mono λn _ P=>(j n P).1;have o:∀d∈aI a3 k ⟨x.q,G',W⟩,d=(k,⟨x.q,G',W⟩)\/(d∈a3/\d.1≠k):=λd e=>gi b.each.tidy e;refine⟨λn=>m n\/(h.heap.size<=n/\n<w'.heap.size),⟨g.keep.get b.head λP=>(j _ P).2.1 rfl,?_,?_,⟨?_,?_,b.each.tidy.aI _ _⟩,?_,.inl b.Fr,b.pr,.inl b.self,?_,w⟩,y,λn P=>P.imp id (·.1)⟩
 ·have z:(aI a3 k ⟨x.q,G',W⟩).map eB=a3.map eB:=by
   have f:(aI a3 k ⟨x.q,G',W⟩).map eB=aI (a3.map eB) k (ptr x.q):=rl (λx:od=>ptr x.q) a3 k _;rw[f];have A:Tidy (a3.map eB):=b.map.tidy;exact rp (Xk.2 ⟨_,i,rfl⟩) A
  rw[z];exact b.map.keep g.keep λP=>(j _ P).2.2 rfl
 ·have f:(aI a3 k ⟨x.q,G',W⟩).map vO=aI (a3.map vO) k W:=rl (λx:od=>x.f) a3 k _
  rw[f,<-b.files];rfl
 ·intro d e
  rcases o d e with rfl|⟨e,s⟩
  ·exact t
  ·exact(b.each.each d e).keep g.keep λn P=>b.each.apart d e _ i s n P
 ·intro d e p l q n P r
  rcases o d e with rfl|⟨e,s⟩<;>rcases o p l with rfl|⟨l,B⟩
  ·exact q rfl
  ·rcases g.new n P with f|f
   ·exact b.each.apart _ i p l q n f r
   ·have:=(b.each.each p l).aE n r;omega
  ·rcases g.new n r with f|f
   ·exact b.each.apart d e _ i q n P f
   ·have:=(b.each.each d e).aE n P;omega
  ·exact b.each.apart d e p l q n P r
 ·intro d e n P
  rcases o d e with rfl|⟨e,s⟩
  ·have C:=aA b.head
   have E:=b.map.lt;rcases g.new n P with f|f
   ·exact⟨.inl (j n f).1,(j n f).2⟩
   ·exact⟨.inr ⟨f,t.aE n P⟩,oM,oM⟩
  ·exact⟨.inl (b.IT d e n P).1,(b.IT d e n P).2⟩
 ·rintro n (P|P)
  ·exact Qk (b.aE n P) g.keep.size
  ·exact P.2
def fx.drop{D:ak}(P:fx b a f D c a3)(o:bR k c Value.string (bN (a3.map eB) y))(h:aj (·=c) b k)(p:(D.vN y).Ok):fx k a f (D.vN y) c (bN a3 y):=by
 have e:∀n∈bN a3 y,n∈a3:=λn d=>gK d;refine⟨h.get P.head (λg=>P.pr g),?_,?_,⟨λn d=>((P.each.each n (e n d)).keep h λi j=>(P.IT n (e n d) i j).2.2),λn d m q=>P.each.apart n (e n d) m (e m q),P.each.tidy.bN y⟩,λn d=>P.IT n (e n d),P.Fr,P.pr,P.self,λi j=>Qk (P.aE i j) h.size,p⟩
 ·have g:(bN a3 y).map eB=bN (a3.map eB) y:=BR (λl:od=>ptr l.q) a3 y
  rw[g];exact o
 ·have g:(bN a3 y).map vO=bN (a3.map vO) y:=BR (λl:od=>l.f) a3 y
  rw[g,<-P.files];rfl
def fx.put{p G':LL}{D:ak}(e:fx b a p D c a3){q:Nat}(v:bR k c Value.string (aI (a3.map eB) y (ptr q)))(f:aj (·=c) b k)(r:eH b q G' W)(s:∀P∈a3,P.1≠y->∀n,G' n->¬P.2.G n)(t:∀n,G' n->n≠a/\n≠c)(w:(D.fC y W).Ok):
  fx k a (λn=>p n\/G' n) (D.fC y W) c (aI a3 y ⟨q,G',W⟩):=by
 have h:∀P∈aI a3 y ⟨q,G',W⟩,P=(y,⟨q,G',W⟩)\/(P∈a3/\P.1≠y):=λP d=>gi e.each.tidy d;refine⟨f.get e.head (λg=>e.pr g),?_,?_,⟨?_,?_,e.each.tidy.aI _ _⟩,?_,.inl e.Fr,e.pr,.inl e.self,?_,w⟩
 ·have g:(aI a3 y ⟨q,G',W⟩).map eB=aI (a3.map eB) y (ptr q):=rl (λj:od=>ptr j.q) a3 y _
  rw[g];exact v
 ·have g:(aI a3 y ⟨q,G',W⟩).map vO=aI (a3.map vO) y W:=rl (λj:od=>j.f) a3 y _
  rw[g,<-e.files];rfl
 ·intro P d
  rcases h P d with rfl|⟨d,l⟩
  ·exact r.keep f λn B=>(t n B).2
  ·exact(e.each.each P d).keep f λn B=>(e.IT P d n B).2.2
 ·intro P d m i u n B o
  rcases h P d with rfl|⟨d,l⟩<;>rcases h m i with rfl|⟨i,x⟩
  ·exact u rfl
  ·exact s m i x n B o
  ·exact s P d l n o B
  ·exact e.each.apart P d m i u n B o
 ·intro P d n B
  rcases h P d with rfl|⟨d,l⟩
  ·exact⟨.inr B,t n B⟩
  ·exact⟨.inl (e.IT P d n B).1,(e.IT P d n B).2⟩
 ·rintro n (B|B)
  ·exact Qk (e.aE n B) f.size
  ·exact Qk (r.aE n B) f.size
end Go.Proofs.YtjgjkeponbeekaaGreatDoor
namespace Go.aq
open Go
def CX(cs:Array Value):Nat->List Value->Array Value
 |_,[]=>cs
 |n,P::a=>CX (cs.setIfInBounds n P) (n+1) a
def FH:∀(a:List Value) (cs:Array Value) (P n:Nat),(CX cs P a)[n]? =if P<=n/\n<P+a.length/\n<cs.size then a[n-P]? else cs[n]?
 |[],cs,P,n=>by rw[Zq (by simp;omega)];rfl
 |v::a,cs,P,n=>by
  unfold CX;rw[FH a,Array.getElem?_setIfInBounds];simp only[Xq,Array.size_setIfInBounds]
  by_cases b:P+1<=n/\n<P+1+a.length/\n<cs.size
  ·rw[Zx b,Zx oM,show n-P=(n-(P+1))+1 by omega,ZZ]
  ·rw[Zq b]
   by_cases c:P=n
   ·subst c
    by_cases d:P<cs.size
    ·rw[Zx rfl,Zx d,Zx oM,Nat.sub_self,ZJ]
    ·rw[Zx rfl,Zq d,Zq oM,Array.getElem?_eq_none oM]
   ·rw[Zq c,Zq oM]
variable{a4:List Value}{a:Nat}{g:TypeId}{b:World}{z:UV}
def FI{cs:Array Value}(P:a4.length=cs.size):CX cs 0 a4=a4.toArray:=by
 apply Array.ext_getElem?;intro n;rw[FH]
 by_cases a:n<cs.size
 ·rw[Zx oM];simp
 ·rw[Zq oM,Array.getElem?_eq_none oM]
  simp;omega
def y_{b:Nat}{f:TypeId}{g:UV}:∀(a:List Value) (P:Nat) {n:World} {cs:Array Value},n.heap[b]? =some (.cells cs f (0,0))->P+a.length<=cs.size->
  (∀c,aj (·=b) n c->c.heap.size=n.heap.size->c.heap[b]? =some (.cells (CX cs P a) f (0,0))->g c)->jM ⟨b,0,none⟩ P a n g
 |[],P,n,cs,d,h,e=>e n (aj.refl _) rfl d
 |v::a,P,n,cs,d,h,e=>by
  unfold jM;rw[Addr.add_lit,Xz];rw[Xq]at h;exact PS.mk d oM λq i j k=>y_ a (P+1) k (by simp;omega) λl m o p=>e l (i.then m) (o.trans j) p
def storeAll{cs:Array Value}(P:List Value)(c:b.heap[a]? =some (.cells cs g (0,0)))(d:P.length=cs.size)(e:∀n,aj (·=a) b n->n.heap.size=b.heap.size->n.heap[a]? =some (.cells P.toArray g (0,0))->z n):jM ⟨a,0,none⟩ 0 P b z:=
 y_ P 0 c oM λn f h i=>e n f h (by rw[i,FI d])
end Go.aq
namespace Go.aq
open Go
def wrap_u32(n:Nat)(P:n<2 ^ 32):ZU .u32 (n:Int)=n:=by
 unfold ZU;simp[IntKind.signed,IntKind.bits];omega
def wrap_u8(n:Nat):ZU .u8 (n:Int)=((n % 256:Nat):Int):=by
 unfold ZU;simp[IntKind.signed,IntKind.bits]
def ofInt32(n:sk):BitVec.ofInt (IntKind.bits .u32) ((n.toNat:Nat):Int)=n:=by
 show BitVec.ofInt 32 ((n.toNat:Nat):Int)=n;rw[BitVec.ofInt_natCast];simp
def Lx(n P:sk):qU .u32 ((n.toNat:Nat):Int) ((P.toNat:Nat):Int)=(((n ^^^ P).toNat:Nat):Int):=by
 unfold qU;rw[ofInt32,ofInt32];exact wrap_u32 _ (n ^^^ P).isLt
def Rr(n:sk):qU .u32 (IntKind.max .u32) ((n.toNat:Nat):Int)=(((~~~n).toNat:Nat):Int):=by
 have P:IntKind.max .u32=(((BitVec.allOnes 32).toNat:Nat):Int):=by decide+kernel
 rw[P,Lx,BitVec.allOnes_xor]
def VF(n:sk):iA .u32 ((n.toNat:Nat):Int) 8=(((n>>>8).toNat:Nat):Int):=by
 unfold iA;have:(min (Int.toNat 8) (IntKind.bits .u32))=8:=dC
 rw[this,BitVec.toNat_ushiftRight,Nat.shiftRight_eq_div_pow];show Int.fdiv _ ((2 ^ 8:Nat):Int)=_;rw[Int.fdiv_eq_ediv_of_nonneg _ (Int.natCast_nonneg _)]
 rfl
def WR(n P:Nat)(a:n<256)(b:P<256):qU .u8 (n:Int) (P:Int)=((n ^^^ P:Nat):Int):=by
 unfold qU;show ZU .u8 ((BitVec.ofInt 8 (n:Int) ^^^ BitVec.ofInt 8 (P:Int)).toNat:Int)=_;have c:n ^^^ P<2 ^ 8:=Nat.xor_lt_two_pow oM oM;rw[BitVec.ofInt_natCast,BitVec.ofInt_natCast,BitVec.toNat_xor,BitVec.toNat_ofNat,BitVec.toNat_ofNat,Nat.mod_eq_of_lt oM,Nat.mod_eq_of_lt oM,wrap_u8,Nat.mod_eq_of_lt oM]
def VG(n:Nat)(a:n<256):Bm .u8 (n:Int) 15=((n % 16:Nat):Int):=by
 unfold Bm;show ZU .u8 ((BitVec.ofInt 8 (n:Int)&&&BitVec.ofInt 8 ((15:Nat):Int)).toNat:Int)=_;have P:n&&&15=n % 16:=Nat.and_two_pow_sub_one_eq_mod n 4;rw[BitVec.ofInt_natCast,BitVec.ofInt_natCast,BitVec.toNat_and,BitVec.toNat_ofNat,BitVec.toNat_ofNat,Nat.mod_eq_of_lt oM,Nat.mod_eq_of_lt oM,P,wrap_u8,Nat.mod_eq_of_lt oM]
def WS(n:Nat):iA .u8 (n:Int) 4=((n/16:Nat):Int):=by
 unfold iA;have:(min (Int.toNat 4) (IntKind.bits .u8))=4:=dC
 rw[this];show Int.fdiv _ ((2 ^ 4:Nat):Int)=_;rw[Int.fdiv_eq_ediv_of_nonneg _ (Int.natCast_nonneg _)]
 rfl
end Go.aq
namespace Go.Proofs.YtjgjkeponbeekaaGreatDoor
open Go.aq
structure qQ (w:World):Prop where
 lower:∀i,i<16->w.cell? ⟨2,i,none⟩=some (.int .u32 ((ky.getD i 0:Nat):Int))
 upper:∀i,i<16->w.cell? ⟨3,i,none⟩=some (.int .u32 ((kC.getD i 0:Nat):Int))
 lt:2<w.heap.size/\3<w.heap.size
variable{w:List UInt8}{a c:Nat}{f:LL}{d:ac}{b k:World}
def qQ.af(n:qQ b)(a:ai b k):qQ k:=
 ⟨λP c=>(a.cell (a:=⟨2,P,none⟩) n.lt.1 id).trans (n.lower P c),λP c=>(a.cell (a:=⟨3,P,none⟩) n.lt.2 id).trans (n.upper P c),Qk n.lt.1 a.size,Qk n.lt.2 a.size⟩
def Rt:∀n,ky.getD n 0<2 ^ 32/\kC.getD n 0<2 ^ 32:=by
 intro n
 by_cases P:n<16
 ·have a:(List.range 16).all (λn=>decide (ky.getD n 0<2 ^ 32/\kC.getD n 0<2 ^ 32))=true:=by decide+kernel
  simpa using ZY.1 a n (List.mem_range.2 P)
 ·rw[QQ,QQ,Q7 (by show 16<=n;omega),Q7 (by show 16<=n;omega)]
  decide
def Ru{s:sk}(p:qQ b)(h:Row gh 1 b f d a w):
  am 325 #[.int .u32 ((s.toNat:Nat):Int),.slice d a c] b (Ok λq j=>q= .int .u32 (((Nf s w).toNat:Nat):Int)/\bC b j):=by
 have H:=h.len;have r:=h.fe;unfold aT at r;refine Lj ⟨λm n i j=>∃e:Nat,i=e/\e<=a/\m=a-e/\bC b j/\n=((((w.take e).foldl k_ (~~~s)).toNat:Nat):Int),⟨_,0,rfl,Qj _,rfl,bC.refl b,by rw[Rr];rfl⟩,?_⟩;rintro m n i I J ⟨e,rfl,K,rfl,g,rfl⟩;generalize k:(w.take e).foldl k_ (~~~s)=n;refine al.dec (λt=>?_) (λt=>Ok.mk ⟨?_,g⟩)
 ·obtain⟨u,l,P,rfl,v,_,x⟩:=(h.af g.keep).oy (i:=e) oM
  have o:=p.af g.keep;have L:=P.toNat_lt;have y:ZU .u8 ((n.toNat:Nat):Int)=((n.toNat % 256:Nat):Int):=wrap_u8 _;have M:P.toNat ^^^ n.toNat % 256<2 ^ 8:=Nat.xor_lt_two_pow oM oM;have z:qU .u8 ((P.toNat:Nat):Int) (ZU .u8 ((n.toNat:Nat):Int))=((P.toNat ^^^ n.toNat % 256:Nat):Int):=by rw[y,WR _ _ oM oM]
  refine⟨u,l,rfl,oM,oM,_,x,?_⟩;rw[z,VG _ oM,WS];refine⟨2,0,rfl,oM,oM,((ky.getD ((P.toNat ^^^ n.toNat % 256) % 16) 0:Nat):Int),?_,3,0,rfl,oM,oM,((kC.getD ((P.toNat ^^^ n.toNat % 256)/16) 0:Nat):Int),?_,λN A=>⟨_,oM,e+1,an oM,oM,rfl,g.then A,?_⟩⟩
  ·rw[Xz];exact o.lower _ oM
  ·rw[Xz];exact o.upper _ oM
  ·have B:=(Rt ((P.toNat ^^^ n.toNat % 256) % 16)).1
   have C:=(Rt ((P.toNat ^^^ n.toNat % 256)/16)).2;rw[VF];have E:((ky.getD ((P.toNat ^^^ n.toNat % 256) % 16) 0:Nat):Int)=(((BitVec.ofNat 32 (ky.getD ((P.toNat ^^^ n.toNat % 256) % 16) 0)).toNat:Nat):Int):=by rw[BitVec.toNat_ofNat,Nat.mod_eq_of_lt B]
   have F:((kC.getD ((P.toNat ^^^ n.toNat % 256)/16) 0:Nat):Int)=(((BitVec.ofNat 32 (kC.getD ((P.toNat ^^^ n.toNat % 256)/16) 0)).toNat:Nat):Int):=by rw[BitVec.toNat_ofNat,Nat.mod_eq_of_lt C]
   rw[E,F,Lx,Lx,<-OD,Qw,v,List.foldl_append,k]
   rfl
 ·rw[Qz oM]at k
  rw[Rr,<-k];rfl
def Ng(n:qQ b)(P:Row gh 1 b f d a w):
  am 285 #[.slice d a c] b (Ok λe g=>e= .int .u32 (((Ly w).toNat:Nat):Int)/\bC b g):=by
 refine OA (PC.ok (Ru (s:=0#32) n P) ?_);rintro _ i ⟨rfl,h⟩;exact⟨_,rfl,Ok.mk ⟨rfl,h⟩⟩
end Go.Proofs.YtjgjkeponbeekaaGreatDoor
namespace Go.aq
open Go
def wrap_u32'(n:Int):ZU .u32 n=n % 4294967296:=by
 unfold ZU;simp[IntKind.signed,IntKind.bits]
def LS{n d:Nat}(b:n<16777216)(c:d<256):PZ .u32 (IH .u32 (n:Int) 8) (ZU .u32 (d:Int))=((n*256+d:Nat):Int):=by
 have P:IH .u32 (n:Int) 8=((n*256:Nat):Int):=by
  unfold IH;have:min (Int.toNat 8) (IntKind.bits .u32)=8:=dC
  rw[this,wrap_u32'];have:((2:Int) ^ 8)=256:=dC
  rw[this];omega
 rw[P,wrap_u32 _ oM];unfold PZ;show ZU .u32 ((BitVec.ofInt 32 ((n*256:Nat):Int)|||BitVec.ofInt 32 (d:Int)).toNat:Int)=_;have a:n*256|||d=n*256+d:=by
  have:=(Nat.shiftLeft_add_eq_or_of_lt (a:=n) (i:=8) (b:=d) oM).symm
  rwa [Nat.shiftLeft_eq]at this
 rw[BitVec.ofInt_natCast,BitVec.ofInt_natCast,BitVec.toNat_or,BitVec.toNat_ofNat,BitVec.toNat_ofNat,Nat.mod_eq_of_lt oM,Nat.mod_eq_of_lt oM,a,wrap_u32 _ oM]
def j_(n:Nat):ZU .u8 (n:Int)=((UInt8.ofNat n).toNat:Int):=by
 rw[wrap_u8,ZK]
def NY{k:IntKind}{u m:Nat}(n:m<=k.bits):iA k (u:Int) (m:Int)=((u/2 ^ m:Nat):Int):=by
 unfold iA;rw[Qx,X2 n];show Int.fdiv _ ((2:Int) ^ m)=_;rw[Int.fdiv_eq_ediv_of_nonneg _ (Int.pow_nonneg dC)];simp
variable{a c:Nat}{d:ac}{h:Program}{C g r:TypeId}{q u:L1}{b:World}
def OP{P tn i n:TypeId}(j:kM h P n 1 1)(l:h.underlying tn=some (.int .i64))(m:0<a)(o:a<=aT)(c:∀d e,aV gh n (·=b.heap.size) d (PP b.heap.size) 0 e []->a<=e->ai b d->q (.slice (PP b.heap.size) a e) d):
  aJ h (Builtin.append_ #[P,tn] i #[.slice none 0 0,ZT (a:Int)]) b q u:=by
 obtain⟨p,f,r,s,A,t,v⟩:=j.info;unfold aT at o;have w:=Lib.run_append_nil_zeros (P:=h) b P tn i n p f .i64 .i64 j.under l r s a m oM oM (by rw[t];omega);have x:=grownCap_ge b a 0 n;refine aJ.mk w (c _ _ ?_ x ?_)
 ·have k:=heap_alloc_new b.drew (.cells (Builtin.zeroCells f.cells a++Builtin.zeroCells f.cells (grownCap b a 0 n-a)) n)
  refine⟨⟨[],λ_=>False,⟨⟨sM,.inr ⟨b.heap.size,grownCap b a 0 n,_,rfl,Qj _,k,Qj _,grownCap_le_maxLen b a 0 n (by unfold maxLen;omega),?_,sM⟩⟩⟩,rfl,λ_ c=>c.elim⟩,λy g=>by simpa[aG]using g.symm,λy g=>by rw[g];exact aA k⟩;rw[Array.size_append,size_zeroCells,size_zeroCells,v];show a*1+(grownCap b a 0 n-a)*1=grownCap b a 0 n*1;omega
 ·have z:ai b (b.drewN 1):=aj.drewN b 1
  exact z.then (aj.alloc _ _)
def Vd(n:h.underlying g=some (.slice r))(P:q (ZT (c:Int)) b):aJ h (Builtin.cap_ #[g] C #[.slice d a c]) b q u:=by
 refine aJ.mk (v:=ZT (c:Int)) ?_ P;simp[Builtin.cap_,run_underlying n,goInt]
end Go.aq
namespace Go.Proofs.YtjgjkeponbeekaaGreatDoor
section
open Go.aq
variable{b0 w:List UInt8}{F a c i p:Nat}{H:Nat×Nat}{d v:ac}{b:World}
def vU{bs:List UInt8}{D:LL}(e:Row gh 1 b D d a bs)(q:a<=4):
  am 284 #[.slice d a c] b (Ok λg n=>g= .int .u32 (gM bs:Int)/\b=n):=by
 have r:=e.len;refine Bu ⟨λm f i n=>∃j:Nat,i=j/\j<=a/\m=a-j/\f=(gM (bs.take j):Int)/\b=n,⟨_,0,rfl,Qj _,rfl,rfl,rfl⟩,?_⟩;rintro m f i _ s ⟨j,rfl,t,rfl,rfl,rfl⟩;refine al.dec (λh=>?_) (λh=>?_)
 ·obtain⟨k,P,l,rfl,o,_,p⟩:=e.oy (i:=j) oM
  have u:=oZ bs (j:=j) (m:=3) oM;refine⟨k,P,rfl,oM,oM,_,p,_,oM,j+1,an oM,oM,rfl,?_,rfl⟩;rw[LS (by
            have:(256:Nat) ^ 3=16777216:=dC
            omega) l.toNat_lt,EJ o]
 ·rw[Qz oM]
  exact Ok.mk ⟨rfl,rfl⟩
def GW{m:Nat}(f:0<m)(c:m<=aT):
  am 328 #[.slice none 0 0,ZT (m:Int)] b (Ok λg n=>∃P d,g= .slice (PP P) 0 d/\aV gh 5 (·=P) n (PP P) 0 d []/\ai b n/\b.heap.size<=P):=by
 have a:=c;unfold aT at a;refine mU ⟨λn=>n=b,al.dec (λe=>oM) (λ_=>rfl),?_⟩;rintro _ l rfl;refine Vd tT.under ⟨_,rfl,?_⟩;have h:ZU .i64 ((m:Int)-ZU .i64 (((0:Nat):Int)-((0:Nat):Int)))=(m:Int):=by
  rw[wrap_i64 (x:=((0:Nat):Int)-((0:Nat):Int)) (by unfold aM;omega),wrap_i64 (by unfold aM;omega)];omega
 rw[h];refine al.dec (λe=>?_) (λe=>oM);refine Vd tT.under ⟨_,rfl,oM,oM,?_⟩;refine OP tT kR f c λo i j p k=>⟨_,_,_,rfl,oM,oM,Ok.mk ⟨_,i,rfl,j,k,Q4 _⟩⟩
def BY{D:LL}(B:b.heap[a]? =some (.cells #[.slice d c p,.slice v i F] 237 H))(R:Row gh 1 b D d c w)(S:Row gh 1 b D v i b0)(C:∀n,D n->n<b.heap.size)(h0:0<c)(P:c+i<=aT):
  am 294 #[.slice (PP a) 2 2] b (Ok (qD gh 5 b (w++b0))):=by
 have l1:=R.len;have l2:=S.len;have E:=P;unfold aT at E;refine lE ⟨λf x g e=>b=e/\((f=2/\x=0/\g=0)\/(f=1/\x=(c:Int)/\g=1)\/(f=0/\x=((c+i:Nat):Int)/\g=2)),⟨2,rfl,.inl ⟨rfl,rfl,rfl⟩⟩,?_⟩;rintro f x g _ w1 ⟨rfl,I⟩;rcases I with⟨rfl,rfl,rfl⟩|⟨rfl,rfl,rfl⟩|⟨rfl,rfl,rfl⟩
 ·refine al.tt dC ⟨a,0,rfl,oM,oM,d,c,p,ae B rfl,?_⟩
  rw[wrap_i64 (x:=0+((c:Nat):Int)) (by unfold aM;omega)];exact al.dec (λT=>oM) (λ_=>⟨1,oM,rfl,.inr (.inl ⟨rfl,oM,rfl⟩)⟩)
 ·refine al.tt dC ⟨a,0,rfl,oM,oM,v,i,F,ae B rfl,?_⟩
  rw[wrap_i64 (x:=((c:Nat):Int)+((i:Nat):Int)) (by unfold aM;omega)];exact al.dec (λT=>oM) (λ_=>⟨0,oM,rfl,.inr (.inr ⟨rfl,oM,rfl⟩)⟩)
 refine al.ff dC (PC.ok (GW (m:=c+i) oM P) ?_);rintro _ w2 ⟨U,cq,rfl,Z,k2,hq⟩;have a6:∀n,D n->n≠U:=λn P J=>by have:=C n P;omega
 refine⟨_,_,_,rfl,λf o j q g e=>ai b e/\∃k,(∀n,k n->b.heap.size<=n)/\((f=2/\g=0/\aV gh 5 k e o j q [])\/(f=1/\g=1/\aV gh 5 k e o j q w)\/(f=0/\g=2/\aV gh 5 k e o j q (w++b0))),
  ⟨2,k2,(·=U),λn J=>oM,.inl ⟨rfl,rfl,Z⟩⟩,?_⟩
 rintro f o j q g _ V ⟨r,k,y,I⟩;have W:=r.get B id;have ap:∀{z A:List UInt8} {K t X} {L Y:L1},aV gh 5 k V o j q z->Row gh 1 b D K t A->z.length+A.length<=140737488355328->
   (∀l s e m,aV gh 5 m e l (j+t) s (z++A)->ai b e->(∀n,m n->b.heap.size<=n)->L (.slice l (j+t) s) e)->
   aJ WP (Builtin.append_ #[237,237] 237 #[.slice o j q,.slice K t X]) V L Y:=by
  intro z A K t X L Y h hr a5 M;refine Au h tT (hr.af r) (λn P=>⟨by have:=C n P;have:=r.size;omega,λJ=>?_⟩) (by unfold aT;omega) (by unfold maxLen;omega) λl s N m u a3 _ a4=>?_
  ·have:=C n P;have:=y n (h.self n J);omega
  ·exact M l s N (λn=>aG l=some n) u.alone (r.new a3 λn P=>.inr (y n (h.self n P))) λn P=>(a4 n P).elim (y n) λT=>by have:=r.size;omega
 rcases I with⟨rfl,rfl,h⟩|⟨rfl,rfl,h⟩|⟨rfl,rfl,h⟩
 ·refine al.tt dC ⟨a,0,rfl,oM,oM,d,c,p,ae W rfl,?_⟩
  exact ap h R (by simp;omega) λl s N m u O Q=>⟨_,_,_,rfl,1,oM,O,m,Q,.inr (.inl ⟨rfl,rfl,u⟩)⟩
 ·refine al.tt dC ⟨a,0,rfl,oM,oM,v,i,F,ae W rfl,?_⟩
  exact ap h S oM λl s N m u O Q=>⟨_,_,_,rfl,0,oM,O,m,Q,.inr (.inr ⟨rfl,rfl,u⟩)⟩
 ·exact al.ff dC (Ok.mk ⟨_,_,_,k,rfl,h,r,y⟩)
end
section
open Go.aq
def qq:gA:=⟨[],[],[],[],[]⟩
variable{c7 y:ByteArray}{s:RK}{E X b3 c4 c5 c6 e l:Int}{a c i p:Nat}{d v:ac}{b:World}
def qs{P:Int}(j:PA b (.cells #[ZT e,ZT l,ZT E,.slice d a c,ZT X,ZT b3,ZT c4,ZT c5,ZT c6,ZT P] 63) λn=>
   (∃(f:Int),n.cell? ⟨i,p,none⟩=some (ZT f)/\al ((f:Int) !=0) ((∃(g:Int),n.cell? ⟨b.heap.size,0+9,none⟩=some (ZT g)/\
   (∃(h:Int),n.cell? ⟨i,p,none⟩=some (ZT h)/\s (.returned (.bool ((g:Int)==h))) n))) (s (.returned (.bool false)) n))):
  am 202 #[.agg #[ZT e,ZT l,ZT E,.slice d a c,ZT X,ZT b3,ZT c4,ZT c5,ZT c6,ZT P],.pointer (some ⟨i,p,none⟩)] b s:=
 gg qq mixed Tryz.func202 rfl (Zv kR) kR (Eq.mp kR j)
def qo:gA:=⟨[],[],[],[],[]⟩
def qp(g:PA b (.cells #[.slice v a c] 42) λh=>PC WP 93 #[.pointer d,.func (.func 195) #[] #[L2 b.heap.size]] h (λi j=>
   ∃(f:ac) (n:Nat) (P:Nat),i= .slice f n P/\((0:Int)<=(if(if e>0 then e else 0)<((n:Nat):Int)then(if e>0 then e else 0)else((n:Nat):Int))/\
   ((if(if e>0 then e else 0)<((n:Nat):Int)then(if e>0 then e else 0)else((n:Nat):Int)):Int)<=((P:Nat):Int)/\
   s (.returned (.slice f (Int.toNat (if(if e>0 then e else 0)<((n:Nat):Int)then(if e>0 then e else 0)else((n:Nat):Int))) P)) j)) (λk b=>
   s (.panicked k) b)):
  am 122 #[.pointer d,.slice v a c,ZT e] b s:=
 gg qo mixed Tryz.func122 rfl (Zv kR) kR (Eq.mp kR g)
def s_:gA:=⟨[],[],[],[],[]⟩
def td(j:PA b (.cells #[ZT e] 3) λn=>PA n (.cells #[ZT 0,ZT 0,ZT 0,.slice none 0 0,ZT 0,ZT 0,ZT 0,ZT 0,ZT 0,ZT 0] 63) λk=>
   PC WP 93 #[.pointer d,.func (.func 202) #[] #[L2 b.heap.size]] k (λl P=>∃(c:ac) (a:Nat) (m:Nat),l= .slice c a m/\
   al ((((a:Nat):Int):Int)==0) (ni WP 63 (L2 n.heap.size) (.agg #[ZT 0,ZT 0,ZT 0,.slice none 0 0,ZT 0,ZT 0,ZT 0,ZT 0,ZT 0,ZT 0]) P λf=>
   (js WP 63 (L2 n.heap.size) f λo=>s (.returned (.tuple #[o,.bool false])) f)) ((∃g h,c=some ⟨g,h,none⟩/\
   (0:Int)<=0/\0<((a:Nat):Int)/\(js WP 63 (.pointer (some ⟨g,h+Int.toNat 0*10,none⟩)) P λp=>ni WP 63 (L2 n.heap.size) p P λi=>
   (js WP 63 (L2 n.heap.size) i λq=>s (.returned (.tuple #[q,.bool true])) i))))) (λr b=>s (.panicked r) b)):
  am 126 #[.pointer d,ZT e] b s:=
 gg s_ mixed Tryz.func126 rfl (Zv kR) kR (Eq.mp kR j)
def nU:gA:=⟨[],[],[1],[],[(1,⟨[0,1,2,0,0,16,32,72,128,260,1023],[2047,2046,2045,2047,2047,2031,2015,1975,1919,1787,1535],[0,0,1,1,0,0,1,2,0,0,0]⟩)]⟩
def nV{g:Int}(t:PA b (.cells #[ZT e,ZT l,ZT E,.slice d a c,ZT X,ZT b3,ZT c4,ZT c5,ZT c6,ZT g] 63) λu=>
   (∀n,bC u n->∃h:LL,(¬h b.heap.size/\(∃(j:Int),n.cell? ⟨b.heap.size,0+1,none⟩=some (ZT j)/\(∃(k:ac) (m:Nat) (o:Nat),n.cell? ⟨i,p,none⟩=some (.slice k m o)/\
   (∃(q:Int),n.cell? ⟨b.heap.size,0,none⟩=some (ZT q)/\PC WP 196 #[.slice k m o,ZT q] n (λv r=>
   ∃(P:Int),v= ZT P/\(aj h n r/\s (.returned (.bool (decide ((j:Int)>(if P>0 then P else 0))))) r)) (λw f=>
   ∀(_:cf) (_:cU),s (.panicked w) f))))))):
  am 195 #[.agg #[ZT e,ZT l,ZT E,.slice d a c,ZT X,ZT b3,ZT c4,ZT c5,ZT c6,ZT g],.pointer (some ⟨i,p,none⟩)] b s:=
 gg nU mixed Tryz.func195 rfl (Zv kR) kR (Eq.mp kR t)
def Bw:gA:=⟨[],[],[],[],[]⟩
def By{q:Int}{h:Int}(M:PA b (.cells #[ZT e,ZT l,ZT E,.slice d a c,ZT X,ZT b3,ZT c4,ZT c5,ZT c6,ZT q] 63) λn=>
   (∃(r:Int),n.cell? ⟨b.heap.size,0,none⟩=some (ZT r)/\al (decide ((r:Int)<0)) (s (.returned (ZT 1)) n) ((∃(t:Int),n.cell? ⟨b.heap.size,0,none⟩=some (ZT t)/\
   al (decide ((t:Int)>=h)) (s (.returned (ZT 1)) n) ((∃(i:Int),n.cell? ⟨b.heap.size,0+1,none⟩=some (ZT i)/\(∃(j:Int),n.cell? ⟨b.heap.size,0+2,none⟩=some (ZT j)/\
   al (decide (((if j<i then j else i):Int)<1)) (s (.returned (ZT 1)) n) ((∃(k:Int),n.cell? ⟨b.heap.size,0+5,none⟩=some (ZT k)/\
   (∃(m:Int),n.cell? ⟨b.heap.size,0+9,none⟩=some (ZT m)/\al (decide (((if m<k then m else k):Int)<0)) (s (.returned (ZT 1)) n) ((∃(N:ac) (u:Nat) (O:Nat),n.cell? ⟨b.heap.size,0+3,none⟩=some (.slice N u O)/\
   al ((((u:Nat):Int):Int) !=h) (s (.returned (ZT 1)) n) ((∃(v:ac) (w:Nat) (x:Nat),n.cell? ⟨b.heap.size,0+3,none⟩=some (.slice v w x)/\
   PC WP 184 #[.slice v w x,.func (.func 183) #[] #[]] n (λQ f=>∃(y:Bool),Q= .bool y/\al y (s (.returned (ZT 1)) f) ((∃(z:ac) (A:Nat) (R:Nat),f.cell? ⟨b.heap.size,0+3,none⟩=some (.slice z A R)/\
   (∃(g:Int),f.cell? ⟨b.heap.size,0,none⟩=some (ZT g)/\(∃B C,z=some ⟨B,C,none⟩/\(0:Int)<=g/\g<((A:Nat):Int)/\
   (∃(F:Int),f.cell? ⟨B,C+Int.toNat g,none⟩=some (ZT F)/\(∃(H:Int),f.cell? ⟨b.heap.size,0+1,none⟩=some (ZT H)/\
   (∀P,bC f P->al ((F:Int) !=(ZU .i64 (H-1))) (s (.returned (ZT 9)) P) ((∃(I:Int),P.cell? ⟨b.heap.size,0+7,none⟩=some (ZT I)/\
   al (decide ((I:Int)<1)) (s (.returned (ZT 2)) P) ((∃(J:Int),P.cell? ⟨b.heap.size,0+7,none⟩=some (ZT J)/\al (decide ((J:Int)>5)) (s (.returned (ZT 2)) P) ((∃(o:Int),P.cell? ⟨b.heap.size,0+4,none⟩=some (ZT o)/\
   (∃(p:Int),P.cell? ⟨b.heap.size,0+6,none⟩=some (ZT p)/\al (decide (((if p<o then p else o):Int)<0)) (s (.returned (ZT 8)) P) ((∃(K:Int),P.cell? ⟨b.heap.size,0+4,none⟩=some (ZT K)/\
   al (decide ((K:Int)>=8)) (s (.returned (ZT 8)) P) ((∃(L:Int),P.cell? ⟨b.heap.size,0+6,none⟩=some (ZT L)/\al (decide ((L:Int)>=8)) (s (.returned (ZT 8)) P) (s (.returned (ZT 0)) P)))))))))))))))))))) (λS b=>
   s (.panicked S) b))))))))))))))):
  am 113 #[.agg #[ZT e,ZT l,ZT E,.slice d a c,ZT X,ZT b3,ZT c4,ZT c5,ZT c6,ZT q],ZT h] b s:=
 gg Bw mixed Tryz.func113 rfl (Zv kR) kR (Eq.mp kR M)
def iE:gA:=⟨[],[],[],[],[]⟩
def iF(n:al (decide ((((ByteArray.size y:Nat):Int):Int)>=((ByteArray.size c7:Nat):Int))) (((0:Int)<=((ByteArray.size c7:Nat):Int)/\(((ByteArray.size c7:Nat):Int):Int)<=((ByteArray.size y:Nat):Int)/\rt s ((.bool ((ByteArray.toList (ByteArray.extract y 0 (Int.toNat ((ByteArray.size c7:Nat):Int))))==(ByteArray.toList c7)))) b)) (rt s ((.bool false)) b)):am 324 #[.string y,.string c7] b s:=DC iE Tryz.func324 rfl n
def qZ:gA:=⟨[],[],[],[],[]⟩
def q_(a:PC_ 283 #[.string y,.string c7] b (λc d=>∃n P,c= .tuple #[.string n,.bool P]/\rt s ((.tuple #[.string n,.bool P])) d) (pE s)):am 224 #[.string y,.string c7] b s:=DC qZ Tryz.func224 rfl a
def iC:gA:=⟨[],[],[],[],[]⟩
def iD(P:PC_ 324 #[.string y,.string c7] b (kB λa n=>al (!a) (rt s ((.tuple #[.string y,.bool false])) n) (((0:Int)<=((ByteArray.size c7:Nat):Int)/\(((ByteArray.size c7:Nat):Int):Int)<=((ByteArray.size y:Nat):Int)/\rt s ((.tuple #[.string (ByteArray.extract y (Int.toNat ((ByteArray.size c7:Nat):Int)) (ByteArray.size y)),.bool true])) n))) (pE s)):am 283 #[.string y,.string c7] b s:=DC iC Tryz.func283 rfl P
def GF:gA:=⟨[],[],[4],[],[(4,⟨[0,1,2,4,0,0,32,80,128,264,0,1024,2048,1023,16383,32767],[65535,65534,65533,65531,65535,65535,65503,65455,65407,65271,65535,64511,63487,65023,61439,65535],[0,0,1,0,0,0,0,0,2,0,0,0,0,2,0,0]⟩)]⟩
def GG(w:PA b (.cells #[.ii 0,.slice none 0 0] 277) λx=>PC_ 225 #[.slice d a c] x (λy j=>∃n f,y= .tuple #[.ii n,.ii f]/\al (f !=0) (PS j (ab_ b 0) (.ii 0) λz=>PS z (ab_ b (0+1)) (.slice none 0 0) λg=>(∃k l m o,g.cell? (ab_ b 0)=some (.ii k)/\g.cell? (ab_ b (0+1))=some (.slice l m o)/\rt s ((.tuple #[.agg #[.ii k,.slice l m o],.ii 0,.ii f])) g)) ((∀P,bC j P->∃h:LL,(ix_ d 0 a λp A=>(¬h p/\(∃q,P.cell? (ad p (A+Int.toNat 0))=some (.int .u8 q)/\((0:Int)<=4/\(4:Int)<=(ZU .i64 (4+n))/\((ZU .i64 (4+n)):Int)<=(c:Int)/\PC_ 207 #[.slice (cZ d (Int.toNat 4) c 1) (Int.toNat (ZU .i64 (4+n))-Int.toNat 4) (c-Int.toNat 4)] P (kS_ λB C D i=>(aj h P i/\PS i (ab_ b 0) (.ii (ZU .i64 q)) λE=>PS E (ab_ b (0+1)) (.slice B C D) λe=>(aj h i e/\(∃r t u v,e.cell? (ab_ b 0)=some (.ii r)/\e.cell? (ab_ b (0+1))=some (.slice t u v)/\rt s ((.tuple #[.agg #[.ii r,.slice t u v],.ii (ZU .i64 ((ZU .i64 (4+n))+5)),.ii 0])) e)))) (pZ s)))))))) (pE s)):am 163 #[.slice d a c] b s:=DC GF Tryz.func163 rfl w
def GH:gA:=⟨[],[],[],[],[]⟩
def GI(l:PA b (.cells #[.ii e,.slice d a c] 277) λn=>(rS n (ab_ b (0+1)) λC f D=>(rI n (ab_ b 0) λm=>al (decide (m<1)) (rt s ((.tuple #[.slice none 0 0,.ii 2])) n) ((rI n (ab_ b 0) λo=>al (decide (o>255)) (rt s ((.tuple #[.slice none 0 0,.ii 2])) n) (al (decide ((f:Int)>65536)) (rt s ((.tuple #[.slice none 0 0,.ii 5])) n) ((rI n (ab_ b 0) λp=>PA n (.cells #[.int .u8 (ZU .u8 p),.int .u8 (ZU .u8 (iA .i64 (f:Int) 16)),.int .u8 (ZU .u8 (iA .i64 (f:Int) 8)),.int .u8 (ZU .u8 (f:Int))] 5) λg=>(rS g (ab_ b (0+1)) λq r t=>PA g (.cells #[.slice (some (ab_ n 0)) 4 4,.slice q r t] 237) λu=>PC_ 294 #[.slice (some (ab_ g 0)) 2 2] u (kS_ λh i j v=>PC_ 285 #[.slice h i j] v (λw k=>∃P,w= .int .u32 P/\PA k (.cells #[.int .u8 (ZU .u8 (iA .u32 P 24)),.int .u8 (ZU .u8 (iA .u32 P 16)),.int .u8 (ZU .u8 (iA .u32 P 8)),.int .u8 (ZU .u8 P),.int .u8 10] 5) λx=>PR_ (ap_ 237 (.slice h i j) (.slice (some (ab_ k 0)) 5 5)) x (kS_ λy z A B=>rt s ((.tuple #[.slice y z A,.ii 0])) B) (pV s)) (pE s)) (pE s)))))))))):am 241 #[.agg #[.ii e,.slice d a c]] b s:=DC GH Tryz.func241 rfl l
def BD:gA:=⟨[],[],[],[],[(11,⟨[0,1,0,4,10,18,48,64,192,320,576,1088],[4095,4094,4095,4091,4087,4077,4063,4031,3903,3775,3519,3007],[0,2,0,0,2,0,0,0,0,1,0,0]⟩)]⟩
def BE(o:al (decide ((a:Int)<4)) (rt s ((.tuple #[.ii 0,.ii 4])) b) (((0:Int)<=1/\(1:Int)<=4/\(4:Int)<=(c:Int)/\PC_ 284 #[.slice (cZ d (Int.toNat 1) c 1) (Int.toNat 4-Int.toNat 1) (c-Int.toNat 1)] b (λp P=>∃n,p= .int .u32 n/\(ix_ d 0 a λq r=>(∃f,P.cell? (ad q (r+Int.toNat 0))=some (.int .u8 f)/\al (f==0) (rt s ((.tuple #[.ii 0,.ii 2])) P) (al (decide (((ZU .i64 n):Int)>65536)) (rt s ((.tuple #[.ii 0,.ii 5])) P) (al (decide ((a:Int)<(ZU .i64 ((ZU .i64 (4+(ZU .i64 n)))+5)))) (rt s ((.tuple #[.ii 0,.ii 4])) P) (((0:Int)<=(ZU .i64 (4+(ZU .i64 n)))/\((ZU .i64 (4+(ZU .i64 n))):Int)<=(c:Int)/\((0:Int)<=(ZU .i64 (4+(ZU .i64 n)))/\((ZU .i64 (4+(ZU .i64 n))):Int)<=(ZU .i64 ((ZU .i64 (4+(ZU .i64 n)))+5))/\((ZU .i64 ((ZU .i64 (4+(ZU .i64 n)))+5)):Int)<=(c:Int)/\(∀g,bC P g->(∀h,bC g h->((0:Int)<=4/\(4:Int)<=(((c-Int.toNat (ZU .i64 (4+(ZU .i64 n)))):Nat):Int)/\PC_ 285 #[.slice d (Int.toNat (ZU .i64 (4+(ZU .i64 n)))) c] h (λt u=>∃i,t= .int .u32 i/\PC_ 284 #[.slice (cZ d (Int.toNat (ZU .i64 (4+(ZU .i64 n)))) c 1) (Int.toNat 4) (c-Int.toNat (ZU .i64 (4+(ZU .i64 n))))] u (λv e=>∃j,v= .int .u32 j/\al (i !=j) (rt s ((.tuple #[.ii 0,.ii 6])) e) ((∃k l,(cZ d (Int.toNat (ZU .i64 (4+(ZU .i64 n)))) c 1)=some ⟨k,l,none⟩/\(0:Int)<=4/\4<((Int.toNat (ZU .i64 ((ZU .i64 (4+(ZU .i64 n)))+5))-Int.toNat (ZU .i64 (4+(ZU .i64 n))):Nat):Int)/\(∃m,e.cell? (ad k (l+Int.toNat 4))=some (.int .u8 m)/\al (m !=10) (rt s ((.tuple #[.ii 0,.ii 6])) e) (rt s ((.tuple #[.ii (ZU .i64 n),.ii 0])) e))))) (pZ s)) (pZ s)))))))))))) (pE s)))):am 225 #[.slice d a c] b s:=DC BD Tryz.func225 rfl o
end
end Go.Proofs.YtjgjkeponbeekaaGreatDoor
namespace Go.aq
open Go
def BZ(n:List UInt8)(P:Nat)(a:(n.getD 1 0).toNat*65536+(n.getD 2 0).toNat*256+(n.getD 3 0).toNat=P):
  br n=if n.length<4 then⟨0,[],0,4⟩else if n.getD 0 0=0 then⟨0,[],0,2⟩else if 65536<P then⟨0,[],0,5⟩else if n.length<P+9 then⟨0,[],0,4⟩else
   if n.take (P+9)=cC (n.getD 0 0).toNat ((n.drop 4).take P)then⟨(n.getD 0 0).toNat,(n.drop 4).take P,P+9,0⟩else⟨0,[],0,6⟩:=by
 unfold br;rw[a]
variable{w:List UInt8}
def RN(n:(br w).no=0):(br w).kind=((w.getD 0 0).toNat:Int)/\(br w).body=(w.drop 4).take ((br w).n-9)/\4<=w.length:=by
 rw[BZ w _ rfl]at n⊢;split at n
 ·cases n
 rename_i P;rw[Zq P];split at n
 ·cases n
 rename_i a;rw[Zq a];split at n
 ·cases n
 rename_i b;rw[Zq b];split at n
 ·cases n
 rename_i c;rw[Zq c];split at n
 ·rename_i d
  rw[Zx d];exact⟨rfl,sM,oM⟩
 ·cases n
end Go.aq
namespace Go.Proofs.YtjgjkeponbeekaaGreatDoor
section
open Go.aq
def B_(n:List UInt8):List Value:=n.map λP=>Value.int .u8 (P.toNat:Int)
variable{e:Int}{w:List UInt8}{a c:Nat}{d:ac}{b:World}
def EK{f:Nat×Nat}(n:List UInt8)(P:b.heap[a]? =some (.cells (B_ n).toArray 5 f))(d:n.length<=1000):Row gh 1 b (·=a) (PP a) n.length n:=
 Row.lit (enc:=λc:UInt8=>Value.int .u8 (c.toNat:Int)) P n (by simp[B_]) (λ_ _=>trivial) (by unfold aT;omega)
def EM{D:LL}(A:qQ b)(P:Row gh 1 b D d a w)(B:∀n,D n->n<b.heap.size):
  am 241 #[.agg #[ZT e,.slice d a c]] b (Ok λC E=>∃u,C= .tuple #[u,ZT (kU e w).2]/\qD gh 5 b (kU e w).1 u E):=by
 have F:=P.len;refine GI (PA.mk λg j s1 k=>⟨d,a,c,ae k rfl,_,ae k rfl,al.dec (λh=>?_) (λh1=>⟨_,ae k rfl,al.dec (λh=>?_) (λh2=>al.dec (λh=>?_) (λh3=>?_))⟩)⟩)
 ·rw[show kU e w=([],2) by unfold kU;rw[Zx oM]]
  exact Ok.mk ⟨_,rfl,none,0,0,λ_=>False,rfl,aV.nil g,j,λ_ h=>h.elim⟩
 ·rw[show kU e w=([],2) by unfold kU;rw[Zx oM]]
  exact Ok.mk ⟨_,rfl,none,0,0,λ_=>False,rfl,aV.nil g,j,λ_ h=>h.elim⟩
 ·rw[show kU e w=([],5) by unfold kU;rw[Zq oM,Zx oM]]
  exact Ok.mk ⟨_,rfl,none,0,0,λ_=>False,rfl,aV.nil g,j,λ_ h=>h.elim⟩
 rw[show kU e w=(cC e w,0) by unfold kU;rw[Zq oM,Zq oM]];refine⟨_,ae k rfl,PA.mk λH l s2 I=>⟨d,a,c,ae (l.get k id) rfl,PA.mk λo m s3 J=>?_⟩⟩;have K:iA .i64 ((a:Nat):Int) 16=((a/65536:Nat):Int):=NY (k:=.i64) (u:=a) (m:=16) dC;have L:iA .i64 ((a:Nat):Int) 8=((a/256:Nat):Int):=NY (k:=.i64) (u:=a) (m:=8) dC;have M:e=((e.toNat:Nat):Int):=oM
 have N:H.heap[g.heap.size]? =some (.cells (B_ [UInt8.ofNat e.toNat,UInt8.ofNat (w.length/65536),UInt8.ofNat (w.length/256),UInt8.ofNat w.length]).toArray 5 (0,0)):=by
  rw[I,K,L,M,j_,j_,j_,j_,F];simp[B_]
 have O:Row gh 1 o (λn=>D n\/n=g.heap.size) (PP g.heap.size) 4 [UInt8.ofNat e.toNat,UInt8.ofNat (w.length/65536),UInt8.ofNat (w.length/256),UInt8.ofNat w.length]:=
  (EK (f:=(0,0)) [UInt8.ofNat e.toNat,UInt8.ofNat (w.length/65536),UInt8.ofNat (w.length/256),UInt8.ofNat w.length] (m.get N id) sM).mono λn P=>.inr P
 have Q:Row gh 1 o (λn=>D n\/n=g.heap.size) d a w:=(P.af ((j.then l).then m)).mono λn P=>.inl P;refine PC.ok (BY J O Q (λn P=>P.elim (λh=>by have:=B n h;omega) λh=>oM) oM (by unfold aT;omega)) ?_;rintro _ p ⟨a4,n4,c4,F4,rfl,i,R,v⟩;have S:[UInt8.ofNat e.toNat,UInt8.ofNat (w.length/65536),UInt8.ofNat (w.length/256),UInt8.ofNat w.length]++w=kD e w:=rfl;rw[S]at i;have a8:=i.len dC;have q:(kD e w).length=4+w.length:=by simp[kD];omega
 have r:ai b p:=((j.then l).then m).then R;refine⟨_,_,_,rfl,PC.ok (Ng (A.af r) (i.row (bytes:=1) dC (by rw[q];unfold aT;omega))) ?_⟩;rintro _ s ⟨rfl,T⟩;have t:ai p s:=T.keep;refine⟨_,rfl,?_⟩;generalize U:(Ly (kD e w)).toNat=f;have V:iA .u32 (f:Int) 24=((f/16777216:Nat):Int):=NY (k:=.u32) (u:=f) (m:=24) dC;have W:iA .u32 (f:Int) 16=((f/65536:Nat):Int):=NY (k:=.u32) (u:=f) (m:=16) dC;have X:iA .u32 (f:Int) 8=((f/256:Nat):Int):=NY (k:=.u32) (u:=f) (m:=8) dC;rw[V,W,X,j_,j_,j_,j_];refine PA.mk λY x s6 Z=>?_;have a1:Y.heap[s.heap.size]? =some (.cells (B_ (Qa f++[10])).toArray 5 (0,0)):=by rw[Z];rfl
 have a2:=(i.af t).af x;have a9:p.heap.size<=s.heap.size:=t.size;refine lG a2 tT (EK (Qa f++[10]) a1 (by simp[Qa])) (λn y=>⟨oM,λe2=>by have:=i.aE n (i.self n e2);omega⟩) (by rw[q];unfold aT;simp[Qa];omega) (by rw[q];unfold maxLen;simp[Qa];omega) λz c7 w7 F7 a3 a5 _ a6=>?_;refine⟨_,_,_,rfl,Ok.mk ⟨_,rfl,z,_,c7,λn=>aG z=some n,rfl,?_,?_,?_⟩⟩
 ·have h7:=a3.alone
  have y:cC e w=kD e w++(Qa f++[10]):=by unfold cC;rw[U,XQ]
  rw[y];exact h7
 ·exact((r.then t).then x).new a5 λn P=>.inr (by have:=v n (i.self n P);have:=j.size;have:=l.size;have:=m.size;omega)
 ·intro n P
  have b0:b.heap.size<=o.heap.size:=oM
  rcases a6 n P with h|h
  ·have:=v n h;omega
  ·have:=r.size;omega
def IZ{D:LL}(C:qQ b)(f:Row gh 1 b D d a w)(q:a<=c):
  am 225 #[.slice d a c] b (Ok λE F=>E= .tuple #[ZT (((br w).n-9:Nat):Int),ZT (br w).no]/\bC b F):=by
 have W:=f.len;have H:=f.fe;unfold aT at H;generalize r:(w.getD 1 0).toNat*65536+(w.getD 2 0).toNat*256+(w.getD 3 0).toNat=n;have P:=BZ w n r;refine BE (al.dec (λk=>?_) (λX=>?_))
 ·rw[P,Zx oM]
  exact Ok.mk ⟨rfl,bC.refl b⟩
 rw[Zq (show¬w.length<4 by omega)]at P;refine⟨oM,oM,oM,PC.ok (vU (bs:=(w.take 4).drop 1) (f.part (lo:=1) (hi:=4) (cap:=c) oM oM q) dC) ?_⟩;rintro _ Y ⟨rfl,rfl⟩;have I:gM ((w.take 4).drop 1)=n:=by
  rw[Ve oM];show gM [w.getD 1 0,w.getD 2 0,w.getD 3 0]=n;simp only[gM,List.foldl];omega
 have Z:n<16777216:=by
  have h1:=(w.getD 1 0).toNat_lt;have h2:=(w.getD 2 0).toNat_lt;have h3:=(w.getD 3 0).toNat_lt;omega
 rw[I];obtain⟨i,e,s,rfl,J,_,g⟩:=f.oy (i:=0) oM;have h:w.getD 0 0=s:=by rw[QQ,J];rfl
 have K:ZU .i64 (n:Int)=(n:Int):=wrap_i64 (by unfold aM;omega);have L:ZU .i64 (4+(n:Int))=((4+n:Nat):Int):=by rw[wrap_i64 (by unfold aM;omega)];omega
 have M:ZU .i64 (((4+n:Nat):Int)+5)=((4+n+5:Nat):Int):=by rw[wrap_i64 (by unfold aM;omega)];omega
 refine⟨_,rfl,i,e,rfl,oM,oM,_,g,?_⟩;rw[K,L,M];refine al.eL (λk=>?_) (λl=>al.dec (λk=>?_) (λa8=>al.dec (λk=>?_) (λa7=>?_)))
 ·rw[P,h,Zx (UInt8.toNat_inj.1 (by
                        have:s.toNat=0:=oM
                        rw[this];rfl))]
  exact Ok.mk ⟨rfl,bC.refl b⟩
 ·rw[P,h,Zq (by rintro rfl;exact l rfl),Zx oM]
  exact Ok.mk ⟨rfl,bC.refl b⟩
 ·rw[P,h,Zq (by rintro rfl;exact l rfl),Zq oM,Zx oM]
  exact Ok.mk ⟨rfl,bC.refl b⟩
 rw[h,Zq (by rintro rfl;exact l rfl),Zq (show¬65536<n by omega),Zq (show¬w.length<n+9 by omega)]at P;have j:=VT (b:=w) (n:=n) oM r oM;rw[h]at j;refine⟨oM,oM,oM,oM,oM,λw8 t N u=>⟨oM,oM,?_⟩⟩;have v:ai b N:=(t.then u).keep;have x:=f.af v;refine PC.ok (Ng (C.af v) (x.take (m:=4+n) oM)) ?_;rintro _ O ⟨rfl,y⟩;have z:=x.af y.keep;have A:=z.part (lo:=4+n) (hi:=4+n+4) (cap:=c) oM oM q;rw[show 4+n+4-(4+n)=4 by omega]at A;refine⟨_,rfl,PC.ok (vU A dC) ?_⟩;rintro _ a9 ⟨rfl,rfl⟩;have Q:(w.take (4+n+4)).drop (4+n)=(w.drop (4+n)).take 4:=by rw[List.drop_take];congr 1;omega
 rw[Q];have m:bC b O:=(t.then u).then y;refine⟨_,rfl,al.eM (λo=>?_) (λb0=>?_)⟩
 ·rw[P,Zq (λg=>o (by rw[(j.1 g).1]))]
  exact Ok.mk ⟨rfl,m⟩
 obtain⟨b7,o8,p,R,S,_,T⟩:=z.oy (i:=8+n) oM
 cases R
 have B:w.getD (8+n) 0=p:=by rw[QQ,S];rfl
 have U:cZ (some ⟨i,e,none⟩) (4+n) c 1=some ⟨i,e+(4+n),none⟩:=by
  unfold cZ;rw[Zq oM];simp[Addr.add_lit]
 refine⟨i,e+(4+n),U,oM,oM,_,by rw[show e+(4+n)+Int.toNat 4=e+(8+n) by show e+(4+n)+4=_;omega];exact T,al.eM (λo=>?_) (λhe=>?_)⟩
 ·rw[P,Zq (λg=>o (by rw[<-B,(j.1 g).2];rfl))]
  exact Ok.mk ⟨rfl,m⟩
 ·have V:p=10:=UInt8.toNat_inj.1 (by show p.toNat=10;omega)
  rw[P,Zx (j.2 ⟨oM,B.trans V⟩)];exact Ok.mk ⟨sM,m⟩
def EN{D:LL}(Q:qQ b)(P:Row gh 1 b D d a w)(s:a<=c)(t:∀n,D n->n<b.heap.size):
  am 163 #[.slice d a c] b (Ok λR u=>∃v x y z,R= .tuple #[.agg #[ZT (br w).kind,.slice v x y],ZT ((br w).n:Int),ZT (br w).no]/\
   aV gh 5 z u v x y (br w).body/\ai b u/\∀n,z n->b.heap.size<=n):=by
 have hn:=P.len;have S:=P.fe;unfold aT at S;refine GG (PA.mk λA h s1 T=>PC.ok (IZ (Q.af h) (P.af h) s) ?_);rintro _ B ⟨rfl,U⟩;have i:ai A B:=U.keep;have C:=i.get T id;refine⟨_,_,rfl,al.eM (λj=>?_) (λk=>?_)⟩
 ·have l:(br w).kind=0/\(br w).body=[]/\(br w).n=0:=by
   rw[BZ w _ rfl]at j⊢
   repeat' split
   all_goals first|exact⟨rfl,rfl,rfl⟩|skip
   rename_i V W X Y Z;rw[Zq V,Zq W,Zq X,Zq Y,Zx Z]at j;exact Zz rfl j
  rw[l.1,l.2.1,l.2.2];refine storeAll [ZT 0,.slice none 0 0] C rfl λf g s3 E=>⟨0,none,0,0,ae E rfl,ae E rfl,Ok.mk ⟨none,0,0,λ_=>False,rfl,aV.nil f,?_,λ_ m=>m.elim⟩⟩
  exact(h.then i).new g λn P=>.inr oM
 obtain⟨a0,h9,a1⟩:=vV k;generalize a2:(br w).n=e at a0 h9 a1;obtain⟨a3,F,b1⟩:=RN k;rw[a2]at F;have H:(br w).kind=((w.getD 0 0).toNat:Int)/\(br w).body=(w.drop 4).take (e-9):=⟨a3,F⟩
 intro f a5;have g:ai B f:=a5.keep;have o:ai b f:=(h.then i).then g;have p:=P.af o;obtain⟨I,o6,J,rfl,hx,_,hc⟩:=p.oy (i:=0) oM;obtain⟨b2,b3,x',es,a6,_,a7,_⟩:=p.Ie (i:=0) oM
 cases a6
 have a8:w.getD 0 0=J:=by rw[QQ,hx];rfl
 have e4:ZU .i64 (4+((e-9:Nat):Int))=((4+(e-9):Nat):Int):=by rw[wrap_i64 (by unfold aM;omega)];omega
 have e9:ZU .i64 (((4+(e-9):Nat):Int)+5)=(e:Int):=by rw[wrap_i64 (by unfold aM;omega)];omega
 refine⟨λn=>b.heap.size<=n,I,o6,rfl,oM,oM,by have:=t I a7;omega,_,hc,?_⟩;rw[e4,e9];refine⟨oM,oM,oM,?_⟩;have a4:=p.part (lo:=4) (hi:=4+(e-9)) (cap:=c) oM oM s;refine PC.ok (lF a4 (λn m=>by have:=t n m;have:=o.size;omega)) ?_;rintro _ w4 ⟨K,L,M,F4,rfl,a9,q,N⟩;have b4:A.heap.size<=f.heap.size:=(i.then g).size;have g4:=q.get (g.get C id) id;refine⟨_,_,_,rfl,q.keep,?_⟩;refine storeAll [ZT (ZU .i64 (J.toNat:Int)),.slice K L M] g4 rfl λw5 r s5 O=>⟨r.mono λn _ b0=>oM,_,_,_,_,ae O rfl,ae O rfl,Ok.mk ⟨K,L,M,F4,?_,?_,?_,?_⟩⟩
 ·rw[LU,H.1,a8,k]
 ·rw[H.2,<-show(w.take (4+(e-9))).drop 4=(w.drop 4).take (e-9) by rw[List.drop_take];congr 1;omega]
  exact a9.keep r λn P b0=>by have:=N n P;omega
 ·exact(o.then q).new r λn P=>.inr oM
 ·intro n P;have:=N n P;omega
end
section
open Go.aq
variable{Z o:Array Value}{b1:FrameMode}{A:FuncId}{e:Int}{b4 t:List Int}{a7:List PanicEntry->UV}{w:List UInt8}{I:List ah}{a c i:Nat}{f:LL}{Y a1:Operand}{d v:ac}{h:Program}{b:World}{z:UV}{m:ah}{T:ia}
def Sq(k:fy b a f T):
  am 228 #[L2 a,ZT e] b (Wh b a f T (if T.num.1=0 then(if T.num.2.1<0\/e<T.num.2.1 then 3 else 0)else T.num.1) (λi l=>i= ZT T.num.2.1) T.num.2.2):=by
 refine sT (PC.red (Fy k) ?_ ?_)
 rotate_left
 ·intro c j d g h
  rw[Zq c];exact⟨.inr ⟨c,rfl,d⟩,g,h⟩
 rintro c _ j d rfl g h;rw[Zx c];have P:T.num.2.1<0\/e<T.num.2.1->Wh b a f T (if T.num.2.1<0\/e<T.num.2.1 then 3 else 0) (λi l=>i= ZT T.num.2.1) T.num.2.2 (.panicked (Vm 3)) j:=λn=>by
  rw[Zx n];exact⟨.inr ⟨dC,rfl,_,d⟩,g,h⟩
 refine⟨_,rfl,al.dec (λm=>gq (λn=>⟨rfl,?_⟩) (λn=>P (.inr ?_))) (λm=>gq (λn=>by cases n) (λ_=>P (.inl oM)))⟩
 ·have n:=XV n
  rw[Zq oM];exact⟨.inl ⟨rfl,d,_,rfl,rfl⟩,g,h⟩
 ·have n:=Xy n
  omega
def JC:(do eqGuard .eql 20 Y (.const .nilIface) .nilIface .nilIface;binOp .eql 20 .nilIface .nilIface:Sem Value).run WP b= .ok (.bool true) b:=by
 cases Y<;>rfl
def Hm:(do eqGuard .eql 20 Y a1 (.iface 372 (ZT e)) .nilIface;binOp .eql 20 (.iface 372 (ZT e)) .nilIface:Sem Value).run WP b= .ok (.bool false) b:=by
 rfl
def JD:(Instr.typeAssert (.iface 372 (ZT e)) 20 372 true).run WP b= .ok (.tuple #[ZT e,.bool true]) b:=by
 rfl
def Lv.ret{ret:UV}(n:b1= .returning)(P:ret b):Lv h ret a7 [] b1 b:=by
 subst n;unfold Lv;exact P
def Lv.one(a:b1≠.run)(c:enters h A=true)(d:CallsD h A o b1 b λe n P=>RY e (λ_=>Lv h z a7 [] (settle n) P) (λf=>Lv h z a7 [] (raised n f) P)):Lv h z a7 [{target:=.fn (.func A) o,args:= #[]}] b1 b:=
 ⟨a,A,o,rfl,c,by rw[show(#[]++o:Array Value)=o by simp];exact d⟩
def CE{h S:LL}(d:fy b a h T){i:FuncId}(I:enters WP i=true){A:UV}{no:Int}(t:∀e,S e->e<b.heap.size)(J:T.sv=0->∀c,ai b c->am i (o++ #[]++Z) c λP n=>aj S c n/\((no=0/\P= .returned (.tuple #[])/\A n)\/(no≠0/\(no=3\/no=4\/no=5)/\P= .panicked (Vm no)/\aj (·=a) c n/\∃u,fy n a h ⟨T.bytes,u,0⟩))):
  am 226 #[L2 a,.func (.func i) o Z] b (Ok λK n=>K= .tuple #[]/\aj (λe=>S e\/e=a) b n/\
   ((T.sv≠0/\ai b n)\/(T.sv=0/\no=0/\aj S b n/\A n)\/(T.sv=0/\no≠0/\aj (·=a) b n/\fy n a h ⟨T.bytes,T.pos,no⟩))):=by
 obtain⟨a0,a2,L,G,v,h2,h3⟩:=d.body;have hp:=aA v;refine qb (PA.mk λc j s1 k=>?_);have w:=j.get v id;refine⟨_,ae k rfl,a,0,rfl,_,ae w rfl,al.eM (λM=>Ok.mk ⟨rfl,j.keep,.inl ⟨M,j⟩⟩) (λl=>?_)⟩;refine⟨_,ae k rfl,a,0,rfl,_,ae w rfl,PA.mk λw2 N s2 O=>PS.mk O sM λm Q s3 R=>⟨i,o,Z,rfl,I,?_⟩⟩;have x:aj (·=c.heap.size) c m:=N.keep.then Q;have p:ai b m:=j.new x λe hb=>.inr oM;refine(J l m p).mono ?_;rintro P f ⟨q,U⟩;have y:f.heap[b.heap.size]? =some (.cells #[L2 a] 280 (0,0)):=q.get (x.get k (by intro P;omega)) (λr=>by have:=t _ r;omega);have V:f.heap[c.heap.size]? =some (.cells #[ZT (T.pos:Int)] 3 (0,0)):=q.get R (λr=>by have:=t _ r;omega);have z:aj S b f:=p.keep.then q;rcases U with⟨s,rfl,W⟩|⟨s,X,rfl,Y,u,B⟩
 ·refine⟨rfl,Lv.one sM kR ?_⟩
  refine CallsD.mono (gH (rv:=.nilIface) (u:=.returning) rfl (R:=λP g n=>P= .returned (.tuple #[])/\g= .returning/\n=f) ?_) ?_
  ·exact aJ.mk JC ⟨_,rfl,al.tt rfl ⟨rfl,rfl,rfl⟩⟩
  ·rintro P g n ⟨rfl,rfl,rfl⟩
   refine Lv.ret rfl ?_;exact Ok.mk ⟨rfl,z.mono λ_ _ d=>.inl d,.inr (.inl ⟨l,s,z,W⟩)⟩
 ·refine Lv.one sM kR ?_
  obtain⟨a',n',C,G',e1,e2,e3⟩:=B.body;refine CallsD.mono (gH (rv:=.iface 372 (ZT no)) (u:=.panicking (Vm no)) rfl (R:=λP g n=>P= .returned (.tuple #[])/\settle g= .returning/\fy n a h ⟨T.bytes,T.pos,no⟩/\aj (·=a) b n) ?_) ?_
  ·refine aJ.mk (v:=.bool false) (w':=f) ?_ ⟨_,rfl,al.ff rfl (aJ.mk (v:=.tuple #[ZT no,.bool true]) (w':=f) ?_ ⟨_,_,rfl,al.tt rfl ?_⟩)⟩
   ·exact Hm
   ·exact JD
   ·refine⟨_,ae y rfl,_,ae y rfl,_,ae V rfl,a,0,rfl,PS.mk e1 sM λw5 E s5 g5=>⟨a,0,rfl,PS.mk g5 sM λw6 F s6 g6=>⟨rfl,rfl,?_,?_⟩⟩⟩
    ·exact B.fg (r':=⟨T.bytes,T.pos,no⟩) e2 e3 (E.then F) g6 rfl ⟨d.fit.pos,.inr X⟩
    ·exact(p.keep.then Y).then (E.then F)
  ·rintro P g n ⟨rfl,fL,a1,H⟩
   refine Lv.ret fL ?_;exact Ok.mk ⟨rfl,H.mono λ_ _ d=>.inr d,.inr (.inr ⟨l,s,H,a1⟩)⟩
def GP(n:fy b a f T):
  am 166 #[L2 a] b (Ok λq g=>q= ZT (fl T).1/\fy g a f (fl T).2/\aj (·=a) b g):=by
 have O:a<b.heap.size:=n.aE a n.self;refine vz (PA.mk λk F Q w=>PA.mk λH r R s=>⟨_,ae (r.get w id) rfl,?_⟩);have x:ai b H:=F.then r;have t:=n.af x;have I:=r.get w id;refine PC.ok (CE (S:=λe=>e=a\/e=k.heap.size) (no:=T.num.1) (A:=λg=>fy g a f ⟨T.bytes,T.pos+T.num.2.2,T.sv⟩/\g.heap[k.heap.size]? =some (.cells #[ZT T.num.2.1] 3 (0,0))) t kR ?_ ?_) ?_
 ·rintro e (rfl|rfl)<;>omega
 ·intro J l p
  refine sU ⟨_,ae (p.get I id) rfl,PC.red (Fy (t.af p)) ?_ ?_⟩
  ·rintro h _ y P rfl i z
   have u:=i.get (p.get s id) oM;refine⟨_,rfl,PS.mk u sM λS A U K=>⟨(i.mono λ_ _ n=>.inl n).then (A.mono λ_ _ n=>.inr n),.inl ⟨h,rfl,P.keep A λe m d=>?_,K⟩⟩⟩;have:=n.aE e m;omega
  ·rintro h y P i z
   rw[J]at P;have:=ki (T.bytes.drop T.pos);exact⟨i.mono λ_ _ n=>.inl n,.inr ⟨h,by have:=this.2.2.2.1;unfold ia.num at h⊢;omega,rfl,i,P⟩⟩
 ·rintro _ l ⟨rfl,p,L⟩
  have M:aj (·=a) b l:=x.keep.new p λe m=>by
   rcases m with(rfl|rfl)|rfl
   ·exact .inl rfl
   ·exact .inr oM
   ·exact .inl rfl
  have c:∀v:Int,l.heap[k.heap.size]? =some (.cells #[ZT v] 3 (0,0))->fy l a f (fl T).2->v=(fl T).1->
    (∃B:Int,l.cell? ⟨k.heap.size,0,none⟩=some (ZT B)/\PS l ⟨k.heap.size,0,none⟩ (ZT B) λC=>∃E:Int,C.cell? ⟨k.heap.size,0,none⟩=some (ZT E)/\
     Ok (λq g=>q= ZT (fl T).1/\fy g a f (fl T).2/\aj (·=a) b g) (.returned (ZT E)) C):=by
   rintro v j P rfl;refine⟨_,ae j rfl,PS.mk j sM λy i z u=>⟨_,ae u rfl,Ok.mk ⟨rfl,P.keep i λe m d=>?_,M.new i λe m=>.inr oM⟩⟩⟩;have:=n.aE e m;omega
  refine⟨rfl,?_⟩;rcases L with⟨o,j⟩|⟨o,h,_,P,j⟩|⟨o,h,N,P⟩
  ·have d:fl T=(0,T):=by unfold fl;rw[Zx o]
   exact c 0 (j.get s id) (by rw[d];exact t.af j) (by rw[d])
  ·have d:fl T=(T.num.2.1,⟨T.bytes,T.pos+T.num.2.2,0⟩):=by unfold fl;rw[Zq (by simp[o]),Zx h]
   exact c _ j (by rw[d];rw[o]at P;exact P) (by rw[d])
  ·have d:fl T=(0,⟨T.bytes,T.pos,T.num.1⟩):=by unfold fl;rw[Zq (by simp[o]),Zq h]
   exact c 0 (N.get s oM) (by rw[d];exact P) (by rw[d])
def IY{m:Int}(P:fy b a f T):
  am 165 #[L2 a,ZT m] b (Ok λv i=>v= ZT (bE m T).1/\fy i a f (bE m T).2/\aj (·=a) b i):=by
 have Y:a<b.heap.size:=P.aE a P.self;refine sP (PA.mk λZ M s1 C=>PA.mk λl w sm N=>PA.mk λO u s2 x=>⟨_,ae (u.get (w.get C id) id) rfl,?_⟩);have E:ai b O:=(M.then w).then u;have y:=P.af E;have Q:=u.get (w.get C id) id;have R:=u.get N id;generalize g:(if T.num.1=0 then(if T.num.2.1<0\/m<T.num.2.1 then 3 else 0)else T.num.1:Int)=no;refine PC.ok (CE (S:=λh=>h=a\/h=l.heap.size) (no:=no) (A:=λi=>fy i a f ⟨T.bytes,T.pos+T.num.2.2,T.sv⟩/\i.heap[l.heap.size]? =some (.cells #[ZT T.num.2.1] 3 (0,0))) y kR ?_ ?_) ?_
 ·rintro h (rfl|rfl)<;>omega
 ·intro S o p
  refine qk ⟨_,ae (p.get Q id) rfl,_,ae (p.get R id) rfl,PC.red (Sq (y.af p)) ?_ ?_⟩
  ·rintro c _ F d rfl j H
   rw[g]at c;have z:=j.get (p.get x id) oM;refine⟨_,rfl,PS.mk z sM λw5 I s5 U=>⟨(j.mono λ_ _ P=>.inl P).then (I.mono λ_ _ P=>.inr P),.inl ⟨c,rfl,d.keep I λh q n=>?_,U⟩⟩⟩;have:=P.aE h q;omega
  ·rintro c F d j H
   rw[g]at c⊢;rw[S]at d;have A:=(ki (T.bytes.drop T.pos)).2.2.2.1;refine⟨j.mono λ_ _ P=>.inl P,.inr ⟨c,?_,rfl,j,d⟩⟩
   change T.num.1=0\/T.num.1=4\/T.num.1=5 at A
   rw[<-g]at c⊢;split
   ·rename_i n
    rw[Zx n]at c;split
    ·exact .inl rfl
    ·rename_i s;rw[Zq s]at c;exact Zz rfl c
   ·omega
 ·rintro _ o ⟨rfl,p,V⟩
  have W:aj (·=a) b o:=E.keep.new p λh q=>by
   rcases q with(rfl|rfl)|rfl
   ·exact .inl rfl
   ·exact .inr oM
   ·exact .inl rfl
  have e:∀B:Int,o.heap[l.heap.size]? =some (.cells #[ZT B] 3 (0,0))->fy o a f (bE m T).2->B=(bE m T).1->
    (∃J:Int,o.cell? ⟨l.heap.size,0,none⟩=some (ZT J)/\PS o ⟨l.heap.size,0,none⟩ (ZT J) λK=>∃L:Int,K.cell? ⟨l.heap.size,0,none⟩=some (ZT L)/\
     Ok (λv i=>v= ZT (bE m T).1/\fy i a f (bE m T).2/\aj (·=a) b i) (.returned (ZT L)) K):=by
   rintro B k d rfl;refine⟨_,ae k rfl,PS.mk k sM λF j H z=>⟨_,ae z rfl,Ok.mk ⟨rfl,d.keep j λh q n=>?_,W.new j λh q=>.inr oM⟩⟩⟩;have:=P.aE h q;omega
  refine⟨rfl,?_⟩;rcases V with⟨r,k⟩|⟨r,c,_,d,k⟩|⟨r,c,X,d⟩
  ·have n:bE m T=(0,T):=by unfold bE;rw[Zx r]
   exact e 0 (k.get x id) (by rw[n];exact y.af k) (by rw[n])
  ·have n:bE m T=(T.num.2.1,⟨T.bytes,T.pos+T.num.2.2,0⟩):=by
    have A:=(ki (T.bytes.drop T.pos)).2.2.2.1
    change T.num.1=0\/T.num.1=4\/T.num.1=5 at A
    unfold bE;rw[Zq (by simp[r])];split at g
    ·rename_i t
     rw[Zx t];split at g
     ·omega
     ·rename_i s;rw[Zq s]
    ·omega
   exact e _ k (by rw[n];rw[r]at d;exact d) (by rw[n])
  ·have n:bE m T=(0,⟨T.bytes,T.pos,no⟩):=by
    unfold bE;rw[Zq (by simp[r])];split at g
    ·rename_i t
     rw[Zx t];split at g
     ·rename_i s;rw[Zx s,g]
     ·omega
    ·rename_i t;rw[Zq t,g]
   exact e 0 (X.get x oM) (by rw[n];exact d) (by rw[n])
def Nj(e:fy b a f T):
  am 167 #[L2 a] b (Ok λg h=>g= ZT (ic T)/\bC b h):=by
 obtain⟨m,o,i,G,P,j,p⟩:=e.body;have q:=j.len dC;have d:T.sv≠0\/¬T.pos<T.bytes.length->ic T=T.sv:=λr=>by unfold ic;rw[Zq oM]
 refine uh ⟨a,0,rfl,_,ae P rfl,al.eL (λc=>⟨a,0,rfl,_,ae P rfl,a,0,rfl,_,_,_,ae P rfl,λk n=>al.dec (λl=>?_) λl=>?_⟩) (λc k n=>?_)⟩
 ·exact Ok.mk ⟨by unfold ic;rw[Zx ⟨c,oM⟩],n⟩
 ·exact⟨a,0,rfl,_,ae ((n.keep (S:=λ_=>False)).get P id) rfl,Ok.mk ⟨by rw[d (.inr oM)],n⟩⟩
 ·exact⟨a,0,rfl,_,ae ((n.keep (S:=λ_=>False)).get P id) rfl,Ok.mk ⟨by rw[d (.inl c)],n⟩⟩
def uZ:kM WP 42 3 1 8:=⟨kR,kR,dC⟩
def aH(n:ah)(P:ac)(a b:Nat):List Value:=
 [ZT n.origin,ZT n.seq,ZT n.aB,.slice P a b,ZT n.aZ,ZT n.agg,ZT n.field,ZT n.op,ZT n.arg,ZT n.key]
def kq:kr ah where
 k:=10
 rep:=λh D c cs=>∃n P a,cs=aH c n P a/\Row aP 8 h D n P c.aN/\c.Ok
 keep:=λ⟨n,P,a,b,d,e⟩ i f=>⟨n,P,a,b,d.keep i f,e⟩
 mono:=λ⟨n,P,a,b,d,e⟩ f=>⟨n,P,a,b,d.mono f,e⟩
 len:=λ⟨n,P,a,b,_,_⟩=>by rw[b];rfl
 one:=λ⟨n,P,a,b,_,_⟩ j g=>by
  rw[b]at g;simp only[aH,Q2,List.not_mem_nil,or_false]at g;rcases g with rfl|rfl|rfl|rfl|rfl|rfl|rfl|rfl|rfl|rfl<;>rfl
def vS:kr ah where
 k:=10
 rep:=λl D e cs=>∃n P a b,cs=aH e n P a/\aV aP 3 b l n P a e.aN/\(∀c,b c->D c)/\e.Ok/\e.aN.length*8<=aT
 keep:=λ⟨n,P,a,b,d,g,f,h⟩ m i=>⟨n,P,a,b,d,g.keep m (λc j=>i c (f c j)),f,h⟩
 mono:=λ⟨n,P,a,b,d,g,f,h⟩ i=>⟨n,P,a,b,d,g,λc j=>i c (f c j),h⟩
 len:=λ⟨n,P,a,b,d,_⟩=>by rw[d];rfl
 one:=λ⟨n,P,a,b,d,_⟩ o k=>by
  rw[d]at k;simp only[aH,Q2,List.not_mem_nil,or_false]at k;rcases k with rfl|rfl|rfl|rfl|rfl|rfl|rfl|rfl|rfl|rfl<;>rfl
def vS.read{D:LL}{cs:List Value}(n:vS.rep b D m cs):kq.rep b D m cs:=by
 obtain⟨P,a,c,i,d,e,f,g,h⟩:=n;exact⟨P,a,c,d,(e.row dC h).mono f,g⟩
def vS.row{D:LL}(n:Row vS 96 b D d a I):Row kq 96 b D d a I:=
 ⟨n.len,n.fe,λc e f=>by
  obtain⟨g,P,h,i,j,k,l,m⟩:=n.el c e f;exact⟨g,P,h,i,j,k,l,vS.read m⟩⟩
def Kp:kM WP 59 63 10 96:=⟨kR,kR,dC⟩
def GO{r s:Nat}{k D:LL}{l S:Nat}(C:b.heap[a]? =some (.cells #[.slice d r s] 237 (0,0)))(g:aV gh 5 k b d r s w)(q:Row aP 8 b D v l t)(T:¬k a)(U:¬D a)(V:w.length+9*t.length+9<=aT):
  am 314 #[.slice v l S,L2 a] b (Ok λW h=>W= .tuple #[]/\∃c e f j,h.heap[a]? =some (.cells #[.slice c e f] 237 (0,0))/\
   aV gh 5 j h c e f (w++bj t)/\¬j a/\aj (·=a) b h/\∀n,j n->k n\/b.heap.size<=n):=by
 have X:=q.len;have a7:=aA C;have Y:=q.fe;unfold aT at Y;refine DI ⟨λE i h=>∃P:Nat,i=P/\P<=l/\E=l-P/\∃c e f j,h.heap[a]? =some (.cells #[.slice c e f] 237 (0,0))/\
   aV gh 5 j h c e f (w++bj (t.take P))/\¬j a/\aj (·=a) b h/\∀n,j n->k n\/b.heap.size<=n,
  ⟨_,0,rfl,Qj _,rfl,d,r,s,k,C,by simpa[bj]using g,T,aj.refl _,λn u=>.inl u⟩,?_⟩
 rintro E i _ w1 ⟨P,rfl,hj,rfl,F,H,I,Z,x,m,a0,o,a1⟩;refine al.dec (λh1=>?_) (λh1=>?_)
 ·obtain⟨n,y,z,rfl,A,B,hc⟩:=(q.keep o (λn g p=>U (p▸g))).oy (i:=P) oM
  refine⟨n,y,rfl,oM,oM,z,hc,F,H,I,ae x rfl,?_⟩;have a8:(bj (t.take P)).length<=9*P:=by
   have:=fT (l:=t.take P) (λa9 hy=>by
    obtain⟨J,K⟩:=List.getElem?_of_mem (List.mem_of_mem_take hy);have a2:J<l:=by rw[X];exact(Qv.1 K).1
    obtain⟨_,_,b0,_,L,a3,_⟩:=q.oy (i:=J) a2;rw[K]at L;cases L;exact a3)
   simp only[Qy]at this;omega
  have a4:=m.len dC;rw[QX]at a4;unfold aT at V;refine PC.ok (BU B (m.row (bytes:=1) dC (by rw[QX];unfold aT;omega)) (by unfold aT;omega) m.aE) ?_;rintro _ w2 ⟨a5,n2,c2,M,rfl,a6,N,O⟩;have Q:¬M a:=λu=>by have:=O a u;have:=o.size;omega
  refine⟨_,_,_,rfl,PS.mk (N.get x id) sM λw3 R s3 g3=>⟨_,oM,P+1,an oM,oM,rfl,a5,n2,c2,M,g3,?_,Q,(o.af N).then R,λn g=>.inr (Xx o.size (O n g))⟩⟩;rw[Qw,A];have p:w++bj (List.take P t++(some z).toList)=w++bj (List.take P t)++dY z:=by rw[iS];simp[bj]
  rw[p];exact a6.keep R λn g p=>Q (p▸g)
 ·rw[Qz oM]at m
  exact Ok.mk ⟨rfl,F,H,I,Z,x,m,a0,o,a1⟩
def BV{f:Nat×Nat}(n:List Int)(P:b.heap[a]? =some (.cells (n.map (Value.int .i64)).toArray 3 f))(c:∀d∈n,aM d)(e:n.length<=1000):Row aP 8 b (·=a) (PP a) n.length n:=
 Row.lit P n sM c (by unfold aT;omega)
def OM{D:LL}(w:Row aP 8 b D d a m.aN)(n:m.Ok)(F:∀P,D P->P<b.heap.size):
  am 264 #[.agg (aH m d a c).toArray] b (Ok λH I=>∃x,H= .tuple #[x,ZT (jw m).2]/\qD gh 5 b (jw m).1 x I):=by
 have J:=w.len;refine ID (PA.mk λi l s1 y=>⟨d,a,c,ae y rfl,al.dec (λh=>?_) (λh=>?_)⟩)
 ·have q:jw m=([],3):=by unfold jw;rw[Zx oM]
  rw[q];exact Ok.mk ⟨_,rfl,none,0,0,λ_=>False,rfl,aV.nil i,l,λ_ h=>h.elim⟩
 have a8:m.aN.length<=64:=oM
 have q:jw m=(bj (fU m),0):=by unfold jw;rw[Zq oM]
 rw[q];have z:∀P,D P->P<i.heap.size:=λP f=>Qk (F P f) l.size;refine PA.mk λj r s2 K=>?_;have k:=r.get y id;refine⟨_,ae k rfl,_,ae k rfl,_,ae k rfl,_,_,_,ae k rfl,PA.mk λA B s3 L=>⟨_,_,_,rfl,kR,?_⟩⟩;have M:Row aP 8 A (·=j.heap.size) (PP j.heap.size) 4 [m.origin,m.seq,m.aB,(m.aN.length:Int)]:=
  BV (f:=(0,0)) [m.origin,m.seq,m.aB,(m.aN.length:Int)] (by rw[L,<-J];rfl) (by intro s e;simp at e;rcases e with rfl|rfl|rfl|rfl;exact n.origin;exact n.seq;exact n.aB;unfold aM;omega) sM
 refine PC.ok (GO (B.get K id) (aV.nil A) M id (by show¬i.heap.size=j.heap.size;omega) (by unfold aT;simp)) ?_;rintro _ C ⟨rfl,a4,n4,c4,F4,N,O,Q,R,S⟩;have o:aj (·=i.heap.size) j C:=B.keep.then R;have E:=o.get k oM;have T:Row aP 8 C D d a m.aN:=((w.af (l.then r)).keep o λP f m=>by have:=z P f;omega)
 refine⟨rfl,_,_,_,ae E rfl,_,_,_,rfl,kR,PC.ok (GO N O T Q (λh=>by have:=z _ h;omega) ?_) ?_⟩
 ·have t:=fT (l:=[m.origin,m.seq,m.aB,(m.aN.length:Int)]) (by intro s e;simp at e;rcases e with rfl|rfl|rfl|rfl;exact n.origin;exact n.seq;exact n.aB;unfold aM;omega)
  simp only[List.nil_append,Xq,ZQ]at t⊢;unfold aT;omega
 rintro _ u ⟨rfl,a5,n5,c5,F5,U,V,W,v,X⟩;have g:=v.get E oM;refine⟨rfl,_,ae g rfl,_,ae g rfl,_,ae g rfl,_,ae g rfl,_,ae g rfl,_,ae g rfl,PA.mk λY p s6 Z=>⟨_,_,_,rfl,kR,?_⟩⟩;have r6:Row aP 8 Y (·=u.heap.size) (PP u.heap.size) 6 [m.aZ,m.agg,m.field,m.op,m.arg,m.key]:=
  BV (f:=(0,0)) [m.aZ,m.agg,m.field,m.op,m.arg,m.key] Z (by intro s e;simp at e;rcases e with rfl|rfl|rfl|rfl|rfl|rfl;exact n.aZ;exact n.agg;exact n.field;exact n.op;exact n.arg;exact n.key) sM
 have a6:=o.size;have a9:=v.size;refine PC.ok (GO (p.get U id) (V.af p) r6 W (by show¬i.heap.size=u.heap.size;omega) ?_) ?_
 ·have t:=fT (l:=[m.origin,m.seq,m.aB,(m.aN.length:Int)]) (by intro s e;simp at e;rcases e with rfl|rfl|rfl|rfl;exact n.origin;exact n.seq;exact n.aB;unfold aM;omega)
  have h2:=fT n.aN;simp only[List.nil_append,Xq,ZQ,QX]at t h2⊢;unfold aT;omega
 rintro _ w7 ⟨rfl,a7,n7,c7,F7,g7,a2,b0,k7,a3⟩;refine⟨rfl,_,_,_,ae g7 rfl,Ok.mk ⟨_,rfl,a7,n7,c7,F7,rfl,?_,?_,?_⟩⟩
 ·have:fU m=[m.origin,m.seq,m.aB,(m.aN.length:Int)]++m.aN++[m.aZ,m.agg,m.field,m.op,m.arg,m.key]:=rfl
  rw[this,iS,iS];exact a2
 ·have ka:ai b j:=l.then r
  exact(ka.new ((o.then v).then (p.keep.then k7)) λP f=>.inr oM)
 ·intro P f
  rcases a3 P f with h|h
  ·rcases X P h with h|h
   ·rcases S P h with h|h
    ·exact h.elim
    ·omega
   ·omega
  ·have:=p.size;omega
def rr(P:List Int)(a:ac)(b c:Nat)(n:List Int):List Value:=
 [ZT (P.getD 0 0),ZT (P.getD 1 0),ZT (P.getD 2 0),.slice a b c,ZT (n.getD 0 0),ZT (n.getD 1 0),ZT (n.getD 2 0),ZT (n.getD 3 0),ZT (n.getD 4 0),ZT (n.getD 5 0)]
def LM(n:t.length=i)(P:i<3):(rr t d a c b4).toArray.setIfInBounds i (ZT e)=(rr (t++[e]) d a c b4).toArray:=by
 match t,n with
 |[],n=>subst n;rfl
 |[_],n=>subst n;rfl
 |[_,_],n=>subst n;rfl
 |_::_::_::_,n=>simp at n;omega
def LN(n:b4.length=i)(P:i<6):(rr t d a c b4).toArray.setIfInBounds (4+i) (ZT e)=(rr t d a c (b4++[e])).toArray:=by
 match b4,n with
 |[],n=>subst n;rfl
 |[_],n=>subst n;rfl
 |[_,_],n=>subst n;rfl
 |[_,_,_],n=>subst n;rfl
 |[_,_,_,_],n=>subst n;rfl
 |[_,_,_,_,_],n=>subst n;rfl
 |_::_::_::_::_::_::_,n=>simp at n;omega
def mr(n:Nat)(P:ia):aW (n+1) P=((aW n P).1++[(fl (aW n P).2).1],(fl (aW n P).2).2):=rfl
def ON{D:LL}(e:Row gh 1 b D d a w)(hD:∀n,D n->n<b.heap.size):
  am 231 #[.slice d a c] b (Ok λa8 j=>∃a' n' c' v,a8= .tuple #[.agg (aH (iU w).1 a' n' c').toArray,ZT (iU w).2]/\aV aP 3 v j a' n' c' (iU w).1.aN/\ai b j/\∀n,v n->b.heap.size<=n):=by
 refine IE (PA.mk λw1 k1 s1 g1=>PC.ok (EH (e.af k1) (λn h=>by have:=hD n h;omega)) ?_);rintro _ g ⟨i,a0,rfl,T,k2,hP⟩;refine⟨_,rfl,PA.mk λw3 U s3 g3=>PA.mk λx y s4 g4=>?_⟩;have c3:=T.self;have h5:w1.heap.size<=i/\i<g.heap.size:=⟨hP i c3,T.aE i c3⟩
 have V:=T.aE;have h3:=k2.size;have d9:=y.get g3 id;have e0:=y.get (U.get (k2.get g1 id) id) id;have e1:=(T.af U).af y;have b1:ai b x:=((k1.then k2).then U).then y;refine⟨λm B j=>∃P:Nat,B=P/\P<=3/\m=3-P/\j.heap[g.heap.size]? =some (.cells (rr (aW P ⟨w,0,0⟩).1 none 0 0 []).toArray 63 (0,0))/\fy j i a0 (aW P ⟨w,0,0⟩).2/\aj (λn=>n=g.heap.size\/n=i) x j,
  ⟨_,0,rfl,oM,rfl,d9,e1,aj.refl _⟩,?_⟩
 rintro m B _ w5 ⟨P,rfl,hj,rfl,c4,c5,k5⟩;have c6:(ia.mk w 0 0).Fit:=⟨Qj _,.inl rfl⟩
 refine al.dec (λN=>?_) (λN=>?_)
 ·have c7:P<3:=oM
  have g5:=k5.get g4 oM;have a1:w5.cell? ⟨w3.heap.size,0+Int.toNat (P:Int),none⟩=some (.pointer (some ⟨g.heap.size,P,none⟩)):=by
   rw[Qx,Xz]
   match P,c7 with
   |0,_=>exact ae g5 rfl
   |1,_=>exact ae g5 rfl
   |2,_=>exact ae g5 rfl
  refine⟨_,_,rfl,oM,oM,_,a1,PC.ok (GP c5) ?_⟩;rintro _ w6 ⟨rfl,O,Q⟩;have W:=Q.get c4 oM;refine⟨_,rfl,_,_,rfl,PS.mk W (by simp[rr];omega) λX C s7 g7=>⟨_,oM,P+1,an oM,oM,rfl,?_,?_,?_⟩⟩
  ·rw[g7,LM (c6.ints P).2.2.1 c7];rfl
  ·rw[mr]
   exact O.keep C λn e r=>by have:=V n e;omega
  ·exact k5.then ((Q.mono λ_ _ h=>.inr h).then (C.mono λ_ _ h=>.inl h))
 obtain rfl:P=3:=oM
 obtain⟨c8,e3,h6,_⟩:=c6.ints 3;refine PC.ok (IY c5) ?_;rintro _ w6 ⟨rfl,O,Q⟩;have W:=Q.get c4 oM;have e4:aj (λn=>n=g.heap.size\/n=i) x w6:=k5.then (Q.mono λ_ _ h=>.inr h);generalize hL:(aW 3 ⟨w,0,0⟩).1=H at W e3;generalize hR:(aW 3 ⟨w,0,0⟩).2=a5 at O c8;obtain⟨Y,e5,c9,_⟩:=c8.count (m:=64) oM;generalize hC:(bE 64 a5).1=I at e5 c9;generalize e6:(bE 64 a5).2=E at O Y;refine⟨_,rfl,λm B j=>∃P:Nat,B=P/\P<=I.toNat/\m=I.toNat-P/\∃s o t v,j.heap[g.heap.size]? =some (.cells (rr H s o t []).toArray 63 (0,0))/\fy j i a0 (aW P E).2/\
   aV aP 3 v j s o t (aW P E).1/\(∀n,v n->x.heap.size<=n)/\aj (λn=>n=g.heap.size\/n=i) x j,
  ⟨_,0,rfl,oM,rfl,none,0,0,λ_=>False,W,O,aV.nil w6,λ_ h=>h.elim,e4⟩,?_⟩
 rintro m B _ X ⟨P,rfl,hj,rfl,s,o,t,v,b8,b9,c1,z,C⟩;have h7:=C.size;refine al.dec (λN=>?_) (λN=>?_)
 ·intro J d0
  have p:ai X J:=d0.keep;have s8:J.heap.size=X.heap.size:=by rw[d0.heap]
  refine⟨λn=>n≠g.heap.size,sM,s,o,t,ae (p.get b8 id) rfl,PC.ok (GP (b9.af p)) ?_⟩;rintro _ K ⟨rfl,Z,u⟩;have b2:=(Y.ints P).2.2.1;refine⟨_,rfl,u.mono (λn _ h=>oM),?_⟩;have L:aV aP 3 v K s o t (aW P E).1:=(c1.af p).keep u λn e r=>by have:=z n e;have:=y.size;omega
  refine PA.mk λA l h8 e7=>⟨l.keep,?_⟩
  have a2:=L.af l;have b0:=u.get (p.get b8 id) oM;have k:=l.get b0 id;have e8:=((Y.ints P).1.int).2.1;have d1:Row aP 8 A (·=K.heap.size) (PP K.heap.size) 1 [(fl (aW P E).2).1]:=BV (f:=(0,0)) [(fl (aW P E).2).1] e7 (by simpa using e8) sM;refine lG a2 uZ d1 (λn r=>⟨oM,?_⟩) (by rw[b2];unfold aT;simp;omega) (by rw[b2];unfold maxLen;simp;omega) λd2 e9 R h9 d3 a3 h4 b3=>?_
  ·intro e2
   have:=L.aE n (L.self n e2);omega
  refine⟨_,_,_,rfl,PS.mk (a3.get k ?_) (by simp[rr]) λi0 c2 i1 f2=>⟨_,oM,P+1,an oM,oM,rfl,d2,o+1,e9,λn=>aG d2=some n,?_,?_,?_,?_,?_⟩⟩
  ·intro r;have:=z _ (L.self _ r);have:=y.size;omega
  ·rw[f2];rfl
  ·rw[mr]
   refine((Z.af l).keep a3 λn e r=>?_).keep c2 λn e r=>?_
   ·have:=z _ (L.self _ r);have:=V n e;have:=y.size;have:=U.size;omega
   ·have:=V n e;omega
  ·have f3:=d3.alone
   rw[mr];refine f3.keep c2 λn e r=>?_;rcases b3 n e with h|h
   ·have:=z n h;have:=y.size;omega
   ·have:=l.size;have:=u.size;have:=p.size;omega
  ·intro n e
   rcases b3 n e with h|h
   ·exact z n h
   ·have:=l.size;have:=u.size;have:=p.size;omega
  ·have ka:aj (λn=>n=g.heap.size\/n=i) x A:=((C.af p).then (u.mono λ_ _ h=>.inr h)).af l
   have kb:aj (λn=>n=g.heap.size\/n=i) x R:=ka.new a3 λn e=>.inr (z n (L.self n e));exact kb.then (c2.mono λ_ _ h=>.inl h)
 obtain rfl:P=I.toNat:=oM
 obtain⟨d4,f4,f6,_⟩:=Y.ints I.toNat;generalize f8:(aW I.toNat E).1=S at c1 f4 f6;generalize g0:(aW I.toNat E).2=q at b9 d4;refine PA.mk λJ p s8 g8=>?_;have g2:=p.get b8 id;have g6:aj (λn=>n=g.heap.size\/n=i) x J:=C.af p;have h0:=c1.af p;have i2:=y.size;refine⟨λm B j=>∃P:Nat,B=P/\P<=6/\m=6-P/\j.heap[g.heap.size]? =some (.cells (rr H s o t (aW P q).1).toArray 63 (0,0))/\fy j i a0 (aW P q).2/\aj (λn=>n=g.heap.size\/n=i) J j,
  ⟨_,0,rfl,oM,rfl,g2,b9.af p,aj.refl _⟩,?_⟩
 rintro m B _ K ⟨P,rfl,hj,rfl,b0,Z,u⟩;refine al.dec (λN=>?_) (λN=>?_)
 ·have d5:P<6:=oM
  have M:=u.get g8 (by have:=C.size;omega);have a1:K.cell? ⟨X.heap.size,0+Int.toNat (P:Int),none⟩=some (.pointer (some ⟨g.heap.size,4+P,none⟩)):=by
   rw[Qx,Xz]
   match P,d5 with
   |0,_=>exact ae M rfl
   |1,_=>exact ae M rfl
   |2,_=>exact ae M rfl
   |3,_=>exact ae M rfl
   |4,_=>exact ae M rfl
   |5,_=>exact ae M rfl
  refine⟨_,_,rfl,oM,oM,_,a1,PC.ok (GP Z) ?_⟩;rintro _ A ⟨rfl,d6,l⟩;have k:=l.get b0 oM;refine⟨_,rfl,_,_,rfl,PS.mk k (by simp[rr];omega) λR F d7 f=>⟨_,oM,P+1,an oM,oM,rfl,?_,?_,?_⟩⟩
  ·rw[f,LN (d4.ints P).2.2.1 d5];rfl
  ·rw[mr]
   exact d6.keep F λn e r=>by have:=V n e;omega
  ·exact u.then ((l.mono λ_ _ h=>.inr h).then (F.mono λ_ _ h=>.inl h))
 obtain rfl:P=6:=oM
 have a6:jL ⟨w,0,0⟩=(⟨H.getD 0 0,H.getD 1 0,H.getD 2 0,S,(aW 6 q).1.getD 0 0,(aW 6 q).1.getD 1 0,(aW 6 q).1.getD 2 0,(aW 6 q).1.getD 3 0,(aW 6 q).1.getD 4 0,(aW 6 q).1.getD 5 0⟩,(aW 6 q).2):=by
  unfold jL;simp only[hL,hR,hC,e6,f8,g0]
 refine PC.ok (Nj Z) ?_;rintro _ A ⟨rfl,d8⟩;have l:ai K A:=d8.keep;have b4:aj (λn=>n=g.heap.size\/n=i) J A:=u.af l;have b5:aj (λn=>n=g.heap.size\/n=i) x A:=g6.then b4;have b6:=b5.get e0 oM;have k:=l.get b0 id;have a2:aV aP 3 v A s o t S:=h0.keep b4 λn e r=>by have:=z n e;omega
 have b7:ai b A:=b1.new b5 λn e=>.inr oM;have a7:ic (jL ⟨w,0,0⟩).2=ic (aW 6 q).2:=by rw[a6]
 refine⟨_,rfl,al.eM (λh2=>?_) (λhe=>?_)⟩
 ·have a4:iU w=(BW,ic (aW 6 q).2):=by unfold iU;rw[a7,Zx h2]
  rw[a4];refine storeAll [ZT 0,ZT 0,ZT 0,.slice none 0 0,ZT 0,ZT 0,ZT 0,ZT 0,ZT 0,ZT 0] b6 rfl λR F d7 f=>?_;refine⟨0,0,0,none,0,0,0,0,0,0,0,0,ae f rfl,ae f rfl,ae f rfl,ae f rfl,ae f rfl,ae f rfl,ae f rfl,ae f rfl,ae f rfl,ae f rfl,Ok.mk ⟨none,0,0,λ_=>False,rfl,aV.nil R,?_,λ_ h=>h.elim⟩⟩;exact b7.new F λn e=>.inr oM
 ·have a4:iU w=((jL ⟨w,0,0⟩).1,0):=by unfold iU;rw[a7,Zq (by simpa using he)]
  rw[a4,a6];refine⟨_,_,_,s,o,t,_,_,_,_,_,_,ae k rfl,ae k rfl,ae k rfl,ae k rfl,ae k rfl,ae k rfl,ae k rfl,ae k rfl,ae k rfl,ae k rfl,?_⟩;refine storeAll (rr H s o t (aW 6 q).1) b6 rfl λR F d7 f=>?_;refine⟨_,_,_,s,o,t,_,_,_,_,_,_,ae f rfl,ae f rfl,ae f rfl,ae f rfl,ae f rfl,ae f rfl,ae f rfl,ae f rfl,ae f rfl,ae f rfl,Ok.mk ⟨s,o,t,v,rfl,a2.keep F λn e r=>?_,?_,λn e=>?_⟩⟩
  ·have:=z n e;omega
  ·exact b7.new F λn e=>.inr oM
  ·have:=z n e;have:=b1.size;omega
end
end Go.Proofs.YtjgjkeponbeekaaGreatDoor
namespace Go.aq
open Go
def e_(n:List UInt8):Nat:=n.foldl (λP a=>P*10+(a.toNat-48)) 0
def gP(n:UInt8):Bool:=decide (48<=n.toNat/\n.toNat<=57)
def fX(n:List UInt8)(P:UInt8):e_ (n++[P])=e_ n*10+(P.toNat-48):=by simp[e_,List.foldl_append]
variable{e l:Int}{w:List UInt8}{a:Nat}{j:Type}
def wQ{n P:List j}(a:n≠[]):(n++P).head? =n.head? :=by
 cases n with
 |nil=>exact Zz rfl a
 |cons b n=>rfl
def uQ:∀(n:Nat),e_ (Lib.decDigits n)=n/\(Lib.decDigits n).all gP=true/\Lib.decDigits n≠[]/\(n≠0->(Lib.decDigits n).head? ≠some 48):=by
 intro n
 induction n using Nat.strongRecOn with
 |_ n c=>
  rw[Lib.decDigits]
  by_cases a:n<10
  ·rw[dif_pos a]
   have P:(UInt8.ofNat (48+n)).toNat=48+n:=by rw[ZK];omega
   refine⟨by simp[e_];omega,by simp[gP,P];omega,sM,λh=>?_⟩;intro b;simp only[List.head?_cons,Q1]at b;have:=Zj UInt8.toNat b;rw[P]at this;simp at this;omega
  ·rw[dif_neg a]
   obtain⟨d,e,f,g⟩:=c (n/10) oM;have P:(UInt8.ofNat (48+n % 10)).toNat=48+n % 10:=by rw[ZK];omega
   refine⟨by rw[fX,d,P];omega,?_,sM,λ_=>?_⟩
   ·rw[List.all_append,e];simp[gP,P];omega
   ·rw[wQ f];exact g oM
def CQ:∀{n:List UInt8},n.all gP=true->n≠[]->n.head? ≠some 48->0<e_ n:=by
 intro n;generalize P:n.length=e
 induction e generalizing n with
 |zero=>intro _ f;exact Zz (QW P) f
 |succ e g=>
  intro a i b;rcases List.eq_nil_or_concat n with rfl|⟨n,c,rfl⟩
  ·cases P
  rw[List.concat_eq_append]at P a b⊢;rw[List.all_append,QK]at a;have j:48<=c.toNat/\c.toNat<=57:=by simpa[gP]using a.2
  rw[fX]
  by_cases d:n=[]
  ·subst d
   have:c.toNat≠48:=λh=>b (by simp;exact UInt8.toNat_inj.1 h);omega
  ·have:=g (by simpa using P) a.1 d (by rwa [wQ d]at b)
   omega
def Ee:∀{n:List UInt8},n.all gP=true->n≠[]->(n.head? ≠some 48\/n.length=1)->Lib.decDigits (e_ n)=n:=by
 intro n;generalize e:n.length=f
 induction f generalizing n with
 |zero=>intro _ i;exact Zz (QW e) i
 |succ f j=>
  intro a o b;rcases List.eq_nil_or_concat n with rfl|⟨n,P,rfl⟩
  ·cases e
  rw[List.concat_eq_append]at e a b⊢;rw[List.all_append,QK]at a;have p:48<=P.toNat/\P.toNat<=57:=by simpa[gP]using a.2
  have h:UInt8.ofNat (48+(P.toNat-48))=P:=UInt8.toNat_inj.1 (by rw[ZK];omega);rw[fX]
  by_cases c:n=[]
  ·subst c
   have k:e_ []*10+(P.toNat-48)=P.toNat-48:=by simp[e_]
   rw[k,Lib.decDigits,dif_pos oM,h]
   rfl
  ·have q:0<n.length:=List.length_pos_iff.2 c
   have g:n.length=f:=by simpa using e
   have d:n.head? ≠some 48:=by
    rcases b with b|b
    ·rwa [wQ c]at b
    ·omega
   have r:=CQ a.1 c d;rw[Lib.decDigits,dif_neg oM];have l:(e_ n*10+(P.toNat-48))/10=e_ n:=oM
   have m:(e_ n*10+(P.toNat-48)) % 10=P.toNat-48:=oM
   rw[l,m,h,j g a.1 c (.inl d)]
def ym:∀(n:List UInt8),n.all gP=true->e_ n<10 ^ n.length:=by
 intro n;generalize P:n.length=b
 induction b generalizing n with
 |zero=>intro _;have:=QW P;subst this;decide
 |succ b d=>
  intro a;rcases List.eq_nil_or_concat n with rfl|⟨n,c,rfl⟩
  ·cases P
  rw[List.concat_eq_append]at P a⊢;rw[List.all_append,QK]at a;have e:48<=c.toNat/\c.toNat<=57:=by simpa[gP]using a.2
  have:=d n (by simpa using P) a.1;rw[fX,Nat.pow_succ];omega
def pD{u:Nat}(g:u<1000000000000):(Lib.decDigits u).length<=12:=by
 rw[Lib.decDigits_length];apply Nat.le_of_not_lt;intro j
 by_cases h:u=0
 ·subst h;rw[Lib.nDigits_small oM]at j;omega
 ·have s:=Lib.lt_pow_nDigits u
  obtain⟨k,l,m,o⟩:=uQ u;have i:=Lib.decDigits_length u;have key:∀(n:List UInt8),n.all gP=true->n≠[]->n.head? ≠some 48->10 ^(n.length-1)<=e_ n:=by
   intro n;generalize a:n.length=P
   induction P generalizing n with
   |zero=>intro _ g;exact Zz (QW a) g
   |succ P p=>
    intro b t d;rcases List.eq_nil_or_concat n with rfl|⟨n,v,rfl⟩
    ·cases a
    rw[List.concat_eq_append]at a b d⊢;have e:=b;rw[List.all_append,QK]at b;rw[fX]
    by_cases c:n=[]
    ·subst c
     have:=CQ e sM d;rw[fX]at this;have q:P=0:=by simpa using a.symm
     subst q;simp at this⊢;omega
    ·have f:n.length=P:=by simpa using a
     have i:0<n.length:=List.length_pos_iff.2 c;have:=p n f b.1 c (by rwa [wQ c]at d);have r:P+1-1=(P-1)+1:=oM
     rw[r,Nat.pow_succ];omega
  have:=key _ l m (o h);rw[k,i]at this;have w:10 ^ 12<=10 ^(Lib.nDigits u-1):=Nat.pow_le_pow_right oM oM;have:(10:Nat) ^ 12=1000000000000:=dC
  omega
def dH:List UInt8:=[115,101,103,46]
def ax(n:Int):List UInt8:=if n<0\/1000000000000<=n then []else dH++Lib.decDigits n.toNat
def jy(n:List UInt8):Option Nat:=if n.take 4=dH/\5<=n.length/\n.length<=16/\(n.drop 4).all gP=true/\((n.drop 4).head? ≠some 48\/n.length=5)then some (e_ (n.drop 4))else none
def mC(n:0<=e)(P:e<1000000000000):ax e=dH++Lib.decDigits e.toNat:=by unfold ax;rw[Zq oM]
def pq(P:0<=e)(a:e<1000000000000):jy (ax e)=some e.toNat:=by
 rw[mC P a];obtain⟨b,c,d,f⟩:=uQ e.toNat;have j:=pD (u:=e.toNat) oM;have k:0<(Lib.decDigits e.toNat).length:=List.length_pos_iff.2 d;have g:(dH++Lib.decDigits e.toNat).drop 4=Lib.decDigits e.toNat:=rfl;have h:(dH++Lib.decDigits e.toNat).take 4=dH:=rfl;have i:(dH++Lib.decDigits e.toNat).length=4+(Lib.decDigits e.toNat).length:=by rw[QX];rfl
 unfold jy;rw[g,h,i,b,Zx];refine⟨rfl,oM,oM,c,?_⟩
 by_cases n:e.toNat=0
 ·right
  rw[n,Lib.decDigits_length,Lib.nDigits_small oM]
 ·exact .inl (f n)
def Cs(n:jy w=some a):ax a=w/\a<1000000000000:=by
 unfold jy at n;split at n
 ·rename_i d
  obtain⟨e,h,i,P,f⟩:=d;simp only[Q1]at n;have b:(w.drop 4).length=w.length-4:=sM
  have j:=ym _ P;have k:10 ^(w.drop 4).length<=10 ^ 12:=Nat.pow_le_pow_right oM oM;have l:(10:Nat) ^ 12=1000000000000:=dC
  have g:a<1000000000000:=oM
  refine⟨?_,g⟩;rw[mC oM oM,<-n,Qx,Ee P (λc=>by rw[c]at b;simp at b;omega) (f.imp id λc=>oM),<-e,ZX]
 ·cases n
def Js(b:0<=e)(P:e<1000000000000)(n:ax l=ax e):l=e:=by
 have a:=pq b P
 by_cases c:l<0\/1000000000000<=l
 ·unfold ax at n
  rw[Zx c,Zq oM]at n;exact Zz (Zj List.length n) (by simp[dH])
 ·rw[<-n,pq oM oM]at a
  simp only[Q1]at a;omega
def CP(n:Int):(ax n).length<=16:=by
 unfold ax;split
 ·simp
 ·have:=pD (u:=n.toNat) oM
  rw[QX];show 4+_<=16;omega
def Hw(b:w.all gP=true)(c:w.length<=12):jy (dH++w)=if ax (e_ w)=dH++w then some (e_ w)else none:=by
 have e:=ym _ b;have f:10 ^ w.length<=10 ^ 12:=Nat.pow_le_pow_right oM c;have g:(10:Nat) ^ 12=1000000000000:=dC
 split
 ·rename_i P
  rw[<-P,pq oM oM,Qx]
 ·rename_i P
  cases n:jy (dH++w)with
  |none=>rfl
  |some d=>
   obtain⟨a,h⟩:=Cs n;have:d=e_ w:=by
    unfold jy at n;split at n
    ·exact(XJ n).symm
    ·cases n
   rw[this]at a;exact Zz a P
def J_(P:w.all gP=false):jy (dH++w)=none:=by
 unfold jy;rw[Zq];rintro⟨_,_,_,n,_⟩;have:(dH++w).drop 4=w:=rfl;rw[this,P]at n
 cases n
def PH(n:w.take 4≠dH):jy w=none:=by
 unfold jy;rw[Zq λP=>n P.1]
def MC(n:16<w.length):jy w=none:=by
 unfold jy;rw[Zq λP=>oM]
end Go.aq
namespace Go.Proofs.YtjgjkeponbeekaaGreatDoor
open Go.aq
def pick(P n:Int):Int:=if n<1 then 0 else if P.tmod n<0 then P.tmod n+n else P.tmod n

import Derived.Maps.RangeRun
import Derived.Laws.RangeAny
import Derived.Test.YtfchlbaidamodaaGreatDoorKd10
import Derived.Laws.Runes
set_option linter.all false
set_option maxRecDepth 20000
namespace Go.ax
open Go
def ay {a b:Type} [BEq a] (d:List (a×b)) (c:a):Option b:=match d with
 |[]=>none
 |(e,f)::g=>if c==e then some f else ay g c
def aJ {a c:Type} [BEq a] (g:List (a×c)) (b:a) (d:c):List (a×c):=match g with
 |[]=>[(b,d)]
 |(e,h)::f=>if b==e then(b,d)::f else(e,h)::aJ f b d
def bV {a b:Type} [BEq a] (f:List (a×b)) (c:a):List (a×b):=match f with
 |[]=>[]
 |(d,g)::e=>if c==d then e else(d,g)::bV e c
variable{f8:Array MapEntry}{a c:Nat}{h:Program}{I j:Type}{e3:TypeDesc}{E g r:TypeId}{e4:TypeInfo}{b8 v:Value}{o t:Value->World->Prop}{b l:World}{y:World->Prop}
theorem bu [BEq j] [LawfulBEq j] (f:List (j×I)) (b a:j) (h:I):ay (aJ f b h) a=if a==b then some h else ay f a:=by
 induction f with
 |nil=>simp [aJ,ay]
 |cons i m k=>
  obtain⟨d,n⟩:=i;unfold aJ
  by_cases c:b==d
  ·rw [if_pos c]
   have g:b=d:=by simpa using c
   subst g;unfold ay;split<;>rfl
  ·rw [if_neg c]
   unfold ay
   by_cases e:a==d
   ·rw [if_pos e]
    have g:a=d:=by simpa using e
    subst g;have:(a==b)=false:=by
     cases l:a==b
     ·rfl
     ·exfalso;apply c;have:a=b:=by simpa using l
      simp [this]
    rw [this];simp [ay,c]
   ·rw [if_neg e];rw [k];simp [ay,e]
def Tidy {a b:Type} (c:List (a×b)):Prop:=(c.map (·.1)).Nodup
theorem SK [BEq j] [LawfulBEq j] {b:List (j×I)} {a:j} {e:I} {c:j}:c∈(aJ b a e).map (·.1)↔c=a\/c∈b.map (·.1):=by
 induction b with
 |nil=>simp [aJ]
 |cons f k g=>
  obtain⟨d,l⟩:=f;unfold aJ
  by_cases h:a==d
  ·rw [if_pos h]
   have i:a=d:=by simpa using h
   subst i;simp
  ·rw [if_neg h]
   simp only [QY,Q2,g];constructor
   ·rintro(h|h|h)<;>simp [h]
   ·rintro(h|h|h)<;>simp [h]
theorem Tidy.aJ {a g:Type} [BEq a] [LawfulBEq a] {d:List (a×g)} (b:Tidy d) (e:a) (i:g):Tidy (aJ d e i):=by
 unfold Tidy at*
 induction d with
 |nil=>simp [ax.aJ]
 |cons j m k=>
  obtain⟨h,n⟩:=j;simp only [QY,List.nodup_cons]at b;unfold ax.aJ
  by_cases c:e==h
  ·rw [if_pos c]
   have l:e=h:=by simpa using c
   subst l;simpa using b
  ·rw [if_neg c]
   simp only [QY,List.nodup_cons];refine⟨λf=>?_,k b.2⟩;rcases SK.1 f with rfl|f
   ·simp at c
   ·exact b.1 f
theorem SL [BEq j] [LawfulBEq j] {b:List (j×I)} {d c:j} (a:c∈(bV b d).map (·.1)):c∈b.map (·.1):=by
 induction b with
 |nil=>simp [bV]at a
 |cons e g f=>
  obtain⟨h,i⟩:=e;unfold bV at a;split at a
  ·simp only [QY,Q2];exact .inr a
  ·simp only [QY,Q2]at a⊢
   rcases a with a|a
   ·exact .inl a
   ·exact .inr (f a)
theorem Tidy.bV {a d:Type} [BEq a] [LawfulBEq a] {c:List (a×d)} (b:Tidy c) (e:a):Tidy (bV c e):=by
 unfold Tidy at*
 induction c with
 |nil=>simp [ax.bV]
 |cons f i g=>
  obtain⟨j,k⟩:=f;simp only [QY,List.nodup_cons]at b;unfold ax.bV;split
  ·exact b.2
  ·simp only [QY,List.nodup_cons]
   exact⟨λh=>b.1 (SL h),g b.2⟩
theorem nU [BEq j] [LawfulBEq j] {c:List (j×I)} {a:j}:ay c a=none↔a∉c.map (·.1):=by
 induction c with
 |nil=>simp [ay]
 |cons e h f=>
  obtain⟨d,i⟩:=e;unfold ay
  by_cases b:a==d
  ·have g:a=d:=by simpa using b
   rw [if_pos b];subst g;simp
  ·rw [if_neg b,f]
   have:a≠d:=by rintro rfl;simp at b
   simp [this]
theorem gh [BEq j] [LawfulBEq j] {d:List (j×I)} (i:Tidy d) (b a:j):ay (bV d b) a=if a==b then none else ay d a:=by
 induction d with
 |nil=>simp [bV,ay]
 |cons k n l=>
  obtain⟨e,o⟩:=k;have g:=i;simp only [Tidy,QY,List.nodup_cons]at g;unfold bV
  by_cases f:b==e
  ·rw [if_pos f]
   have h:b=e:=by simpa using f
   subst h
   by_cases c:a==b
   ·have:a=b:=by simpa using c
    subst this;simp only [beq_self_eq_true,if_true];exact nU.2 g.1
   ·rw [if_neg c]
    simp [ay,c]
  ·rw [if_neg f]
   unfold ay
   by_cases c:a==e
   ·have h:a=e:=by simpa using c
    subst h;have:(a==b)=false:=by
     cases m:a==b
     ·rfl
     ·exfalso;apply f;have:a=b:=by simpa using m
      simp [this]
    simp [this]
   ·rw [if_neg c,if_neg c];exact l g.2
theorem cF [BEq j] [LawfulBEq j] {b:List (j×I)} {c:j} {d:I} (a:ay b c=some d):(c,d)∈b:=by
 induction b with
 |nil=>simp [ay]at a
 |cons e k f=>
  obtain⟨g,l⟩:=e;unfold ay at a;split at a
  ·rename_i h
   have i:c=g:=by simpa using h
   subst i
   cases a
   simp
  ·exact QJ _ (f a)
theorem fG [BEq j] [LawfulBEq j] {a:List (j×I)} {c:j} {d:I} {b:j×I} (h:b∈aJ a c d):b=(c,d)\/b∈a:=by
 induction a with
 |nil=>simpa [aJ]using h
 |cons e g f=>
  obtain⟨i,k⟩:=e;unfold aJ at h;split at h
  ·rcases Q2.1 h with h|h
   ·exact .inl h
   ·exact .inr (QJ _ h)
  ·rcases Q2.1 h with h|h
   ·exact .inr (h▸QV ..)
   ·rcases f h with h|h
    ·exact .inl h
    ·exact .inr (QJ _ h)
theorem gN [BEq j] [LawfulBEq j] {a:List (j×I)} {c:j} {b:j×I} (h:b∈bV a c):b∈a:=by
 induction a with
 |nil=>simp [bV]at h
 |cons d f e=>
  obtain⟨g,i⟩:=d;unfold bV at h;split at h
  ·exact QJ _ h
  ·rcases Q2.1 h with h|h
   ·exact h▸QV ..
   ·exact QJ _ (e h)
theorem rp [BEq j] [LawfulBEq j] {a:List (j×I)} (c:Tidy a) {k:j} {v:I} (d:(k,v)∈a):ay a k=some v:=by
 induction a with
 |nil=>cases d
 |cons e i f=>
  obtain⟨g,l⟩:=e;simp only [Tidy,QY,List.nodup_cons]at c;unfold ay;rcases Q2.1 d with b|b
  ·cases b;simp
  ·have:k≠g:=by
    intro h;exact c.1 (Xk.2 ⟨(k,v),b,h⟩)
   rw [if_neg (by simpa using this)];exact f c.2 b
theorem yU [BEq j] (a:List (j×I)) (b:j) (c:I):(aJ a b c).length<=a.length+1:=by
 induction a with
 |nil=>simp [aJ]
 |cons d e f=>
  unfold aJ;split
  ·simp
  ·simp;omega
theorem Jz [BEq j] (a:List (j×I)) (b:j):(bV a b).length<=a.length:=by
 induction a with
 |nil=>simp [bV]
 |cons c d e=>
  unfold bV;split
  ·simp
  ·simp;omega
def fJ {a b c:Type} (d:b->c->Prop):List (a×b)->List (a×c)->Prop
 |[],[]=>True
 |(e,f)::g,(h,i)::j=>e=h/\d f i/\fJ d g j
 |_,_=>False
theorem fJ.keys {c d e:Type} {g:d->e->Prop}:∀{a:List (c×d)} {b:List (c×e)},fJ g a b->a.map (·.1)=b.map (·.1)
 |[],[],_=>rfl
 |(h,i)::a,(j,k)::b,f=>by simp [f.1,fJ.keys f.2.2]
theorem fJ.mono {f g h:Type} {i j:g->h->Prop}:∀{a:List (f×g)} {b:List (f×h)},fJ i a b->(∀c d,i c d->j c d)->fJ j a b
 |[],[],_,_=>trivial
 |(l,c)::a,(m,d)::b,e,k=>⟨e.1,k _ _ e.2.1,fJ.mono e.2.2 k⟩
theorem fJ.ay {b g h:Type} [BEq b] {i:g->h->Prop} (a:b):∀{c:List (b×g)} {d:List (b×h)},fJ i c d->
  (ax.ay c a=none/\ax.ay d a=none)\/∃e f,ax.ay c a=some e/\ax.ay d a=some f/\i e f
 |[],[],_=>.inl ⟨rfl,rfl⟩
 |(k,e)::c,(o,f)::d,l=>by
  obtain⟨rfl,m,n⟩:=l;unfold ax.ay
  by_cases j:a==k
  ·simp only [j,if_true];exact .inr ⟨e,f,rfl,rfl,m⟩
  ·simp only [j];exact fJ.ay a n
theorem fJ.aJ {a b c:Type} [BEq a] {R:b->c->Prop} {d:a} {h:b} {i:c} (e:R h i):∀{f:List (a×b)} {g:List (a×c)},fJ R f g->fJ R (ax.aJ f d h) (ax.aJ g d i)
 |[],[],_=>⟨rfl,e,trivial⟩
 |(l,o)::f,(p,q)::g,m=>by
  obtain⟨rfl,n,j⟩:=m;unfold ax.aJ
  by_cases k:d==l
  ·simp only [k,if_true];exact⟨rfl,e,j⟩
  ·simp only [k];exact⟨rfl,n,fJ.aJ e j⟩
theorem fJ.bV {a e f:Type} [BEq a] {g:e->f->Prop} {b:a}:∀{c:List (a×e)} {d:List (a×f)},fJ g c d->fJ g (ax.bV c b) (ax.bV d b)
 |[],[],_=>trivial
 |(j,m)::c,(n,o)::d,k=>by
  obtain⟨rfl,l,h⟩:=k;unfold ax.bV
  by_cases i:b==j
  ·simp only [i,if_true];exact h
  ·simp only [i];exact⟨rfl,l,fJ.bV h⟩
theorem fJ.length {a b c:Type} {f:b->c->Prop} {d:List (a×b)} {e:List (a×c)} (g:fJ f d e):d.length=e.length:=by
 have:=congrArg List.length g.keys;simpa using this
structure cx {κ:Type} (w:World) (r:Nat) (enc:κ->Value) (l:List (κ×Value)):Prop where
 at':∃es clock,w.heap[r]? =some (.map es clock)/\es.toList.map (λe=>(e.key,e.val))=l.map (λp=>(enc p.1,p.2))/\
  (∀e∈es.toList,e.born<clock)/\(es.toList.map (·.born)).Nodup
 tidy:Tidy l
theorem cx.keep {S:Nat->Prop} {d:j->Value} {f:List (j×Value)} (g:cx b a d f) (h:aj S b l) (i:¬S a):cx l a d f:=by
 obtain⟨k,c,m,e⟩:=g.at';exact⟨⟨k,c,h.get m i,e⟩,g.tidy⟩
theorem cx.af {c:j->Value} {d:List (j×Value)} (e:cx b a c d) (f:ai b l):cx l a c d:=e.keep f id
theorem cx.lt {c:j->Value} {f:List (j×Value)} (g:cx b a c f):a<b.heap.size:=by
 obtain⟨i,d,h,e⟩:=g.at';exact aC h
theorem cx.new {c:j->Value} (d:b.heap[a]? =some (.map #[] 0)):cx b a c ([]:List (j×Value)):=
 ⟨⟨_,_,d,rfl,sM,sM⟩,by simp [Tidy]⟩
def nd {a:Type} [BEq a] (d:List (a×Value)) (b:a) (c:Nat):Option (Nat×Value):=match d with
 |[]=>none
 |(e,f)::g=>if b==e then some (c,f)else nd g b (c+1)
theorem Ds {c:Type} [BEq c] [LawfulBEq c] {a:c->Value} {i:TypeDesc} (j:∀k l,Instr.sameNow i (a k) (a l)=some (k==l)) (d:c):
  ∀(f:List MapEntry) (g:List (c×Value)) (h:Nat),f.map (λe=>(e.key,e.val))=g.map (λm=>(a m.1,m.2))->Instr.findNow i (a d) f h=some (nd g d h)
 |[],[],_,_=>rfl
 |[],_::_,_,b=>by simp at b
 |_::_,[],_,b=>by simp at b
 |e::f,(n,r)::g,h,b=>by
  simp only [QY,List.cons.injEq,Prod.mk.injEq]at b;obtain⟨⟨o,p⟩,q⟩:=b;unfold Instr.findNow nd;rw [o,j]
  cases s:d==n
  ·simp only [Bool.false_eq_true,if_false]
   exact Ds j d f g (h+1) q
  ·simp [p]
theorem Ib [BEq j] {a:j->Value} (c:∀d e,Instr.sameNow e3 (a d) (a e)=none) (f:j) (b:MapEntry) (g:List MapEntry) (h:j) (i:b.key=a h) (k:Nat):Instr.findNow e3 (a f) (b::g) k=none:=by
 unfold Instr.findNow;rw [i,c]
theorem tZ {c:Type} [BEq c] {j:Program} {k:TypeId} {a:c->Value} {d:World} (l:∀m n,(Op.equal k (a m) (a n)).run j d= .ok (m==n) d) (f:c):
  ∀(g:List MapEntry) (h:List (c×Value)) (i:Nat),g.map (λe=>(e.key,e.val))=h.map (λo=>(a o.1,o.2))->(Instr.findAsking k (a f) g i).run j d= .ok (nd h f i) d
 |[],[],_,_=>rfl
 |[],_::_,_,b=>by simp at b
 |_::_,[],_,b=>by simp at b
 |e::g,(p,t)::h,i,b=>by
  simp only [QY,List.cons.injEq,Prod.mk.injEq]at b;obtain⟨⟨q,r⟩,s⟩:=b;unfold Instr.findAsking nd;rw [q];simp only [Sem.run_bind,l,Result.andThen_ok]
  cases u:f==p
  ·simpa using tZ l f g h (i+1) s
  ·simp [r]
structure jh {κ:Type} [BEq κ] (P:Program) (kt:TypeId) (enc:κ->Value):Prop where
 find:∀(k:κ) (es:List MapEntry) (l:List (κ×Value)) (w:World),es.map (λe=>(e.key,e.val))=l.map (λp=>(enc p.1,p.2))->(Instr.findKey kt (enc k) es).run P w= .ok (nd l k 0) w
 check:∀k w e,(Instr.checkKey e 10000 kt (enc k)).run P w= .ok () w
 same:∀n a,Instr.sameBits (n+1) (enc a) (enc a)=true
 inj:∀{a b},enc a=enc b->a=b
theorem jh.flat [BEq j] [LawfulBEq j] {a:j->Value} (n:h.underlying g=some e3) (k:∀b c,Instr.sameNow e3 (a b) (a c)=some (b==c)) (o:∀l d e f,(Instr.checkKey f (l+1) g (a d)).run h e= .ok () e)
  (i:∀l b,Instr.sameBits (l+1) (a b) (a b)=true):jh h g a:=
 ⟨λd p q e r=>by simp [Instr.findKey,run_underlying n,Ds k d p q 0 r],λd e f=>o 9999 d e f,i,λ{b c} f=>by
  have m:=k b c;rw [f,k c c]at m;simpa using m.symm⟩
theorem jh.struct [BEq j] {a:j->Value} (p:h.underlying g=some e3) (r:∀b c,Instr.sameNow e3 (a b) (a c)=none) (s:∀b c d,(Op.equal g (a b) (a c)).run h d= .ok (b==c) d) (t:∀i d k,(Instr.checkKey k 10000 g (a i)).run h d= .ok () d)
  (e:∀u b,Instr.sameBits (u+1) (a b) (a b)=true) (n:∀{b c},a b=a c->b=c):jh h g a:=by
 refine⟨λi l f d m=>?_,t,e,n⟩
 cases l with
 |nil=>
  cases f with
  |nil=>simp [Instr.findKey,run_underlying p,Instr.findNow,nd]
  |cons o f=>simp at m
 |cons k l=>
  cases f with
  |nil=>simp at m
  |cons o f=>
   have q:=m;simp only [QY,List.cons.injEq,Prod.mk.injEq]at q;simp only [Instr.findKey,Sem.run_bind,run_underlying p,Result.andThen_ok,Ib r i k l o.1 q.1.1];exact tZ (λb c=>s b c d) i (k::l) (o::f) 0 m
theorem yL [BEq j] [LawfulBEq j] (b:List (j×Value)) (c:j):∀a,(nd b c a).map (·.2)=ay b c:=by
 induction b with
 |nil=>intro a;rfl
 |cons d f e=>
  intro a;obtain⟨g,h⟩:=d;unfold nd ay;split
  ·rfl
  ·exact e (a+1)
theorem kj [BEq j] [LawfulBEq j] {a:j->Value} (k:jh h g a) (b:j) (c:List MapEntry) (d:List (j×Value)) (l:c.map (λf=>(f.key,f.val))=d.map (λi=>(a i.1,i.2))) (e:World):
  (Instr.findKey g (a b) c).run h e= .ok (nd d b 0) e:=by
 exact k.find b c d e l
theorem dW (d:b.heap[a]? =some (.map f8 c)):(getObj a).run h b= .ok (.map f8 c) b:=by
 simp [getObj,Sem.run,d]
theorem ei [BEq j] [LawfulBEq j] {a:j->Value} (e:jh h g a) (c:Bool) (d:j) (b:World):(Instr.checkKey c 10000 g (a d)).run h b= .ok () b:=by
 exact e.check d b c
theorem EW (b:h.info? g=some e4) (c:e4.zero=some v) (a:World):(zeroValue g).run h a= .ok v a:=by
 simp [zeroValue,typeInfo,b,c]
structure nu (P:Program) (t kt vt:TypeId) (z:Value):Prop where
 under:P.underlying t=some (.map kt vt)
 zero:(P.info? vt).bind (·.zero)=some z
theorem nu.Oz (d:nu h g r E v) (b:World):(zeroValue E).run h b= .ok v b:=by
 have a:=d.zero
 cases c:h.info? E with
 |none=>rw [c]at a;cases a
 |some e=>rw [c]at a;exact EW c a b
theorem eY [BEq j] [LawfulBEq j] {c:j->Value} (l:nu h g r E v) (m:jh h r c) {d:List (j×Value)} (o:cx b a c d) (e:j) (i:Bool):
  (Instr.lookup g (.map (some a)) (c e) i).run h b= .ok (if i then .tuple #[(ay d e).getD v,.bool (ay d e).isSome]else(ay d e).getD v) b:=by
 obtain⟨p,k,q,s,_⟩:=o.at';have t:=kj m e p.toList d s b;have f:=yL d e 0;simp only [Instr.lookup,Sem.run_bind,run_underlying l.under,Result.andThen_ok,dW q,ei m,t,Sem.run_pure]
 cases n:nd d e 0 with
 |none=>rw [n]at f;simp only [Option.map_none]at f;rw [<-f];cases i<;>simp [l.Oz]
 |some u=>rw [n]at f;simp only [Option.map_some]at f;rw [<-f];cases i<;>simp
theorem AY [BEq j] [LawfulBEq j] {c:j->Value} (f:nu h g r E v) (i:jh h r c) {e:List (j×Value)} (k:cx b a c e) {d:j} 
  (l:o ((ay e d).getD v) b):aH h (Instr.lookup g (.map (some a)) (c d) false) b o t:=aH.mk (eY f i k d false) l
theorem nw [BEq j] [LawfulBEq j] {enc:j->Value} (d:nu h g r E v) (e:jh h r enc) {c:List (j×Value)} (f:cx b a enc c) {k:j} 
  (i:o (.tuple #[(ay c k).getD v,.bool (ay c k).isSome]) b):aH h (Instr.lookup g (.map (some a)) (enc k) true) b o t:=aH.mk (eY d e f k true) i
theorem aj.setObj (a:World) (b:Nat) (c:Obj):aj (·=b) a {a with heap:=a.heap.setIfInBounds b c}:=
 ⟨rfl,rfl,rfl,sM,λe f d=>by simp [Array.getElem?_setIfInBounds,Ne.symm d]⟩
theorem oh [BEq j] [LawfulBEq j] {c:List (j×Value)} {d:j}:∀{a b:Nat} {g:Value},nd c d a=some (b,g)->a<=b/\b-a<c.length/\c[b-a]? =some (d,g)/\∀i,aJ c d i=c.set (b-a) (d,i)/\bV c d=c.eraseIdx (b-a):=by
 induction c with
 |nil=>intro a b g e;simp [nd]at e
 |cons n w o=>
  intro a b g e;obtain⟨p,i⟩:=n;unfold nd at e;split at e
  ·rename_i h
   cases e
   have q:d=p:=by simpa using h
   subst q;simp [aJ,bV]
  ·rename_i h
   obtain⟨x,k,l,m⟩:=o e;obtain⟨f,rfl⟩:∃f,b=a+1+f:=⟨b-(a+1),oM⟩
   have r:a+1+f-a=f+1:=oM
   have s:a+1+f-(a+1)=f:=oM
   rw [s]at k l m;rw [r];refine⟨oM,by simpa using k,by simpa using l,λt=>?_⟩;obtain⟨u,v⟩:=m t;unfold aJ bV;rw [if_neg h,if_neg h];simp [u,v]
theorem sP [BEq j] [LawfulBEq j] {a:List (j×Value)} {b:j}:∀{d:Nat},nd a b d=none->(∀e,aJ a b e=a++[(b,e)])/\bV a b=a:=by
 induction a with
 |nil=>intro d _;simp [aJ,bV]
 |cons g l h=>
  intro d c;obtain⟨m,e⟩:=g;unfold nd at c;split at c
  ·cases c
  ·rename_i f
   obtain⟨i,k⟩:=h c;refine⟨λn=>?_,?_⟩
   ·unfold aJ;rw [if_neg f,i];rfl
   ·unfold bV;rw [if_neg f,k]
theorem map_eraseIdx {d e:Type} (c:d->e):∀(a:List d) (b:Nat),(a.eraseIdx b).map c=(a.map c).eraseIdx b
 |[],_=>by simp
 |x::a,0=>rfl
 |x::a,b+1=>by simp [map_eraseIdx c a b]
theorem dm (a:World) (b:Nat) (c:Obj) (d:b<a.heap.size):({a with heap:=a.heap.setIfInBounds b c}:World).heap[b]? =some c:=by simp [d]
theorem eZ (e:b.heap[a]? =some (.map f8 c)) (d:Obj):(setObj a d).run h b= .ok () {b with heap:=b.heap.setIfInBounds a d}:=by
 simp [setObj,Sem.run,e]
theorem jz [BEq j] [LawfulBEq j] {enc:j->Value} (H:nu h g r E v) (t:jh h r enc) {p:List (j×Value)} (z:cx b a enc p) {k:j} 
  (I:∀u,cx u a enc (aJ p k b8)->aj (·=a) b u->u.heap.size=b.heap.size->y u):jU h (Instr.mapUpdate g (.map (some a)) (enc k) b8) b y o:=by
 obtain⟨e,c,q,s,A,J⟩:=z.at';have w:=kj t k e.toList p s b;have O:e.toList.length=p.length:=by have:=congrArg List.length s;simpa using this
 have K:=aC q
 cases x:nd p k 0 with
 |none=>
  rw [x]at w;refine jU.mk (w':={b with heap:=b.heap.setIfInBounds a (.map (e.push {key:=enc k,val:=b8,born:=c}) (c+1))}) ?_ (I _ ⟨⟨_,_,dm b a _ K,?_,?_,?_⟩,z.tidy.aJ k b8⟩ (aj.setObj b a _) sM)
  ·simp [Instr.mapUpdate,run_underlying H.under,dW q,ei t,w,eZ q]
  ·rw [(sP x).1 b8];simp [s]
  ·intro i f
   simp only [Array.toList_push,Q6,List.mem_singleton]at f;rcases f with f|rfl
   ·have:=A i f;omega
   ·show c<c+1;omega
  ·simp only [Array.toList_push,Q3,QY,List.map_nil]
   rw [List.nodup_append];refine⟨J,sM,?_⟩;intro V P W B X;simp only [List.mem_singleton]at B;obtain⟨i,f,rfl⟩:=Xk.1 P;have:=A i f;omega
 |some Q=>
  obtain⟨l,Y⟩:=Q;rw [x]at w;obtain⟨_,L,M,N⟩:=oh x;rw [Nat.sub_zero]at L M N;have C:l<e.size:=by
                 have:e.size=p.length:=by simpa using O
                 omega
  have R:e[l].key=enc k:=by
   have:=congrArg (·[l]?) s;simp only [Q9,M,Option.map_some]at this;simp [C]at this;exact this.1
  refine jU.mk (w':={b with heap:=b.heap.setIfInBounds a (.map (e.modify l λi=>{i with key:=enc k,val:=b8}) c)}) ?_ (I _ ⟨⟨_,_,dm b a _ K,?_,?_,?_⟩,z.tidy.aJ k b8⟩ (aj.setObj b a _) sM)
  ·have S:(Instr.keyThatStays (enc k) (enc k)).run h b= .ok (enc k) b:=by simp [Instr.keyThatStays,t.same]
   simp [Instr.mapUpdate,run_underlying H.under,dW q,ei t,w,C,R,S,eZ q]
  ·rw [(N b8).1]
   apply X3;intro m;have d:=congrArg (·[m]?) s;simp only [Q9]at d;simp only [Array.toList_modify,Q9,Xj,List.getElem?_modify]
   by_cases n:l=m
   ·subst n
    simp [C,L]
   ·simp only [n,if_false,Option.map_map]at d⊢
    simpa using d
  ·intro i f
   rw [Array.toList_modify]at f;obtain⟨m,d⟩:=List.getElem?_of_mem f;rw [List.getElem?_modify]at d
   cases F:e.toList[m]? with
   |none=>rw [F]at d;simp at d
   |some T=>
    rw [F]at d;have U:=QZ F;have:=A T U
    by_cases n:l=m
    ·simp [n]at d;subst d;exact this
    ·simp [n]at d;subst d;exact this
  ·have:(e.modify l λi=>{i with key:=enc k,val:=b8}).toList.map (·.born)=e.toList.map (·.born):=by
    apply X3;intro m;simp only [Array.toList_modify,Q9,List.getElem?_modify,Option.map_map]
    by_cases n:l=m<;>simp [n]<;>rfl
   rw [this];exact J
theorem Mc [BEq j] [LawfulBEq j] {u w F H I:TypeId} {e:j->Value} (x:nu h u w F v) (q:jh h w e) {g:List (j×Value)} (r:cx b a e g) {i:j} 
  (y:∀l,cx l a e (bV g i)->aj (·=a) b l->l.heap.size=b.heap.size->o (.tuple #[]) l):aH h (Builtin.delete_ #[u,H] I #[.map (some a),e i]) b o t:=by
 obtain⟨c,d,k,m,z,A⟩:=r.at';have n:=kj q i c.toList g m b;have J:c.toList.length=g.length:=by have:=congrArg List.length m;simpa using this
 have B:=aC k
 cases p:nd g i 0 with
 |none=>
  rw [p]at n;refine aH.mk (w':={b with heap:=b.heap.setIfInBounds a (.map c d)}) ?_ (y _ ⟨⟨_,_,dm b a _ B,?_,z,A⟩,r.tidy.bV i⟩ (aj.setObj b a _) sM)
  ·simp [Builtin.delete_,run_underlying x.under,dW k,ei q,n,eZ k]
  ·rw [(sP p).2];exact m
 |some K=>
  obtain⟨f,L⟩:=K;rw [p]at n;obtain⟨_,M,N,C⟩:=oh p;rw [Nat.sub_zero]at M N C;have s:f<c.size:=by
                 have:c.size=g.length:=by simpa using J
                 omega
  refine aH.mk (w':={b with heap:=b.heap.setIfInBounds a (.map (c.eraseIdxIfInBounds f) d)}) ?_ (y _ ⟨⟨_,_,dm b a _ B,?_,?_,?_⟩,r.tidy.bV i⟩ (aj.setObj b a _) sM)
  ·simp [Builtin.delete_,run_underlying x.under,dW k,ei q,n,eZ k]
  ·rw [(C L).2]
   have:(c.eraseIdxIfInBounds f).toList=c.toList.eraseIdx f:=by simp [Array.eraseIdxIfInBounds,s]
   rw [this,map_eraseIdx,m,map_eraseIdx]
  ·intro O E
   have:(c.eraseIdxIfInBounds f).toList=c.toList.eraseIdx f:=by simp [Array.eraseIdxIfInBounds,s]
   rw [this]at E;exact z O (List.mem_of_mem_eraseIdx E)
  ·have:(c.eraseIdxIfInBounds f).toList=c.toList.eraseIdx f:=by simp [Array.eraseIdxIfInBounds,s]
   rw [this,map_eraseIdx];exact A.sublist (List.eraseIdx_sublist _ _)
theorem Xc (a:h.underlying g=some (.int .i64)):jh h g (Value.int .i64):=
 jh.flat a (λb d=>by simp [Instr.sameNow]) (λc e f i=>by simp [Instr.checkKey,run_underlying a]) λc b=>by simp [Instr.sameBits]
end Go.ax
namespace Go.ax
open Go
instance:LawfulBEq ByteArray where
 eq_of_beq:=λ{a b} h=>ByteArray.ext (eq_of_beq (show(a.data==b.data)=true from h))
 rfl:=λ{a}=>show(a.data==a.data)=true from by simp
variable{a:Nat}{h:Program}{g:TypeId}{v:Value}{o t:Value->World->Prop}
theorem YL (a:h.underlying g=some .string):jh h g Value.string:=
 jh.flat a (λb d=>rfl) (λc e f i=>by simp [Instr.checkKey,run_underlying a]) λc b=>by simp [Instr.sameBits]
structure dj {κ:Type} (w:World) (it r:Nat) (enc:κ->Value) (l left:List (κ×Value)):Prop where
 at':∃es clock since seen c0,w.heap[r]? =some (.map es clock)/\es.toList.map (λe=>(e.key,e.val))=l.map (λp=>(enc p.1,p.2))/\
  (∀e∈es.toList,e.born<clock)/\(es.toList.map (·.born)).Nodup/\w.heap[it]? =some (.mapIter (some r) since seen c0)/\(∀x∈es.toList,x.born<since)/\since<=c0/\since<=clock/\
  (leftOf es seen).toList.map (λe=>(e.key,e.val))=left.map (λp=>(enc p.1,p.2))
 tidy:Tidy l
structure Vv {κ:Type} (w:World) (it r:Nat) (enc:κ->Value) (k:κ) (v:Value):Prop where
 at':∃(es:Array MapEntry) (clock since:Nat) (seen:Array Nat) (e:MapEntry),w.heap[r]? =some (.map es clock)/\w.heap[it]? =some (.mapIter (some r) since (seen.push e.born) clock)/\e∈es.toList/\(es.toList.map (·.born)).Nodup/\e.key=enc k/\e.val=v
section
variable {κ:Type} {w w':World} {it r:Nat} {enc:κ->Value} {l left:List (κ×Value)} {S:Nat->Prop}
theorem dj.keep (d:dj w it r enc l left) (e:aj S w w') (f:¬S it) (g:¬S r):dj w' it r enc l left:=by
 obtain⟨h,a,b,seen,i,j,k,m,n,o,c⟩:=d.at';exact⟨⟨h,a,b,seen,i,e.get j g,k,m,n,e.get o f,c⟩,d.tidy⟩
theorem dj.af (a:dj w it r enc l left) (b:ai w w'):dj w' it r enc l left:=a.keep b id id
theorem dj.ne (e:dj w it r enc l left):it≠r:=by
 obtain⟨g,a,b,seen,h,f,i,j,k,c,d⟩:=e.at';rintro rfl;rw [f]at c;cases c
theorem dj.lt (d:dj w it r enc l left):it<w.heap.size:=by
 obtain⟨f,a,b,seen,g,h,i,j,k,e,c⟩:=d.at';exact aC e
theorem mapRange {b c d:TypeId} (m:nu h b c d v) (e:cx w r enc l)
  (n:∀w',dj w' w.heap.size r enc l l->ai w w'->w'.heap.size=w.heap.size+1->o (.pointer (some ⟨w.heap.size,0,none⟩)) w'):aH h (Instr.range b (.map (some r))) w o t:=by
 obtain⟨f,a,g,i,j,p⟩:=e.at';have k:ai w (w.alloc (.mapIter (some r) a #[] a)):=aj.alloc w _;refine aH.mk (run_range_map w b c d r f a m.under g) (n _ ⟨⟨f,a,a,#[],a,k.get g id,i,j,p,heap_alloc_new w _,j,Q4 _,Q4 _,?_⟩,e.tidy⟩ k sM);rw [<-i]
 congr 2
 unfold leftOf;simp
theorem nX {P:Program} (q:dj w it r enc l left) (U:left=[]->o (.tuple #[.bool false]) w)
  (V:∀s u A B w',left=A++(s,u)::B->dj w' it r enc l (A++B)->Vv w' it r enc s u->aj (·=it) w w'->w'.heap.size=w.heap.size->o (.tuple #[.bool true,enc s,u]) w'):
  aH P (Instr.next (.pointer (some ⟨it,0,none⟩)) false g) w o t:=by
 have W:=q.ne;obtain⟨e,a,c,seen,C,E,X,Y,v,F,H,Z,I,m⟩:=q.at';rcases run_next_at (P:=P) w g it r c C seen e a F E H Z with⟨hz,x⟩|⟨d,J,h,K,x⟩
 ·refine aH.mk x (U ?_)
  have:(leftOf e seen).toList=[]:=by rw [Array.eq_empty_of_size_eq_zero hz]
  rw [this]at m;simpa using m.symm
 ·have y:ai w h:=by rcases K with rfl|rfl;exact aj.refl _;exact aj.drewN w 1
  have b0:h.heap.size=w.heap.size:=by rcases K with rfl|rfl<;>rfl
  have a0:h.heap[it]? =some (.mapIter (some r) c seen C):=y.get F id;have b1:h.heap[r]? =some (.map e a):=y.get E id;have a1:=aC a0
  let p:=ChangeMaps.setBlock h it (.mapIter (some r) c (seen.push d.born) a)
  have L:aj (·=it) h p:=aj.setObj h it _;have M:p.heap[it]? =some (.mapIter (some r) c (seen.push d.born) a):=dm h it _ a1;have N:p.heap[r]? =some (.map e a):=L.get b1 (λd=>W d.symm);have a2:=mem_left J;obtain⟨b,i,O⟩:=List.getElem_of_mem J;have Q:b<left.length:=by have:=congrArg List.length m;simp at this;simp at i;omega
  have R:(d.key,d.val)=(enc left[b].1,left[b].2):=by
   have:=congrArg (λa3=>a3[b]?) m;simp only [Q9]at this;rw [Qq i,Qq Q,O]at this;simpa using this
  have a4:left=left.take b++(left[b].1,left[b].2)::left.drop (b+1):=by
   have:=(List.take_append_drop b left).symm;rw [X4 Q]at this;exact this
  have a5:(leftOf e (seen.push d.born)).toList=(leftOf e seen).toList.eraseIdx b:=by
   have k:((leftOf e seen).toList.map (·.born)).Nodup:=by
    unfold leftOf;rw [Array.toList_filter];exact v.sublist (List.Sublist.map _ List.filter_sublist)
   have hf:(leftOf e (seen.push d.born)).toList=(leftOf e seen).toList.filter (λj=>j.born !=d.born):=by
    unfold leftOf;rw [Array.toList_filter,Array.toList_filter,List.filter_filter]
    congr 1
    funext j
    rw [contains_push]
    cases seen.contains j.born<;>cases hx:(j.born==d.born)<;>simp only [bne,hx]<;>rfl
   rw [hf];have z:∀(f:List MapEntry) (b:Nat) (i:b<f.length),(f.map (·.born)).Nodup->f.filter (λj=>j.born !=f[b].born)=f.eraseIdx b:=by
    intro f
    induction f with
    |nil=>intro b i;simp at i
    |cons j f ih=>
     intro b i k;simp only [QY,List.nodup_cons]at k
     cases b with
     |zero=>
      simp only [List.getElem_cons_zero,List.eraseIdx_zero,List.tail_cons];rw [List.filter_cons_of_neg sM];apply List.filter_eq_self.2;intro a6 hy;simp only [bne_iff_ne,ne_eq];intro d;exact k.1 (d▸Xk.2 ⟨a6,hy,rfl⟩)
     |succ b=>
      simp only [List.getElem_cons_succ,List.eraseIdx_cons_succ];have n:b<f.length:=by simpa using i
      rw [List.filter_cons_of_pos,ih b n k.2];simp only [bne_iff_ne,ne_eq];intro d;exact k.1 (d▸Xk.2 ⟨f[b],XY n,rfl⟩)
   have:=z _ b i k;rw [O]at this;exact this
  have S:d.key=enc left[b].1:=(Prod.mk.inj R).1;have T:d.val=left[b].2:=(Prod.mk.inj R).2;refine aH.mk x ?_;rw [S,T];refine V left[b].1 left[b].2 (left.take b) (left.drop (b+1)) p a4 ⟨⟨e,a,c,seen.push d.born,a,N,X,Y,v,M,H,I,I,?_⟩,q.tidy⟩ ⟨e,a,c,seen,d,N,M,a2.1,v,S,T⟩ ((ai.keep y).then L) ?_
  ·rw [a5,map_eraseIdx,m,<-map_eraseIdx]
   congr 1
   rw [List.eraseIdx_eq_take_drop_succ]
  ·show(h.heap.setIfInBounds it _).size=_
   simp [b0]
theorem ry {c:κ} (d:Vv w it r enc c v) (e:o (.tuple #[enc c,v]) w):aH h (Instr.entry (.pointer (some ⟨it,0,none⟩))) w o t:=by
 obtain⟨f,a,b,seen,g,i,j,k,l,m,n⟩:=d.at';refine aH.mk (run_entry_at w it r b seen f a g j i k l) ?_;rw [m,n];exact e
theorem VQ {b c d e:TypeId} (f:nu h b c d v) (g:cx w r enc l) (i:o (XG (l.length:Int)) w):aH h (Builtin.len_ #[b] e #[.map (some r)]) w o t:=by
 obtain⟨j,a,k,m,_⟩:=g.at';have n:j.size=l.length:=by have:=congrArg List.length m;simpa using this
 refine aH.mk (v:=XG (l.length:Int)) ?_ i;rw [<-n];simp [Builtin.len_,Builtin.lenOf,run_underlying f.under,dW k,goInt]
theorem CI {a:ByteArray} (b:h.underlying g=some .string)
  (c:∀w',w'.heap[w.heap.size]? =some (.stringIter a 0)->ai w w'->w'.heap.size=w.heap.size+1->o (.pointer (some ⟨w.heap.size,0,none⟩)) w'):aH h (Instr.range g (.string a)) w o t:=
 aH.mk (run_range_string w g a b) (c _ (World.iter_heap w a 0) (aj.alloc w _) (by simp [World.iter]))
theorem HL {b:ByteArray} (c:w.heap[it]? =some (.stringIter b a)) (e:b.size<=a->o (.tuple #[.bool false]) w)
  (f:a<b.size->∀w',w'.heap[it]? =some (.stringIter b (a+(Utf8.decode b a).2))->aj (·=it) w w'->w'.heap.size=w.heap.size->o (.tuple #[.bool true,XG (a:Int),.int .i32 ((Utf8.decode b a).1:Int)]) w'):
  aH h (Instr.next (.pointer (some ⟨it,0,none⟩)) true g) w o t:=by
 by_cases d:a<b.size
 ·refine aH.mk (w':={w with heap:=w.heap.setIfInBounds it (.stringIter b (a+(Utf8.decode b a).2))}) ?_ (f d _ (dm w it _ (aC c)) (aj.setObj w it _) sM)
  simp [Instr.next,getObj,setObj,Sem.run,c,d,goInt]
 ·refine aH.mk ?_ (e oM)
  simp [Instr.next,getObj,Sem.run,c,d]
end
end Go.ax
namespace Go.Proofs.YtfchlbaidamodaaGreatDoor
open Go.ax
def eW (b:UInt8):Bool:=(97<=b&&b<=122)||(48<=b&&b<=57)||b==46
def dv (a:ByteArray):Bool:=decide (1<=a.size)&&decide (a.size<=16)&&a.data.toList.all eW
structure bQ where
 bytes:List UInt8
 synced:Nat
 jk:Bool
 deriving DecidableEq
structure ak where
 most:Nat
 files:List (ByteArray×bQ)
 js:Bool
 left:Int
 dead:Bool
 deriving DecidableEq
def eL (a:List (ByteArray×bQ)):Nat:=(a.map λb=>b.2.bytes.length).sum
def ak.used (D:ak):Nat:=eL D.files
structure ak.Ok (D:ak):Prop where
 most:D.most<=262144
 fits:D.used<=D.most
 many:D.files.length<=64
 tidy:Tidy D.files
 names:∀x∈D.files,dv x.1=true
 TD:∀x∈D.files,x.2.synced<=x.2.bytes.length
 Cs:0<=D.left
 Ct:aN D.left
variable{T q:Array Value}{L:Bool}{w:ByteArray}{f9:ByteArray×bQ}{z:FuncId}{e:Int}{h1:List (ByteArray×bQ)}{x:List UInt8}{a c:Nat}{f:Nat->Prop}{d:Option Addr}{I j:Type}{b7:UInt8}{b l:World}{y:World->Prop}{W:bQ}
theorem LZ (h:f9∈h1):f9.2.bytes.length<=eL h1:=by
 unfold eL
 induction h1 with
 |nil=>cases h
 |cons b h1 a=>
  simp only [QY,List.sum_cons];rcases Q2.1 h with rfl|h
  ·omega
  ·have:=a h;omega
theorem ak.Ok.len {D:ak} (a:D.Ok) (b:f9∈D.files):f9.2.bytes.length<=262144:=by
 have:=LZ b;have:=a.fits;have:=a.most;unfold ak.used at*;omega
structure eX (w:World) (q:Nat) (G:Nat->Prop) (f:bQ):Prop where
 body:∃a n cap F,w.heap[q]? =some (.cells #[.slice a n cap,XG f.synced,.bool f.jk] 206 (0,0))/\aV gq 5 F w a n cap f.bytes/\(∀b,F b->G b)/\¬F q
 self:G q
 aF:∀b,G b->b<w.heap.size
theorem eX.keep {S G:Nat->Prop} (d:eX b a G W) (e:aj S b l) (h:∀c,G c->¬S c):eX l a G W:=by
 obtain⟨j,k,f,m,n,o,i,p⟩:=d.body;exact⟨⟨j,k,f,m,e.get n (h _ d.self),o.keep e (λc g=>h c (i c g)),i,p⟩,d.self,λc g=>Qk (d.aF c g) e.size⟩
structure nW where
 q:Nat
 G:Nat->Prop
 f:bQ
def ptr (a:Nat):Value:=.pointer (some ⟨a,0,none⟩)
def eQ (a:ByteArray×nW):ByteArray×Value:=(a.1,ptr a.2.q)
def wC (a:ByteArray×nW):ByteArray×bQ:=(a.1,a.2.f)
structure FJ (w:World) (L:List (ByteArray×nW)):Prop where
 each:∀x∈L,eX w x.2.q x.2.G x.2.f
 apart:∀x∈L,∀y∈L,x.1≠y.1->∀b,x.2.G b->¬y.2.G b
 tidy:Tidy L
structure aW (w:World) (p:Nat) (F:Nat->Prop) (D:ak):Prop where
 body:∃r L,w.heap[p]? =some (.cells #[XG D.most,.map (some r),.bool D.js,XG D.left,.bool D.dead] 142 (0,0))/\cx w r Value.string (L.map eQ)/\D.files=L.map wC/\FJ w L/\
  (∀x∈L,∀b,x.2.G b->F b/\b≠p/\b≠r)/\F r/\p≠r
 self:F p
 aF:∀b,F b->b<w.heap.size
 ok:D.Ok
variable{a4:List (ByteArray×nW)}
theorem FJ.keep {S:Nat->Prop} (c:FJ b a4) (f:aj S b l) (g:∀a∈a4,∀d,a.2.G d->¬S d):FJ l a4:=
 ⟨λa e=>(c.each a e).keep f (g a e),c.apart,c.tidy⟩
theorem aW.keep {S f:Nat->Prop} {D:ak} (d:aW b a f D) (e:aj S b l) (g:∀c,f c->¬S c):aW l a f D:=by
 obtain⟨k,m,n,o,p,q,i,j,r⟩:=d.body;exact⟨⟨k,m,e.get n (g _ d.self),o.keep e (g _ j),p,q.keep e (λs t c h=>g c (i s t c h).1),i,j,r⟩,d.self,λc h=>Qk (d.aF c h) e.size,d.ok⟩
theorem aW.af {D:ak} (c:aW b a f D) (d:ai b l):aW l a f D:=c.keep d λ_ _ c=>c
theorem rm (c:j->I) (b:List (ByteArray×j)) (d:ByteArray) (e:j):(aJ b d e).map (λa=>(a.1,c a.2))=aJ (b.map λa=>(a.1,c a.2)) d (c e):=by
 induction b with
 |nil=>rfl
 |cons f b g=>
  obtain⟨a,h⟩:=f;simp only [aJ,QY];split
  ·rfl
  ·simp [g]
theorem Cu (c:j->I) (b:List (ByteArray×j)) (d:ByteArray):(bV b d).map (λa=>(a.1,c a.2))=bV (b.map λa=>(a.1,c a.2)) d:=by
 induction b with
 |nil=>rfl
 |cons e b f=>
  obtain⟨a,g⟩:=e;simp only [bV,QY];split
  ·rfl
  ·simp [f]
theorem Cv (c:j->I) (a:List (ByteArray×j)) (d:ByteArray):ay (a.map λb=>(b.1,c b.2)) d=(ay a d).map c:=by
 induction a with
 |nil=>rfl
 |cons e a f=>
  obtain⟨b,g⟩:=e;simp only [ay,QY];split
  ·rfl
  ·exact f
theorem gu {b:List (ByteArray×j)} (e:Tidy b) {c:j} {a:ByteArray×j} (h:a∈aJ b w c):a=(w,c)\/(a∈b/\a.1≠w):=by
 by_cases d:a.1=w
 ·left
  have:=rp (e.aJ w c) (k:=a.1) (v:=a.2) h;rw [bu,d]at this;simp at this;exact Prod.ext d this.symm
 ·rcases fG h with rfl|h
  ·exact .inl rfl
  ·exact .inr ⟨h,d⟩
theorem HC {b:List (ByteArray×j)} (c:Tidy b) {a:ByteArray×j} (d:a∈bV b w):a∈b/\a.1≠w:=by
 refine⟨gN d,λf=>?_⟩;have e:=rp (c.bV w) (k:=a.1) (v:=a.2) d;rw [gh c,f]at e;simp at e
theorem rq {l:List (ByteArray×bQ)} {k:ByteArray} {f:bQ}:eL (aJ l k f)+((ay l k).map λa=>a.bytes.length).getD 0=eL l+f.bytes.length:=by
 unfold eL
 induction l with
 |nil=>simp [aJ,ay]
 |cons b l c=>
  obtain⟨d,e⟩:=b;simp only [aJ,ay];split
  ·simp;omega
  ·simp only [QY,List.sum_cons]at c⊢;omega
theorem ze {l:List (ByteArray×bQ)} {k:ByteArray}:eL (bV l k)+((ay l k).map λa=>a.bytes.length).getD 0=eL l:=by
 unfold eL
 induction l with
 |nil=>simp [bV,ay]
 |cons b l c=>
  obtain⟨d,e⟩:=b;simp only [bV,ay];split
  ·simp;omega
  ·simp only [QY,List.sum_cons]at c⊢;omega
theorem yw {a:List (ByteArray×j)} {c:j} (b:(ay a w).isSome=true):(aJ a w c).length=a.length:=by
 induction a with
 |nil=>simp [ay]at b
 |cons d a e=>
  obtain⟨g,h⟩:=d;simp only [aJ,ay]at b⊢;split
  ·rfl
  ·rename_i f
   rw [if_neg f]at b;simp [e b]
theorem aW.head {D:ak} (d:aW b a f D):∃c,b.heap[a]? =some (.cells #[XG D.most,.map (some c),.bool D.js,XG D.left,.bool D.dead] 142 (0,0)):=by
 obtain⟨c,g,e,_⟩:=d.body;exact⟨c,e⟩
theorem aW.L_ {D c:ak} (e:aW b a f D) (g:aj (·=a) b l)
  (m:∀d,b.heap[a]? =some (.cells #[XG D.most,.map (some d),.bool D.js,XG D.left,.bool D.dead] 142 (0,0))->l.heap[a]? =some (.cells #[XG c.most,.map (some d),.bool c.js,XG c.left,.bool c.dead] 142 (0,0)))
  (n:c.files=D.files) (o:c.Ok):aW l a f c:=by
 obtain⟨d,p,q,r,s,t,j,u,k⟩:=e.body;exact⟨⟨d,p,m d q,r.keep g (λv=>k v.symm),n.trans s,t.keep g (λw x h i=>(j w x h i).2.1),j,u,k⟩,e.self,λh i=>Qk (e.aF h i) g.size,o⟩
theorem aW.AX {D:ak} (c:aW b a f D) (e:∀d,aW d a f {D with dead:=L}->aj f b d->d.heap.size=b.heap.size->y d):PS b ⟨a,0+4,none⟩ (.bool L) y:=by
 obtain⟨m,g⟩:=c.head;refine PS.mk g sM λd h j k=>e d (c.L_ h (λn i=>?_) rfl ⟨c.ok.most,c.ok.fits,c.ok.many,c.ok.tidy,c.ok.names,c.ok.TD,c.ok.Cs,c.ok.Ct⟩) (h.mono λL _ l=>l▸c.self) j;rw [g]at i;cases i;exact k
theorem aW.NZ {D:ak} (c:aW b a f D) (k:0<=e) (l:aN e) (g:∀d,aW d a f {D with left:=e}->aj f b d->d.heap.size=b.heap.size->y d):PS b ⟨a,0+3,none⟩ (XG e) y:=by
 obtain⟨p,h⟩:=c.head;refine PS.mk h sM λd i m n=>g d (c.L_ i (λq j=>?_) rfl ⟨c.ok.most,c.ok.fits,c.ok.many,c.ok.tidy,c.ok.names,c.ok.TD,k,l⟩) (i.mono λr _ o=>o▸c.self) m;rw [h]at j;cases j;exact n
theorem Py :Calls ZX 34 #[XG e] b (Ok λf d=>
  if e<64\/e>262144 then f= .tuple #[.pointer none,XG 1]/\d=b
  else∃g h,f= .tuple #[.pointer (some ⟨g,0,none⟩),XG 0]/\aW d g h ⟨e.toNat,[],false,0,false⟩/\ai b d/\∀a,h a->b.heap.size<=a):=by
 refine Jg (al.dec (λc=>?_) (λc=>al.dec (λi=>?_) (λi=>?_)))
 ·exact Ok.mk (by rw [if_pos (.inl c)];exact⟨rfl,rfl⟩)
 ·exact Ok.mk (by rw [if_pos (.inr i)];exact⟨rfl,rfl⟩)
 ·refine PA.mk λk l p m=>PA.mk λn j q o=>Ok.mk ?_
  rw [if_neg oM];refine⟨k.heap.size,λa=>b.heap.size<=a/\a<n.heap.size,rfl,⟨⟨b.heap.size,[],?_,cx.new (j.get m id),rfl,⟨sM,sM,by simp [Tidy]⟩,sM,oM,oM⟩,oM,λa c=>c.2,?_⟩,l.af j,λa c=>c.1⟩
  ·rw [o]
   have:((e.toNat:Nat):Int)=e:=oM
   rw [this]
  ·exact⟨by show e.toNat<=_;omega,by simp [ak.used,eL],by simp,by simp [Tidy],by simp,by simp,by simp,by unfold aN;simp⟩
def ak.dies (D:ak):Bool:=D.dead||(D.js&&D.left==0)
def ak.di (D:ak):ak:=if D.js then{D with left:=D.left-1}else D
def ak.gone (D:ak):ak:={D with dead:=true}
theorem Mb {D:ak} (m:aW b a f D) {e:Int} {D':ak} (B:enters ZX z=true)
  (F:D.dies=false->∀c,aW c a f D.di->aj f b c->c.heap.size=b.heap.size->Calls ZX z (q++ #[]++T) c (Ok λi g=>∃h,i= XG e/\aW g a h D'/\de f c h g)):
  Calls ZX 241 #[.pointer (some ⟨a,0,none⟩),.func (.func z) q T] b (Ok λi g=>∃h,i= XG (if D.dies then 15 else e)/\aW g a h (if D.dies then D.gone else D')/\de f b h g):=by
 obtain⟨M,w⟩:=m.head;have n:∀c,D.dies=true->aW c a f {D with dead:=true}->aj f b c->Ok (λi g=>∃h,i= XG (if D.dies then 15 else e)/\aW g a h (if D.dies then D.gone else D')/\de f b h g) (.returned (XG 15)) c:=
  λc j d H=>Ok.mk ⟨f,by rw [j];rfl,by rw [j];exact d,H,λ_ m=>.inl m⟩
 refine uQ ⟨λc=>aW c a f D/\aj f b c/\c.heap.size=b.heap.size/\D.dies=false,?_,?_⟩
 ·refine⟨a,0,rfl,_,ae w rfl,al.mk (λj=>⟨a,0,rfl,m.AX λc d k r=>?_⟩) (λj=>⟨a,0,rfl,_,ae w rfl,al.mk (λo=>⟨a,0,rfl,_,ae w rfl,a,0,rfl,m.AX λc d k r=>?_⟩) (λo=>⟨a,0,rfl,m.AX λc d k r=>?_⟩)⟩)⟩
  ·obtain⟨x,p⟩:=d.head
   exact⟨a,0,rfl,true,ae p rfl,n c (by simp [ak.dies,j]) d k⟩
  ·obtain⟨x,p⟩:=d.head
   refine⟨a,0,rfl,D.left==0,ae p rfl,al.mk (λs=>n c (by unfold ak.dies;rw [o,s];simp) (by rw [s]at d;exact d) k) (λs=>⟨?_,k,r,by unfold ak.dies;rw [j,s];simp⟩)⟩;have:({D with dead:=D.left==0}:ak)=D:=by rw [s,<-j]
   rw [this]at d;exact d
  ·obtain⟨x,p⟩:=d.head
   refine⟨a,0,rfl,false,ae p rfl,?_,k,r,by simp [ak.dies,j,o]⟩;have:({D with dead:=false}:ak)=D:=by rw [<-j]
   rw [this]at d;exact d
 ·rintro N c ⟨d,k,r,u⟩
  obtain⟨x,p⟩:=d.head;have t:∀l,aW l a f D.di->aj f b l->l.heap.size=b.heap.size->PC ZX z (q++ #[]++T) l (λi g=>∃C:Int,i= XG C/\Ok (λi g=>∃h,i= XG (if D.dies then 15 else e)/\aW g a h (if D.dies then D.gone else D')/\de f b h g) (.returned (XG C)) g)
    (λI g=>Ok (λi g=>∃h,i= XG (if D.dies then 15 else e)/\aW g a h (if D.dies then D.gone else D')/\de f b h g) (.panicked I) g):=by
   intro l y v A;refine PC.ok (F u l y v A) ?_;rintro _ O ⟨h,rfl,J,K⟩;exact⟨e,rfl,Ok.mk ⟨h,by rw [u];rfl,by rw [u];exact J,(de.mk v λ_ m=>.inl m:de f b f l).trans K⟩⟩
  refine⟨a,0,rfl,_,ae p rfl,al.mk (λo=>?_) (λo=>?_)⟩
  ·have P:D.left≠0:=by
    intro E;simp [ak.dies,o,E]at u
   have E:=d.ok.Cs;have Q:=d.ok.Ct;have L:IntKind.wrap .i64 (D.left-1)=D.left-1:=wrap_i64 (by unfold aN at*;omega);refine⟨a,0,rfl,_,ae p rfl,a,0,rfl,?_⟩;rw [L];refine d.NZ oM (by unfold aN at*;omega) λl y v A=>⟨z,q,T,rfl,B,t l ?_ (k.then v) (A.trans r)⟩
   unfold ak.di;rw [if_pos o];exact y
  ·refine⟨z,q,T,rfl,B,t c ?_ k r⟩
   unfold ak.di;rw [if_neg (by simp [o])];exact d
def cs:ByteArray:=⟨#[97,98,99,100,101,102,103,104,105,106,107,108,109,110,111,112,113,114,115,116,117,118,119,120,121,122,48,49,50,51,52,53,54,55,56,57,46]⟩
theorem Sm:∀a:UInt8,decide (0<=Lib.indexByte cs.data.toList a)=eW a:=by
 have c:(List.range 256).all (λb=>decide (0<=Lib.indexByte cs.data.toList (UInt8.ofNat b))==eW (UInt8.ofNat b))=true:=by decide+kernel
 intro a;have:=List.all_eq_true.1 c a.toNat (List.mem_range.2 a.toNat_lt);simpa using this
theorem Um (c:128<=b7.toNat):eW b7=false:=by
 have a:(List.range 128).all (λb=>eW (UInt8.ofNat (128+b))==false)=true:=by decide+kernel
 have:=List.all_eq_true.1 a (b7.toNat-128) (List.mem_range.2 (by have:=b7.toNat_lt;omega));rw [show 128+(b7.toNat-128)=b7.toNat by omega]at this;simpa using this
theorem CG:∀a∈cs.data.toList,a.toNat<128:=by decide+kernel
theorem Un:cs.size=37:=by decide+kernel
theorem strings_IndexByte {a:ByteArray} {b:Int} {c:World}:Calls ZX 341 #[.string a,.int .u8 b] c (Ok λe d=>e= XG (Lib.indexByte a.data.toList b.toNat.toUInt8)/\c=d):=
 (Any.strings_IndexByte Tryz.Uo a b c).mono λh d ⟨f,g⟩=>⟨_,f,rfl,g.symm⟩
theorem CH :Calls ZX 342 #[.int .i32 e] b (Ok λf g=>f= .bool (Utf8.valid e)/\b=g):=by
 have d:=validRune_eq e;unfold validRune at d;refine mP (al.dec (λh=>al.dec (λi=>?_) (λi=>al.dec (λa=>al.dec (λc=>?_) (λc=>?_)) (λa=>?_))) (λh=>al.dec (λa=>al.dec (λc=>?_) (λc=>?_)) (λa=>?_)))
 all_goals
  refine Ok.mk ⟨?_,rfl⟩;rw [d]
  congr 1
  simp;omega
theorem rG (b:a<w.size):w[a]? =some (w[a]'b):=by simp [b]
theorem tR:∀{l:List UInt8} {a:UInt8},(∀b∈l,b≠a)->Lib.indexByte l a= -1
 |[],_,_=>rfl
 |b::l,a,c=>by
  have d:(b==a)=false:=beq_false_of_ne (c b (QV ..));have e:=tR (l:=l) λf g=>c f (QJ _ g);unfold Lib.indexByte;rw [d,e];rfl
theorem rH (y:0<=e):
  Calls ZX 320 #[.string cs,.int .i32 e] b (Ok λi a=>(∃d:Int,i= XG d/\decide (d>=0)=(decide (e<128)&&eW e.toNat.toUInt8))/\ai b a):=by
 refine te ⟨λj a=>j=decide (e<128)/\a=b,al.dec (λ_=>⟨rfl,rfl⟩) (λg=>absurd y g),?_⟩;rintro Q p h ⟨rfl,rfl⟩;refine al.dec (λg=>PC.ok strings_IndexByte ?_) (λg=>al.dX (λz=>?_) (λz=>PC.ok CH ?_))
 ·rintro _ _ ⟨rfl,rfl⟩
  refine⟨_,rfl,Ok.mk ⟨⟨_,rfl,?_⟩,aj.refl _⟩⟩;have A:IntKind.wrap .u8 e=e:=by
   unfold IntKind.wrap;simp [IntKind.signed,IntKind.bits];omega
  rw [A,decide_eq_true g,Bool.true_and];exact Sm _
 ·have no:∀a,ai h a->Ok (λi a=>(∃d:Int,i= XG d/\decide (d>=0)=(decide (e<128)&&eW e.toNat.toUInt8))/\ai h a) (.returned (XG (-1))) a:=λa q=>
   Ok.mk ⟨⟨_,rfl,by rw [Xv g];rfl⟩,q⟩
  refine CI Tryz.underlying9 λB C r R=>⟨λk a=>∃c,k=cs.size-c/\a.heap[h.heap.size]? =some (.stringIter cs c)/\ai h a,⟨_,0,rfl,C,r⟩,?_⟩
  rintro k p s ⟨c,rfl,E,t⟩;refine HL E (λ_=>.inl ⟨rfl,no s t⟩) λl F u H S=>.inr ⟨_,_,rfl,?_⟩;have m:(cs[c]'l).toNat<128:=CG _ (by rw [show cs[c]'l=cs.data.toList[c]'(by simpa using l)from by simp;rfl];exact XY _);have I:=decode_ascii cs c l m;rw [I]at u⊢;refine al.dX (λg=>oM) (λ_=>⟨_,?_,c+1,rfl,u,t.new H λj m=>.inr oM⟩);omega
 ·have no:∀a,ai h a->Ok (λi a=>(∃d:Int,i= XG d/\decide (d>=0)=(decide (e<128)&&eW e.toNat.toUInt8))/\ai h a) (.returned (XG (-1))) a:=λa q=>
   Ok.mk ⟨⟨_,rfl,by rw [Xv g];rfl⟩,q⟩
  rintro _ _ ⟨rfl,rfl⟩;refine⟨_,rfl,al.not (al.mk (λJ=>?_) (λ_=>no _ (aj.refl _)))⟩;obtain⟨K,L,v⟩:=encode_facts e J oM;refine aH.mk (run_convert_int_string h _ _ .i32 e kR Tryz.underlying9) ⟨_,rfl,?_⟩;generalize Utf8.encode e=f at K L v⊢;have M:IntKind.wrap .i64 (((f.size:Nat):Int)-1)=((f.size-1:Nat):Int):=by rw [wrap_i64 (by unfold aN;omega)];omega
  rw [M];refine⟨λk d a=>d=((f.size-1:Nat):Int)/\ai h a,⟨0,rfl,aj.refl _⟩,?_⟩;rintro k d p B ⟨rfl,r⟩;have T:=Un;have n:f.size-1<f.size:=oM
  have o:f.size-1<cs.size:=oM
  have U:=v n;have V:(cs[f.size-1]'o).toNat<128:=CG _ (by rw [show cs[f.size-1]'o=cs.data.toList[f.size-1]'(by simpa using o)from by simp;rfl];exact XY _);refine al.dec (λW=>⟨λ_ _=>False,?_,λd p b g=>g.elim⟩) (λX=>oM);simp only [Qx];rw [an oM];refine⟨oM,_,rG o,oM,_,rG n,λs N=>al.dw (λ_=>λF O=>⟨oM,oM,oM,_,rG n,PC.ok strings_IndexByte ?_⟩) (λw=>oM)⟩;rintro _ _ ⟨rfl,rfl⟩;have P:Lib.indexByte (cs.extract (Int.toNat ((f.size-1+1:Nat):Int)) cs.size).data.toList ((((f[f.size-1]'n).toNat:Nat):Int).toNat.toUInt8)= -1:=by
   refine tR λj m w=>?_;have x:=CG j (mem_extract m);rw [w]at x;simp at x;omega
  refine⟨_,rfl,al.dec (λ_=>no _ ((r.af N.keep).af O.keep)) (λg=>?_)⟩;rw [P]at g;omega
theorem CK (f:0<=e):
  Calls ZX 290 #[.int .i32 e] b (Ok λa c=>a= .bool (!(decide (e<128)&&eW e.toNat.toUInt8))/\ai b c):=by
 refine ym (PC.ok (φ:=λa c=>a= .bool (decide (e<128)&&eW e.toNat.toUInt8)/\ai b c) (oQ (PC.ok (rH f) ?_)) ?_)
 ·rintro _ g ⟨⟨h,rfl,i⟩,d⟩
  exact⟨h,rfl,Ok.mk ⟨by rw [i],d⟩⟩
 ·rintro _ g ⟨rfl,d⟩
  exact⟨_,rfl,Ok.mk ⟨rfl,d⟩⟩
theorem l_ :
  Calls ZX 292 #[.string w,.func (.func 290) #[] #[]] b (Ok λg f=>g= .bool (!w.data.toList.all eW)/\ai b f):=by
 have u:enters ZX 290=true:=kR
 refine oR (PC.ok (φ:=λg f=>(∃d:Int,g= XG d/\decide (d>=0)= !w.data.toList.all eW)/\ai b f) (tw (PC.ok (φ:=λg f=>(∃d:Int,g= XG d/\decide (d>=0)= !w.data.toList.all eW)/\ai b f) (tx ?_) ?_)) ?_)
 ·refine CI Tryz.underlying9 λF v x H=>⟨λp f=>∃a,p=w.size-a/\a<=w.size/\f.heap[b.heap.size]? =some (.stringIter w a)/\ai b f/\(∀i∈w.data.toList.take a,eW i=true),⟨_,0,rfl,Qj _,v,x,sM⟩,?_⟩
  rintro p I J ⟨a,rfl,K,y,q,j⟩;refine HL y (λz=>.inl ⟨rfl,Ok.mk ⟨⟨_,rfl,?_⟩,q⟩⟩) λe A r B L=>.inr ⟨_,_,rfl,_,_,_,rfl,u,?_⟩
  ·rw [Qz (by simpa using z)]at j
   have:w.data.toList.all eW=true:=List.all_eq_true.2 j;rw [this];rfl
  ·have s:ai b A:=q.new B λi c=>.inr oM
   have t:w.data.toList[a]? =some (w[a]'e):=by
    rw [Qq (by simpa using e)];simp;rfl
   refine PC.ok (CK (Int.natCast_nonneg _)) ?_;rintro _ M ⟨rfl,k⟩;refine⟨_,rfl,al.mk (λl=>?_) (λh=>?_)⟩
   ·
    refine Ok.mk ⟨⟨_,rfl,?_⟩,s.af k⟩;have m:eW (w[a]'e)=false:=by
     by_cases c:(w[a]'e).toNat<128
     ·rw [decode_ascii w a e c]at l
      simp at l;exact l.resolve_left oM
     ·exact Um oM
    have:w.data.toList.all eW=false:=List.all_eq_false.2 ⟨_,QZ t,by simp [m]⟩;rw [this];simp
   ·have c:(w[a]'e).toNat<128:=by
     by_cases c:(w[a]'e).toNat<128
     ·exact c
     ·have N:=(decode_high w a e oM).1
      have C:¬(((Utf8.decode w a).1:Int)<128):=oM
      rw [Xv C]at h;simp at h
    rw [decode_ascii w a e c]at r h;have m:eW (w[a]'e)=true:=by
     simp at h;exact h.2
    refine⟨_,?_,a+1,rfl,oM,k.get r id,s.af k,λi c=>?_⟩
    ·omega
    ·rw [Qw,t]at c
     rcases Q6.1 c with c|c
     ·exact j i c
     ·simp at c;rw [c];exact m
 ·rintro _ E ⟨⟨d,rfl,n⟩,o⟩
  exact⟨d,rfl,Ok.mk ⟨⟨d,rfl,n⟩,o⟩⟩
 ·rintro _ E ⟨⟨d,rfl,n⟩,o⟩
  exact⟨d,rfl,Ok.mk ⟨by rw [n],o⟩⟩
theorem wG :Calls ZX 243 #[.string w] b (Ok λc d=>c= .bool (dv w)/\ai b d):=by
 refine BX (al.Zl (λa=>al.dec (λe=>PC.ok l_ ?_) (λe=>Ok.mk ⟨?_,aj.refl _⟩)) (λa=>Ok.mk ⟨?_,aj.refl _⟩))
 ·rintro _ i ⟨rfl,f⟩
  refine⟨_,rfl,Ok.mk ⟨?_,f⟩⟩;have g:1<=w.size:=by
   by_cases h:w.size=0
   ·exact absurd (ByteArray.ext (Array.eq_empty_of_size_eq_zero h)) a
   ·omega
  unfold dv;rw [decide_eq_true g,decide_eq_true (show w.size<=16 by omega)];simp
 ·unfold dv
  rw [Xv (show¬w.size<=16 by omega)];simp
 ·subst a;rfl
theorem lG {D:Nat->Prop} (h:Row gq 1 b D d a x) (i:∀e,D e->e<b.heap.size):
  Calls ZX 174 #[.slice d a c] b (Ok (qD gq 5 b x)):=by
 have y:=h.len;have f:=h.d_;refine mO (kZ ur.under ⟨_,rfl,al.mk (λg=>?_) (λg=>PA.mk λl j z m=>?_)⟩)
 ·have:x=[]:=by
   cases d with
   |none=>
    cases x with
    |nil=>rfl
    |cons n A=>obtain⟨e,o,B,p,_⟩:=h.el 0 n rfl;cases p
   |some q=>cases g
  subst this;exact Ok.mk ⟨none,0,0,λ_=>False,rfl,aV.nil b,aj.refl _,λ_ h=>h.elim⟩
 ·cases d with
  |none=>cases g
  |some q=>
   have r:aV gq 5 (·=b.heap.size) l (some ⟨b.heap.size,0,none⟩) 0 0 []:=
    ⟨⟨[],λ_=>False,Own.xF (cur:= #[]) m rfl (Qj _),rfl,λ_ h=>h.elim⟩,λe f=>by simpa [aI]using f.symm,λe f=>oM⟩
   refine lH r ur (D:=D) (h.af j) (λe f=>⟨by have:=i e f;omega,by have:=i e f;simp only [aI];intro s;cases s;omega⟩) (by simp;omega) (by unfold aQ at f;unfold maxLen;simp;omega) λk t C E u v _ w=>?_;refine⟨_,_,_,rfl,Ok.mk ⟨k,_,t,λe=>aI k=some e,rfl,by have h:=u.alone;rw [List.nil_append]at h;exact h,j.new v λe f=>.inr ?_,λe f=>?_⟩⟩
   ·simp only [aI,Q1]at f;omega
   ·rcases w e f with h|h<;>omega
def gY (a:Int) (b:Nat):Nat:=(max 0 (min a b)).toNat
theorem nV (b:Int) (a:Nat):gY b a<=a:=by unfold gY;omega
def bQ.cut (a:bQ) (b:Int):bQ:=⟨a.bytes.take (gY b a.bytes.length),gY b a.bytes.length,true⟩
theorem Ua (a:bQ) (b:Int):(a.cut b).bytes.length=gY b a.bytes.length:=by
 have:=nV b a.bytes.length;simp [bQ.cut];omega
theorem Cw {G:Nat->Prop} (j:eX b a G W) (d:W.bytes.length<=262144):
  Calls ZX 123 #[.pointer (some ⟨a,0,none⟩),XG e] b (Ok λz q=>∃r,z= .tuple #[]/\eX q a r (W.cut e)/\de G b r q):=by
 obtain⟨s,f,k,A,B,h,R,S⟩:=j.body;have C:f=W.bytes.length:=h.len dC;have T:=h.jx;refine wj λl E=>?_;have g:ai b l:=E.keep;have i:=g.get B id;have U:=nV e W.bytes.length;have F:(if(if((f:Nat):Int)<e then((f:Nat):Int)else e)>0 then(if((f:Nat):Int)<e then((f:Nat):Int)else e)else 0)=((gY e W.bytes.length:Nat):Int):=by
  unfold gY;rw [C];omega
 refine⟨a,0,rfl,_,_,_,ae i rfl,a,0,rfl,s,f,k,ae i rfl,?_⟩;rw [F];refine⟨oM,oM,?_⟩;rw [Qx];have H:Row gq 1 l A s f W.bytes:=(h.row dC (by unfold aQ;omega)).af g;refine PC.ok (lG (H.take (m:=gY e W.bytes.length) oM) (λc d=>Qk (h.aF c d) g.size)) ?_;rintro _ I ⟨t,m,u,n,rfl,o,p,v⟩;have J:m=gY e W.bytes.length:=by have:=o.len dC;rw [this];simp;omega
 have V:a<l.heap.size:=aC i;refine⟨_,_,_,rfl,a,0,rfl,PS.mk (p.get i id) sM λX K Y w=>⟨a,0,rfl,t,m,u,ae w rfl,a,0,rfl,PS.mk w sM λZ L s4 M=>⟨a,0,rfl,PS.mk M sM λN O s5 P=>Ok.mk ?_⟩⟩⟩;have x:aj (·=a) I N:=(K.then L).then O;have y:∀c,n c->c≠a:=λc d=>by have:=v c d;omega
 refine⟨λc=>c=a\/n c,rfl,⟨⟨t,m,u,n,?_,o.keep x y,λc d=>.inr d,λQ=>y a Q rfl⟩,.inl rfl,?_⟩,⟨((ai.keep g).then (ai.keep p)).then (x.mono λc _ d=>by rw [d];exact j.self),?_⟩⟩
 ·rw [P]
  subst J
  rfl
 ·rintro c (rfl|d)
  ·have:=p.size;omega
  ·have:=o.aF c d;omega
 ·rintro c (rfl|d)
  ·exact .inl j.self
  ·have:=v c d;have:=g.size;exact .inr oM
structure fE (w:World) (p:Nat) (F:Nat->Prop) (D:ak) (r:Nat) (L:List (ByteArray×nW)):Prop where
 head:w.heap[p]? =some (.cells #[XG D.most,.map (some r),.bool D.js,XG D.left,.bool D.dead] 142 (0,0))
 map:cx w r Value.string (L.map eQ)
 files:D.files=L.map wC
 each:FJ w L
 Jy:∀x∈L,∀b,x.2.G b->F b/\b≠p/\b≠r
 Fr:F r
 pr:p≠r
 self:F p
 aF:∀b,F b->b<w.heap.size
 ok:D.Ok
theorem aW.open {D:ak} (c:aW b a f D):∃d e,fE b a f D d e:=by
 obtain⟨d,e,g,h,i,j,k,l,m⟩:=c.body;exact⟨d,e,g,h,i,j,k,l,m,c.self,c.aF,c.ok⟩
theorem fE.at {D:ak} (d:fE b a f D c a4):aW b a f D:=
 ⟨⟨c,a4,d.head,d.map,d.files,d.each,d.Jy,d.Fr,d.pr⟩,d.self,d.aF,d.ok⟩
theorem fE.keep {S g:Nat->Prop} {D:ak} (d:fE b a g D c a4) (f:aj S b l) (h:∀e,g e->¬S e):fE l a g D c a4:=
 ⟨f.get d.head (h _ d.self),d.map.keep f (h _ d.Fr),d.files,d.each.keep f (λj k e i=>h e (d.Jy j k e i).1),d.Jy,d.Fr,d.pr,d.self,λe i=>Qk (d.aF e i) f.size,d.ok⟩
theorem fE.af {D:ak} (d:fE b a f D c a4) (e:ai b l):fE l a f D c a4:=d.keep e λ_ _ d=>d
theorem fE.box {D:ak} (j:fE b a f D c a4) (e:ByteArray):
  (ay D.files e=none/\ay (a4.map eQ) e=none)\/∃d,ay a4 e=some d/\(e,d)∈a4/\ay D.files e=some d.f/\ay (a4.map eQ) e=some (ptr d.q):=by
 have g:ay (a4.map eQ) e=(ay a4 e).map λd=>ptr d.q:=Cv (λd:nW=>ptr d.q) a4 e;have h:ay D.files e=(ay a4 e).map λd=>d.f:=by rw [j.files];exact Cv (λd:nW=>d.f) a4 e
 cases i:ay a4 e with
 |none=>rw [i]at g h;exact .inl ⟨h,g⟩
 |some d=>rw [i]at g h;exact .inr ⟨d,rfl,cF i,h,g⟩
def ak.eJ (D:ak) (a:ByteArray) (b:bQ):ak:={D with files:=aJ D.files a b}
def ak.wB (D:ak) (a:ByteArray):ak:={D with files:=bV D.files a}
theorem ru {a:List (ByteArray×j)} {c:j} (h:(w,c)∈a) (b:Tidy a):aJ a w c=a:=by
 induction a with
 |nil=>cases h
 |cons d a e=>
  obtain⟨f,i⟩:=d;unfold aJ;unfold Tidy at b;simp only [QY,List.nodup_cons]at b;rcases Q2.1 h with h|h
  ·cases h;simp
  ·have:(w==f)=false:=beq_false_of_ne λg=>b.1 (Xk.2 ⟨(w,c),h,g⟩)
   rw [if_neg (by simp [this]),e h b.2]
theorem fE.fr {j w':World} {o G':Nat->Prop} {D:ak} (e:fE j a o D c a4) {k:ByteArray} {x:nW} (w:ay a4 k=some x) 
  (u:eX w' x.q G' W) (i:de x.G j G' w') (y:(D.eJ k W).Ok):∃v,fE w' a v (D.eJ k W) c (aJ a4 k ⟨x.q,G',W⟩)/\de o j v w':=by
 have l:=cF w;have m:=e.Jy _ l;have z:aj o j w':=i.keep.mono λb _ d=>(m b d).1;have p:∀f∈aJ a4 k ⟨x.q,G',W⟩,f=(k,⟨x.q,G',W⟩)\/(f∈a4/\f.1≠k):=λf g=>gu e.each.tidy g;refine⟨λb=>o b\/(j.heap.size<=b/\b<w'.heap.size),⟨i.keep.get e.head λd=>(m _ d).2.1 rfl,?_,?_,⟨?_,?_,e.each.tidy.aJ _ _⟩,?_,.inl e.Fr,e.pr,.inl e.self,?_,y⟩,z,λb d=>d.imp id (·.1)⟩
 ·have A:(aJ a4 k ⟨x.q,G',W⟩).map eQ=a4.map eQ:=by
   have h:(aJ a4 k ⟨x.q,G',W⟩).map eQ=aJ (a4.map eQ) k (ptr x.q):=rm (λx:nW=>ptr x.q) a4 k _;rw [h];have B:Tidy (a4.map eQ):=e.map.tidy;exact ru (Xk.2 ⟨_,l,rfl⟩) B
  rw [A];exact e.map.keep i.keep λd=>(m _ d).2.2 rfl
 ·have h:(aJ a4 k ⟨x.q,G',W⟩).map wC=aJ (a4.map wC) k W:=rm (λx:nW=>x.f) a4 k _
  rw [h,<-e.files];rfl
 ·intro f g
  rcases p f g with rfl|⟨g,t⟩
  ·exact u
  ·exact(e.each.each f g).keep i.keep λb d=>e.each.apart f g _ l t b d
 ·intro f g q n r b d s
  rcases p f g with rfl|⟨g,t⟩<;>rcases p q n with rfl|⟨n,C⟩
  ·exact r rfl
  ·rcases i.new b d with h|h
   ·exact e.each.apart _ l q n r b h s
   ·have:=(e.each.each q n).aF b s;omega
  ·rcases i.new b s with h|h
   ·exact e.each.apart f g _ l r b d h
   ·have:=(e.each.each f g).aF b d;omega
  ·exact e.each.apart f g q n r b d s
 ·intro f g b d
  rcases p f g with rfl|⟨g,t⟩
  ·have E:=aC e.head
   have F:=e.map.lt;rcases i.new b d with h|h
   ·exact⟨.inl (m b h).1,(m b h).2⟩
   ·exact⟨.inr ⟨h,u.aF b d⟩,oM,oM⟩
  ·exact⟨.inl (e.Jy f g b d).1,(e.Jy f g b d).2⟩
 ·rintro b (d|d)
  ·exact Qk (e.aF b d) i.keep.size
  ·exact d.2
theorem fE.drop {D:ak} (e:fE b a f D c a4) 
  (p:cx l c Value.string (bV (a4.map eQ) w)) (j:aj (·=c) b l) (q:(D.wB w).Ok):fE l a f (D.wB w) c (bV a4 w):=by
 have h:∀d∈bV a4 w,d∈a4:=λd g=>gN g;refine⟨j.get e.head (λi=>e.pr i),?_,?_,⟨λd g=>((e.each.each d (h d g)).keep j λk m=>(e.Jy d (h d g) k m).2.2),λd g o r=>e.each.apart d (h d g) o (h o r),e.each.tidy.bV w⟩,λd g=>e.Jy d (h d g),e.Fr,e.pr,e.self,λk m=>Qk (e.aF k m) j.size,q⟩
 ·have i:(bV a4 w).map eQ=bV (a4.map eQ) w:=Cu (λn:nW=>ptr n.q) a4 w
  rw [i];exact p
 ·have i:(bV a4 w).map wC=bV (a4.map wC) w:=Cu (λn:nW=>n.f) a4 w
  rw [i,<-e.files];rfl
theorem fE.put {r G':Nat->Prop} {D:ak} (g:fE b a r D c a4) {q:Nat} 
  (x:cx l c Value.string (aJ (a4.map eQ) w (ptr q))) (h:aj (·=c) b l) (s:eX b q G' W) (t:∀e∈a4,e.1≠w->∀d,G' d->¬e.2.G d) (u:∀d,G' d->d≠a/\d≠c) (y:(D.eJ w W).Ok):
  fE l a (λd=>r d\/G' d) (D.eJ w W) c (aJ a4 w ⟨q,G',W⟩):=by
 have j:∀e∈aJ a4 w ⟨q,G',W⟩,e=(w,⟨q,G',W⟩)\/(e∈a4/\e.1≠w):=λe f=>gu g.each.tidy f;refine⟨h.get g.head (λi=>g.pr i),?_,?_,⟨?_,?_,g.each.tidy.aJ _ _⟩,?_,.inl g.Fr,g.pr,.inl g.self,?_,y⟩
 ·have i:(aJ a4 w ⟨q,G',W⟩).map eQ=aJ (a4.map eQ) w (ptr q):=rm (λm:nW=>ptr m.q) a4 w _
  rw [i];exact x
 ·have i:(aJ a4 w ⟨q,G',W⟩).map wC=aJ (a4.map wC) w W:=rm (λm:nW=>m.f) a4 w _
  rw [i,<-g.files];rfl
 ·intro e f
  rcases j e f with rfl|⟨f,n⟩
  ·exact s.keep h λd B=>(u d B).2
  ·exact(g.each.each e f).keep h λd B=>(g.Jy e f d B).2.2
 ·intro e f o k v d B p
  rcases j e f with rfl|⟨f,n⟩<;>rcases j o k with rfl|⟨k,z⟩
  ·exact v rfl
  ·exact t o k z d B p
  ·exact t e f n d p B
  ·exact g.each.apart e f o k v d B p
 ·intro e f d B
  rcases j e f with rfl|⟨f,n⟩
  ·exact⟨.inr B,u d B⟩
  ·exact⟨.inl (g.Jy e f d B).1,(g.Jy e f d B).2⟩
 ·rintro d (B|B)
  ·exact Qk (g.aF d B) h.size
  ·exact Qk (s.aF d B) h.size
end Go.Proofs.YtfchlbaidamodaaGreatDoor

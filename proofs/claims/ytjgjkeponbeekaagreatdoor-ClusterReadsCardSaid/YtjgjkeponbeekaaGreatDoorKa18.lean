import Derived.Test.YtjgjkeponbeekaaGreatDoorYaLift
import Derived.RangeFuncSeq
import Derived.RangeFuncLeaves
set_option linter.all false
set_option maxHeartbeats 4000000
namespace Go.ar
open Go
abbrev FW(a:Option Nat):Fence:={Fence.wide with round:=a}
variable{H:Act}{S:Array Oper}{n:Array Value}{I:Bool}{h1 h2:Bool->World->Prop}{Z:Code}{s:Ending->World->Prop}{e9:Exit}{d7:Exit->Act->World->Prop}{a4:Func}{z:FuncId}{b4:List Nat}{a2 e8:List Value}{a c i:Nat}{f:Nat->Prop}{c9:Obj}{Q:Oper}{R:Operand}{e7:Operand->Value}{d0:Option Nat}{h:Program}{p:Value->World->Prop}{b l:World}{T:bG}{O:cC}{e6:ft}{c5:gX}
def tH:CallsIn (FW d0) a h z n b s↔Calls h z n b s:=
 ⟨λc=>callsIn_wide.1 (show CallsIn Fence.wide a h z n b s from c),λc=>show CallsIn (FW d0) a h z n b s from(callsIn_wide (n:=a)).2 c⟩
def Sr(a:Nat):(FW d0).room a:=λ_ b=>by simp[Fence.wide]at b
def NN{c:String}(d:Rows h c n b p):RowsIn (FW d0) a h c n b p:=by
 intro e cs _;obtain⟨f,g,i,j⟩:=d e cs;exact⟨f,g,i,(stepsIn_wide (P:=h)).2 j⟩
def vu(a:Oper):Bool:=match a.op with
 | .defer _=>false
 |_=>true
def vu.out(a:vu Q=true):∀b,Q.op≠.defer b:=by
 intro b c;unfold vu at a;rw[c]at a;cases a
section
variable {P:Program} {ro:Option Nat} {n:Nat}
def Mb{next:Act->World->Prop}(d:ro=none\/vu Q=true)(a:Q.wp P H b next d7):Q.wpIn (FW ro) n P H b next d7:=by
 refine⟨λ_ _=>trivial,?_⟩;have f:Q.semAt (FW ro).round H.eval=execOp H.eval Q:=by
  rcases d with rfl|d
  ·rfl
  ·exact Oper.semAt_eq _ _ _ (vu.out d)
 rw[f];unfold Oper.wp at a;generalize(execOp H.eval Q).run P b=g at a⊢
 cases g with
 |ok e h=>
  cases e with
  |value i=>exact a
  |skip=>exact a
  |defer j=>exact a
  |enter k c=>exact⟨λa=>by simp[Fence.wide]at a,tH.2 a⟩
  |row row c=>exact⟨λa=>by simp[Fence.wide]at a,NN a⟩
  |_=>exact a.elim
 |halt e h=>cases e<;>first|exact a|exact a.elim
def qI{b:Array Oper}{g:Exit->Act->World->Prop}(h:∀d c,¬g .outgrown d c)(e:ro=none\/∀i∈b.toList,vu i=true):∀(f:List Nat) (d:Act) (c:World),wpOps P b g f d c->wpOpsIn (FW ro) n P b g f d c
 |[],d,c,a=>a
 |l::f,d,c,a=>by
  unfold wpOps at a;unfold wpOpsIn
  cases j:b[l]? with
  |none=>rw[j]at a;exact qI h e f d c a
  |some i=>
   rw[j]at a;simp only at a⊢;split
   ·rename_i k
    rw[if_pos k]at a;rcases a with a|⟨-,m,o,a⟩
    ·have p:i.wp P d c (wpOpsIn (FW ro) n P b g f) g:=Oper.wp_mono (λd c a=>qI h e f d c a) a
     refine Mb ?_ p;rcases e with e|e
     ·exact .inl e
     ·refine .inr (e i ?_)
      obtain⟨q,rfl⟩:=Q5.1 j;simp
    ·exact absurd a (h m o)
   ·rename_i k
    rw[if_neg k]at a;exact⟨λ_ _=>trivial,qI h e f _ c a⟩
end
section
variable {F:Fence} {n:Nat} {P:Program} {Q:Exit->Act->World->Prop} {a:Act} {w:World} {b:Frame} {k:List Item} {cs:List Frame}
def gq:step P (lone (b.atR a (.code (.scope Z)::k)) cs w)= .next (lone (b.atR a (.code Z:: .inScope Z::k)) cs w):=
 step_lone_go (by simp[stepG,stepG.exec,Frame.atR])
def CM:step P (lone (b.atR a (.inScope Z::k)) cs w)= .next (lone (b.atR a k) cs w):=
 step_lone_go (by simp[stepG,stepG.exec,Frame.atR])
def KQ(o:Z.wpIn F n P (Exit.noGoto Q) a w):(Code.scope Z).wpIn F n P Q a w:=by
 intro b k cs p h i;have e:(lone (b.atR a (.code (.scope Z)::k)) cs w).fenced P F:=fenced_calm h i rfl;obtain⟨q,c,d,f,g⟩:=o b (.inScope Z::k) cs p h i
 cases q with
 |normal=>exact⟨.normal,c,d,f,.head e gq (StepsIn.trans g (.one (fenced_calm h i rfl) CM))⟩
 |exit id=>
  have m:exitTo id (.inScope Z::k)=exitTo id k:=by simp[exitTo]
  exact⟨.exit id,c,d,f,λr j=>.head e gq (g.1 r (by rw[m];exact j)),
   λl j=>let⟨k₁,h1,h2⟩:=g.2 l (by rw[m];exact j);⟨k₁,h1,.head e gq h2⟩⟩
 |goto s=>exact f.elim
 |ret=>exact⟨_,c,d,f,.of_steps (.one e gq) g⟩
 |panic t=>exact⟨_,c,d,f,.of_steps (.one e gq) g⟩
 |outgrown=>exact⟨_,c,d,f,.of_steps (.one e gq) g⟩
def wpIn_loop_ghost(b:Nat->Act->World->Prop)(c:Nat)(g:b c a w)(d:∀e a w,b e a w->Z.wpIn F n P (Exit.then (λh i=>∃l,l<e/\b l h i) Q) a w):(Code.loop Z).wpIn F n P Q a w:=by
 refine wpIn_loop (λa w=>∃e,b e a w) (λa w=>leastOf (λe=>b e a w)) ⟨c,g⟩ ?_;intro a w m;refine wpIn_mono (d _ a w (leastOf_spec m).1) ?_;intro o h i f
 cases o with
 |normal=>
  obtain⟨j,p,k⟩:=f;exact show(∃n,b n h i)/\leastOf (λn=>b n h i)<leastOf (λn=>b n a w)from⟨⟨j,k⟩,Nat.lt_of_le_of_lt ((leastOf_spec ⟨j,k⟩).2 j k) p⟩
 |exit id=>exact f
 |goto q=>exact f
 |ret=>exact f
 |panic r=>exact f
 |outgrown=>exact f
end
def KR(B:h.follows .mixedOrders=true){n id:Nat}(C:∀c,c∈writes (.region id S I)->c<n)(q:Rel n T O H)(a:D h e6 (.region id S I) c5 T O H.defers b):
  (I=false->wpOps h S (cQ n T O (writes (.region id S I)) c5) (List.range S.size) H b)/\
  (I=true->∀c,wpOps h S (cQ n T O (writes (.region id S I)) c5) (Region.schedule (h.follows .mixedOrders) S c) H {b with drawn:=b.drawn+1}):=by
 have o:∀k∈S.toList,∀l,k.dst=some l->l<n/\l∈writes (.region id S I):=λk i l z=>⟨C l (jS i z),jS i z⟩
 have r:∀s c,jb S s=some c->c<n:=by
  intro s c m;unfold jb at m
  cases i:S[s]? with
  |none=>rw[i]at m;simp at m
  |some k=>
   rw[i]at m;have E:k∈S.toList:=by
    have:=Q5.1 i;obtain⟨P,rfl⟩:=this;simp
   exact(o k E c m).1
 cases I with
 |false=>
  refine⟨λ_=>?_,λa=>by cases a⟩;rw[List.range_eq_range',<-XK,wpOps_eq_wpList S.toList 0 sM];exact zh r S.toList O H b o q (λ_ _=>rfl) a
 |true=>
  refine⟨λa=>(by cases a),λ_ c=>?_⟩;simp only[Region.schedule,B,Bool.true_or,if_true];refine wpAny_sound S.size c _ H _ ?_;unfold D at a;simp only at a;split at a
  ·obtain⟨t,a⟩:=eS.out a
   simp only[Region.lexB,QK]at t;have F:=qu (B0:=T) (e0:=O) (W:=writes (.region id S true)) r S.toList O H o q (λ_ _=>rfl) a;have J:wpQuiet h S (bd b) (λp=>∀d,bd b d->cQ n T O (writes (.region id S true)) c5 .normal p d) S.toList H:=by
    refine jL ?_ _ _ F;rintro p ⟨K,u,v,L,M⟩ d g;exact⟨T,K,u,L,by rw[v];exact M d g⟩
   refine wpAny_of_quiet (C:=bd b) (Q:=λp=>∀d,bd b d->cQ n T O (writes (.region id S true)) c5 .normal p d) (λ_ d g a=>a d g) _ _ _ _ ⟨1,rfl⟩ ?_;have:=wpAnyQ_lex (C:=bd b) (md:=.any) t.1 S.toList 0 (Array.replicate S.size false) H sM (by simpa using t.2) J;simpa using this
  ·obtain⟨N,a⟩:=eS.out a
   have e:∀(f:Bool) (j:Nat->Prop) (w:Nat->Bool),uT h T S f j (λx y b=>∀T O,c5 (.panic x) T O y b) (λO y b=>c5 .normal T O y b) w S.size (Array.replicate S.size false) O H.defers (b.drewN 1)->
     wpAny h .any S (cQ n T O (writes (.region id S true)) c5) S.size (Array.replicate S.size false) H {b with drawn:=b.drawn+1}:=λf j w a=>
    nU (λx H b a=>Bi.post x H b a) (λ_ _ a=>a) _ _ _ _ _ (lr (B0:=T) (e0:=O) (W:=writes (.region id S true)) r N o w _ _ O H _ q (λ_ _=>rfl) a)
   split at a
   ·split at a
    ·obtain⟨j,a⟩:=a _ ⟨1,rfl⟩
     exact e _ j _ a
    ·exact e _ _ _ (a _ ⟨1,rfl⟩)
   ·obtain⟨A,a⟩:=eS.out a
    split at a
    ·obtain⟨j,a⟩:=a _ ⟨1,rfl⟩
     rw[qy A _ _ (FK.init _)]at a;exact e _ j _ a
    ·have a:=a _ ⟨1,rfl⟩
     rw[qy A _ _ (FK.init _)]at a;exact e _ _ _ a
def jt(b:Program)(c:Nat)(d:List Value)(e:World)(f:Bool->World->Prop):Prop:=
 YieldAt (FW none) 0 b c d.toArray e λg h=>∃a,g= .returned (.bool a)/\f a h
def jt.mono(i:jt h a a2 b h1)(j:∀d g,h1 d g->h2 d g):jt h a a2 b h2:=by
 obtain⟨k,e,c,f,l,m⟩:=i;exact⟨k,e,c,f,l,m.mono λo g ⟨d,n,i⟩=>⟨d,n,j d g i⟩⟩
def Um(c:Program)(d:Value)(a:Array Value)(e:World)(f:Value->World->Prop):Prop:=
 ∃b,d= .func (.yield b) #[] #[]/\jt c b a.toList e λg h=>f (.bool g) h
def zj(a:Oper):Option (Operand×Array Operand):=match a.op with
 | .call {callee:=.value (.func _),..}=>none
 | .call {callee:=.value f,args,..}=>some (f,args)
 |_=>none
def Qs(f:Program)(c:bG)(d:Array Oper)(j:gX)(e:Oper)(g:cC->List Deferred->World->Prop)(b:cC)(h:List Deferred)(i:World):Prop:=match zj e with
 |some (k,a)=>Um f (ev c b k) (a.map (ev c b)) i λl m=>g (bT b e.dst l) h m
 |none=>Sd f d c e j g b h i
def qJ(d:Program)(c:bG)(a:Array Oper)(e:gX):List Oper->(cC->List Deferred->World->Prop)->cC->List Deferred->World->Prop
 |[],g,f,h,i=>g f h i
 |k::b,g,f,h,i=>match k.guard with
  |none=>Qs d c a e k (qJ d c a e b g) f h i
  |some (m,j)=>match jb a m with
   |none=>False
   |some l=>match get c f l with
    | .bool n=>al n
     (match j with
      |true=>Qs d c a e k (qJ d c a e b g) ((l,.bool true)::f) h i
      |false=>qJ d c a e b g (bT ((l,.bool true)::f) k.dst undef) h i)
     (match j with
      |true=>qJ d c a e b g (bT ((l,.bool false)::f) k.dst undef) h i
      |false=>Qs d c a e k (qJ d c a e b g) ((l,.bool false)::f) h i)
    | .tuple _=>qJ d c a e b g (bT f k.dst undef) h i
    |_=>False
def KS{d e:Code}(f:RoundIn (FW none) c h i z n d e b s):RoundIn (FW d0) a h i z n d e b s:=
 ⟨trivial,λg cs _=>f.2 g cs (Sr _)⟩
def Gc{a:Array Operand}{l:Nat}(c:zj Q=some (R,a))(e:e7 R= .func (.yield l) #[] #[]):
  (execOp e7 Q).run h b=(Instr.yield l (a.map e7)).run h b:=by
 unfold zj at c;split at c
 ·cases c
 ·rename_i g d i f
  simp only[Q1,Prod.mk.injEq]at c;obtain⟨rfl,rfl⟩:=c;simp only[execOp,f,resolve,e];simp[Deferred.ofValue,invoke,Sem.run_bind,Sem.run_pure,Result.andThen]
 ·cases c
def vv{x:Program}{C:Option Nat}{M p:Nat}{g u:bG}{v:cC}{m:List Nat}{b:Array Oper}{n:gX}(N:∀o c,jb b o=some c->c<p)(S:∀a1 g a z h,n a1 g a z h->a1≠.outgrown)(w:C=none\/∀f∈b.toList,vu f=true):
  ∀(O:List Oper) (q:Nat) (a:cC) (k:Act) (h:World),(∀o,O[o]? =b[q+o]?)->(∀f∈O,∀i,f.dst=some i->i<p/\i∈m)->Rel p g a k->(∀c,c∉m->get g a c=get u v c)->
   qJ x g b n O (λa z h=>n .normal g a z h) a k.defers h->wpOpsIn (FW C) M x b (cQ p u v m n) (List.range' q O.length) k h
 |[],q,a,k,h,_,_,l,j,e=>⟨g,a,l,j,e⟩
 |f::d,q,a,k,h,a2,T,l,j,e=>by
  have h0:b[q]? =some f:=by simpa using(a2 0).symm
  have a4:f∈b.toList:=by
   obtain⟨a7,rfl⟩:=Q5.1 h0;simp
  have U:∀o,d[o]? =b[q+1+o]? :=λo=>by have:=a2 (o+1);simpa[Nat.add_assoc,Nat.add_comm 1 o]using this
  have V:∀i,f.dst=some i->i<p:=λi w=>(T f (QV ..) i w).1;have W:∀(a:cC),(∀c,c∉m->get g a c=get u v c)->∀E c,c∉m->get g (bT a f.dst E) c=get u v c:=by
   intro a j E c X
   cases w:f.dst with
   |none=>exact j c X
   |some i=>
    have a5:=(T f (QV ..) i w).2;show get g ((i,E)::a) c=_;rw[dH,if_neg (by rintro rfl;exact X a5)];exact j c X
  have A:∀f∈d,∀i,f.dst=some i->i<p/\i∈m:=λf ho=>T f (QJ _ ho);have B:∀(a:cC),Rel p g a k->(∀c,c∉m->get g a c=get u v c)->Qs x g b n f (qJ x g b n d λa z h=>n .normal g a z h) a k.defers h->
    f.wpIn (FW C) M x k h (wpOpsIn (FW C) M x b (cQ p u v m n) (List.range' (q+1) d.length)) (cQ p u v m n):=λa l j e=>by
   unfold Qs at e;split at e
   ·rename_i a8 F r
    obtain⟨Y,hf,fn,H,y,I,h1,h2⟩:=e;refine⟨λ_ _=>trivial,?_⟩;have Z:∀a3,f.op≠.defer a3:=by
     intro a3 Z;unfold zj at r;rw[Z]at r;cases r
    rw[Oper.semAt_eq _ _ _ Z,l.eval,Gc (l:=Y) r hf];have a6:(Instr.yield Y (F.map (ev g a))).run x h= .ok (.round Y fn H y I) h:=by
     have:=h1
     rwa [Array.toArray_toList]at this
    rw[a6,Oper.uponIn_round];refine⟨λe=>by simp[Fence.wide]at e,(KS h2).mono ?_⟩;rintro _ w' ⟨J,rfl,hK⟩;exact vv N S w d (q+1) _ _ _ U A (l.put _ V _) (W a j _) (by rw[put_defers];exact hK)
   ·refine Mb (w.imp id λw=>w f a4) ?_
    exact Kv l V e (λE a' w' a0 hK=>vv N S w d (q+1) _ _ _ U A a0 (W a j E) hK) (λch w' hq=>⟨g,a,l,j,hq⟩)
  have s:∀(a:cC),Rel p g a k->(∀c,c∉m->get g a c=get u v c)->qJ x g b n d (λa z h=>n .normal g a z h) (bT a f.dst undef) k.defers h->
    wpOpsIn (FW C) M x b (cQ p u v m n) (List.range' (q+1) d.length) (k.put f.dst undef) h:=λa l j e=>
   vv N S w d (q+1) _ _ _ U A (l.put _ V _) (W a j _) (by rw[put_defers];exact e)
  simp only[Xq,List.range'_succ];unfold wpOpsIn;rw[h0];simp only;unfold qJ at e;split at e
  ·rename_i P
   rw[if_pos (by simp[Region.wanted,P])];exact B a l j e
  ·rename_i o t P
   split at e
   ·exact e.elim
   ·rename_i c hj
    have r:=nT l hj (N o c hj);split at e
    ·rename_i J K
     rw[K]at r;simp only at r;have hw:Region.wanted f (yielded b k.tmps)=(J==t):=by
      simp only[Region.wanted,P,r]
      cases J<;>cases t<;>rfl
     rw[hw];have Q:=l.again K;have R:∀L,L∉m->get g ((c,.bool J)::a) L=get u v L:=λL hu=>by rw[qU K];exact j L hu
     cases J<;>cases t<;>simp only[al]at e
     ·exact B _ Q R e
     ·exact⟨λ_ _=>trivial,s _ Q R e⟩
     ·exact⟨λ_ _=>trivial,s _ Q R e⟩
     ·exact B _ Q R e
    ·rename_i vs K
     rw[K]at r;simp only at r;have hw:Region.wanted f (yielded b k.tmps)=false:=by
      simp[Region.wanted,P,r]
     rw[hw];exact⟨λ_ _=>trivial,s _ l j e⟩
    ·exact e.elim
def pO(c:Nat)(a b:World):Prop:=ak (λd=>d=c) a b/\b.heap.size=a.heap.size
def p_(a:Nat)(b:World):Prop:=b.heap[a]? =some (.deferred (some []))
def Mc(a:Nat):Deferred:={target:=.collected a,args:= #[]}
def KT:List Value->(List Value->Prop)->Prop
 |[],a=>a []
 |z::d,a=>match z with
  | .agg cs=>lV cs.toList λb=>KT d λc=>a (.agg b.toArray::c)
  |z=>lV [z] λb=>KT d λc=>a (b++c)
def nx(a:World):Nat->Prop:=λb=>b≠a.heap.size/\b≠a.heap.size+1
def sR(b c:List Value):Prop:=∀a:List Value->Prop,KT b a->a c
def NO:List (Exit×(World->Prop))->(Exit->(World->Prop)->Prop)->Prop
 |[],_=>True
 |(b,c)::d,a=>a b c/\NO d a
def Vq(a:Exit->World->Prop):List Exit->List (Exit×(World->Prop))
 |[]=>[]
 |x::b=>(x,λc=>a x c)::Vq a b
def VJ(a:Exit):List (Exit×(World->Prop))->Prop
 |[]=>False
 |(b,_)::c=>a=b\/VJ a c
def NO.out{c:Exit->World->Prop}{φ:Exit->(World->Prop)->Prop}:∀{l:List Exit},NO (Vq c l) φ->∀a,VJ a (Vq c l)->a∈l/\φ a (λd=>c a d)
 |[],_,a,b=>b.elim
 |y::j,e,a,b=>by
  obtain⟨f,g⟩:=e;rcases b with rfl|b
  ·exact⟨QV ..,f⟩
  ·obtain⟨h,i⟩:=NO.out g a b
   exact⟨QJ _ h,i⟩
def E_(o:Program)(w:Value)(y:List Value)(c:World)(z:(List Value->Prop)->(List Value->Exit->World->Prop)->World->Prop)(A:World->Prop)(q:List (Exit×(World->Prop))):Prop:=
 ∃p m,w= .func (.func p) #[] m/\enters o p=true/\
 ∃(r:Type) (s:r) (h:r->List (List Value)->World->Prop) (l:Exit->List (List Value)->World->Prop) (t:List (List Value)->List Value->Prop) (u:List (List Value)->Prop),
  (∀j,ak (λ_=>False) c j->j.heap.size=c.heap.size+2->h s [] j)/\
  (∀d a b f,h d a b->pO (c.heap.size+1) b f->h d a f)/\
  (∀x a b f,l x a b->pO (c.heap.size+1) b f->l x a f)/\
  (∀d a b,h d a b->c.heap.size+2<=b.heap.size->z (t a) (λi x e=>match x with
   | .normal=>h d (a++[i]) e
   |x=>VJ x q/\l x (a++[i]) e) b)/\
  (∀(k:World->Prop) (n:Exit->World->Prop),(∀b f,k b->ak (nx c) b f->k f)->(∀x b f,n x b->ak (nx c) b f->n x f)->
   (∀b,k b->c.heap.size+2<=b.heap.size)->
   (∀d a i b,h d a b->k b->sR y i->t a i->jt o (c.heap.size+1) i b λv e=>(v=true/\h d (a++[i]) e/\k e)\/(v=false/\∃x,l x (a++[i]) e/\n x e))->
   ∀j,h s [] j->k j->Calls o p (#[.func (.yield (c.heap.size+1)) #[] #[]]++m) j λB e=>(∃C,B= .returned C)/\((k e/\∃d g,h d g e/\u g)\/∃x a,l x a e/\n x e))/\
  (∀d g b,h d g b->u g->p_ c.heap.size b->A b)/\
  NO q λx E=>∀a b,l x a b->p_ c.heap.size b->E b
def Md:List Nat->List Value->cC->cC
 |b::c,d::e,a=>Md c e ((b,d)::a)
 |_,_,a=>a
def NP:List (Nat×Value)->List Nat
 |[]=>[]
 |(a,_)::b=>a::NP b
def ie:Code->Bool
 | .region _ b _=>b.toList.all vu
 | .seq c d=>ie c&&ie d
 | .cond _ c d=>ie c&&ie d
 | .block _ a=>ie a
 | .loop a=>ie a
 | .scope a=>ie a
 | .rangeFunc .. =>false
 |_=>true
def fS:Code->List Exit
 | .exit id=>[.exit id]
 | .ret=>[.ret]
 | .seq b c=>fS b++fS c
 | .cond _ b c=>fS b++fS c
 | .block _ a=>fS a
 | .loop a=>fS a
 | .scope a=>fS a
 |_=>[]
def Qt:Exit->Code
 | .ret=>.ret
 | .exit id=>.exit id
 | .goto a=>.goto a
 |_=>.skip
def Un(a:Exit->World->Prop):gX:=λc _ _ _ b=>match c with
 | .normal=>a .normal b
 | .ret=>a .ret b
 | .exit id=>a (.exit id) b
 |_=>False
def DR(h:Program)(g:ft)(i:List Nat):Bool->Code->gX->bG->cC->List Deferred->World->Prop
 |_,.skip,e,d,a,c,b=>e .normal d a c b
 |_,.label _,e,d,a,c,b=>e .normal d a c b
 |_,.exit id,e,d,a,c,b=>e (.exit id) d a c b
 |_,.ret,e,d,a,c,b=>e .ret d a c b
 |_,.region id r q,e,d,a,c,b=>match CF i id with
  |true=>(match q with
   |false=>qJ h d r e r.toList (λa c b=>e .normal d a c b) a c b
   |true=>False)
  |false=>D h g (.region id r q) e d a c b
 |top,.seq j m,e,d,a,c,b=>match Nt g.PF (key m)with
  |none=>DR h g i top j (Bl (λd a c b=>DR h g i top m e d a c b) e) d a c b
  |some f=>∃y:Fn (h_ f) (World->Prop),DR h g i top j (Bl (λn t l k=>Bk l c (ap (h_ f) y (yN n t f) k)) e) d a c b/\
    eu (writes j) a λv=>lV (h_ f) λo=>∀(n:bG) (k:World),ap (h_ f) y o k->DR h g i top m e n (xG f o v) c k
 |top,.cond p j m,e,d,a,c,b=>match ev d a p with
  | .bool B=>al B (DR h g i top j e d a c b) (DR h g i top m e d a c b)
  |_=>False
 |top,.block id p,e,d,a,c,b=>DR h g i top p (wT id e) d a c b
 |top,.scope p,e,d,a,c,b=>DR h g i top p (FL e) d a c b
 |top,.loop p,e,d,a,c,b=>match Nt g.loops (key p)with
  |none=>False
  |some f=>∃w:Nat->Fn (h_ f) (World->Prop),(∃u,ap (h_ f) (w u) (yN d a f) b)/\
    ∀u,eu (writes p) a λv=>lV (h_ f) λo=>∀(n:bG) (k:World),ap (h_ f) (w u) o k->
     DR h g i top p (Bl (λn t l k=>Bk l c (∃z,z<u/\ap (h_ f) (w z) (yN n t f) k)) e) n (xG f o v) c k
 |top,.rangeFunc C E j m,e,d,a,c,b=>match top with
  |false=>False
  |true=>match Nt g.loops (key m)with
   |none=>False
   |some f=>eS (Ns (NP f) E.toList&&(ie j&&ie m)) (E_ h (ev d a C) (h_ f) b
     (λF H s=>KT (h_ f) λo=>F o->DR h g i false j (Bl (λn t l k=>ak (nx b) s k/\∀x,pO (b.heap.size+1) k x->DR h g i false m (Un λj A=>ak (nx b) x A/\H o j A) n t l x) (λ_ _ _ _ _=>False)) d (Md (NP f) o a) [] s)
     (λs=>e .normal d a (Mc b.heap.size::c) s) (Vq (λj s=>e j d a (Mc b.heap.size::c) s) (fS m)))
 |_,_,_,_,_,_,_=>False
def kv:Code->List Nat
 | .region _ d _=>DG d.toList
 | .seq a b=>kv a++kv b
 | .cond _ a b=>kv a++kv b
 | .block _ c=>kv c
 | .loop c=>kv c
 | .scope c=>kv c
 | .rangeFunc _ e a b=>e.toList++(kv a++kv b)
 |_=>[]
def Qu:∀(b:List Value) (d:List Value->Prop),(∀a,a.length=b.length->d a)->KT b d:=by
 have f:∀(b:List Value) (d:List Value->Prop),(∀a,a.length=b.length->d a)->lV b d:=by
  intro b
  induction b with
  |nil=>intro d c;exact c [] rfl
  |cons i b g=>
   intro d c
   cases i
   case pointer j=>cases j<;>simp only[lV]<;>intros<;>exact g _ λa e=>c _ (by simp[e])
   all_goals(simp only[lV];intros;exact g _ λa e=>c _ (by simp[e]))
 intro b
 induction b with
 |nil=>intro d c;exact c [] rfl
 |cons i b g=>
  intro d c
  cases i
  case pointer j=>cases j<;>(simp only[KT];exact f [_] _ λa e=>g _ λl h=>c _ (by have k:a.length=1:=e;simp[k,h,Nat.add_comm]))
  case agg cs=>exact f cs.toList _ λa e=>g _ λl h=>c _ (by simp[h])
  all_goals(simp only[KT];exact f [_] _ λa e=>g _ λl h=>c _ (by have k:a.length=1:=e;simp[k,h,Nat.add_comm]))
def sR.len(a:sR a2 e8):e8.length=a2.length:=a _ (Qu a2 _ λ_ a=>a)
def Iv:∀a:List (Nat×Value),(NP a).length=(h_ a).length
 |[]=>rfl
 |(_,_)::b=>by simp[NP,h_,Iv b]
def D_{g:Nat}{k:bG}:∀(d:List Nat) (b:List Value) (e:cC) (a:Array Value),(∀c∈d,c<g)->b.length=d.length->Rel g k e {tmps:=a,defers:=[]}->
  Rel g k (Md d b e) {tmps:=(d.zip b).foldl (λc (l:Nat×Value)=>c.setIfInBounds l.1 l.2) a,defers:=[]}
 |[],b,e,a,_,f,h=>by
  cases b with
  |nil=>exact h
  |cons i b=>simp at f
 |c::d,b,e,a,m,f,h=>by
  cases b with
  |nil=>simp at f
  |cons i b=>
   exact D_ d b ((c,i)::e) _ (λn j=>m n (QJ _ j)) (by simpa using f) (h.put (some c) (λn j=>by cases j;exact m c (QV ..)) i)
def Iw:∀(b:Code) (c:Exit),c∈fS b->c= .ret\/∃id,c= .exit id:=by
 intro b
 induction b with
 |exit id=>intro c a;simp only[fS,List.mem_singleton]at a;exact .inr ⟨id,a⟩
 |ret=>intro c a;simp only[fS,List.mem_singleton]at a;exact .inl a
 |seq c h d e=>intro f a;exact(Q6.1 a).elim (d f) (e f)
 |cond b c h d e=>intro f a;exact(Q6.1 a).elim (d f) (e f)
 |block id b g=>exact g
 |loop b g=>exact g
 |scope b g=>exact g
 |_=>intro f a;cases a
def ji{w:World}{l:Nat}{o:Obj}:pO l w (w.putObj l o):=
 ⟨⟨rfl,rfl,rfl,sM,λb _ a=>World.putObj_heap_other a⟩,sM⟩
def ak.obj(d:ak f b l)(c:b.heap[a]? =some c9)(e:¬f a):l.heap[a]? =some c9:=
 (d.block a (Q5.1 c).1 e).trans c
def cQ.of(c:Rel a T O H)(d:c5 e9 T O H.defers b):cQ a T O b4 c5 e9 H b:=⟨T,O,c,λ_ _=>rfl,d⟩
def Vr(hm:h.follows .mixedOrders=true){n m:Nat}:∀(J:Code) (s:Option Nat) (e:Bool) (u:gX) (f:bG) (g:cC) (o:Act) (c:World),
  (s=none\/(e=false/\ie J=true))->(∀b,b∈kv J->b<n)->(∀v f g Y c,u v f g Y c->v≠.outgrown)->Rel n f g o->DR h e6 b4 e J u f g o.defers c->J.wpIn (FW s) m h (cQ n f g (writes J) u) o c:=by
 intro J
 induction J generalizing m with
 |skip=>intro s e u f g o c _ _ _ l a;exact wpIn_skip (cQ.of l a)
 |label a0=>intro s e u f g o c _ _ _ l a;exact wpIn_label (cQ.of l a)
 |exit id=>intro s e u f g o c _ _ _ l a;exact wpIn_exit (cQ.of l a)
 |ret=>intro s e u f g o c _ _ _ l a;exact wpIn_ret (cQ.of l a)
 |goto a0=>intro s e u f g o c _ _ _ l a;exact a.elim
 |refuse uZ=>intro s e u f g o c _ _ _ l a;exact a.elim
 |scope J ih=>
  intro s e u f g o c E z K l a;refine KQ (wpIn_mono (ih s e (FL u) f g o c E z (by intro r f g Y c d Q;subst Q;exact K _ _ _ _ _ d rfl) l a) ?_);intro r w y p;obtain⟨A,x,C,H,d⟩:=p
  cases r with
  |goto a0=>exact d.elim
  |normal=>exact⟨A,x,C,H,d⟩
  |exit id=>exact⟨A,x,C,H,d⟩
  |ret=>exact⟨A,x,C,H,d⟩
  |panic ch=>exact⟨A,x,C,H,d⟩
  |outgrown=>exact⟨A,x,C,H,d⟩
 |region id B Z=>
  intro s e u f g o c E z K l a;have hd:s=none\/∀V∈B.toList,vu V=true:=E.imp (λa=>a) λa=>by
   have:=a.2;unfold ie at this;exact List.all_eq_true.1 this
  have d1:∀w y,¬cQ n f g (writes (.region id B Z)) u .outgrown w y:=λo c ⟨f,g,_,_,d⟩=>K _ _ _ _ _ d rfl;unfold DR at a;split at a
  ·split at a
   ·have W:∀V∈B.toList,∀a5,V.dst=some a5->a5<n/\a5∈writes (.region id B false):=λV ho a5 hd=>⟨z a5 (jS ho hd),jS ho hd⟩
    have e9:∀c4 b,jb B c4=some b->b<n:=by
     intro c4 b O;unfold jb at O
     cases ho:B[c4]? with
     |none=>rw[ho]at O;simp at O
     |some V=>
      rw[ho]at O;have f0:V∈B.toList:=by
       obtain⟨d2,rfl⟩:=Q5.1 ho;simp
      exact(W V f0 b O).1
    refine wpIn_region ?_;rw[List.range_eq_range',<-XK];exact vv e9 K hd B.toList 0 g o c sM W l (λ_ _=>rfl) a
   ·exact a.elim
  ·obtain⟨h1,h2⟩:=KR hm (n:=n) z l a
   cases Z with
   |false=>exact wpIn_region (qI d1 hd _ _ _ (h1 rfl))
   |true=>exact wpIn_region_draw λb=>qI d1 hd _ _ _ (h2 rfl b)
 |seq v R L M=>
  intro s e u f g o c E z K l a;have b0:s=none\/(e=false/\ie v=true):=E.imp (λa=>a) λa=>⟨a.1,by have:=a.2;simp only[ie,QK]at this;exact this.1⟩
  have b5:s=none\/(e=false/\ie R=true):=E.imp (λa=>a) λa=>⟨a.1,by have:=a.2;simp only[ie,QK]at this;exact this.2⟩
  have b6:∀b,b∈kv v->b<n:=λb k=>z b (Q6.2 (.inl k));have b7:∀b,b∈kv R->b<n:=λb k=>z b (Q6.2 (.inr k));have i:∀(a3:bG->cC->List Deferred->World->Prop) (r:Exit) (w:Act) (y:World),r≠.normal->cQ n f g (writes v) (Bl a3 u) r w y->cQ n f g (writes (v.seq R)) u r w y:=by
   intro a3 r w y f4 p;refine p.mono (λb k=>Q6.2 (.inl k)) (λ_ _=>rfl) λA x i8 w1 d=>?_
   cases r with
   |normal=>exact absurd rfl f4
   |outgrown=>exact d.elim
   |_=>exact d
  have d3:∀(a3:bG->cC->List Deferred->World->Prop) r f g Y c,Bl a3 u r f g Y c->r≠.outgrown:=by
   intro a3 r f g Y c d Q;subst Q;exact d.elim
  unfold DR at a;split at a
  ·have hx:=L (m:=m) s e _ f g o c b0 b6 (d3 _) l a
   refine wpIn_seq (wpIn_mono hx ?_);intro r w y p
   cases r with
   |normal=>
    obtain⟨A,x,C,H,d⟩:=p;have hy:=M (m:=m) s e u A x w y b5 b7 K C d;refine wpIn_mono hy (λr d4 d5 p=>?_);refine p.mono (λb k=>Q6.2 (.inr k)) (λb k=>H b λhm=>k (Q6.2 (.inl hm))) λ_ _ _ _ d=>d
   |exit id=>exact i _ _ _ _ sM p
   |goto a0=>exact i _ _ _ _ sM p
   |ret=>exact i _ _ _ _ sM p
   |panic ch=>exact i _ _ _ _ sM p
   |outgrown=>exact i _ _ _ _ sM p
  ·rename_i I hS
   obtain⟨f5,a,c5⟩:=a;obtain⟨x,h1,h2,c5⟩:=eu.out c5;have hx:=L (m:=m) s e _ f g o c b0 b6 (d3 _) l a;refine wpIn_seq (wpIn_mono hx ?_);intro r w y p
   cases r with
   |normal=>
    obtain⟨B2,e2,P,b8,d⟩:=p;obtain⟨b9,hJ⟩:=Bk.out d;have hv:=mW P I;have a7:=je B2 e2 I;have d6:=ap.all a7 hJ c5 (λb=>w.tmps.getD b undef) y hJ;rw[hv,<-b9]at d6;have d7:=uY (n:=n) I P.size h1 h2 (B0:=f) (λb k=>(P.slot b).trans (b8 b k));have hy:=M (m:=m) s e u _ _ w y b5 b7 K d7 d6;refine wpIn_mono hy (λr d4 d5 p=>?_);refine p.mono (λb k=>Q6.2 (.inr k)) (λb k=>?_) λ_ _ _ _ d=>d;rw[<-d7.slot];exact(P.slot b).trans (b8 b λhm=>k (Q6.2 (.inl hm)))
   |exit id=>exact i _ _ _ _ sM p
   |goto a0=>exact i _ _ _ _ sM p
   |ret=>exact i _ _ _ _ sM p
   |panic ch=>exact i _ _ _ _ sM p
   |outgrown=>exact i _ _ _ _ sM p
 |cond J v R L M=>
  intro s e u f g o c E z K l a;have b0:s=none\/(e=false/\ie v=true):=E.imp (λa=>a) λa=>⟨a.1,by have:=a.2;simp only[ie,QK]at this;exact this.1⟩
  have b5:s=none\/(e=false/\ie R=true):=E.imp (λa=>a) λa=>⟨a.1,by have:=a.2;simp only[ie,QK]at this;exact this.2⟩
  unfold DR at a;split at a
  ·rename_i f6 S
   refine wpIn_cond_split (t:=f6) (by rw[l.eval];exact S) (λk=>?_) (λhf=>?_)
   ·subst k
    refine wpIn_mono (L s e u f g o c b0 (λb k=>z b (Q6.2 (.inl k))) K l a) (λr w y p=>?_);exact p.mono (λb k=>Q6.2 (.inl k)) (λ_ _=>rfl) λ_ _ _ _ d=>d
   ·subst hf
    refine wpIn_mono (M s e u f g o c b5 (λb k=>z b (Q6.2 (.inr k))) K l a) (λr w y p=>?_);exact p.mono (λb k=>Q6.2 (.inr k)) (λ_ _=>rfl) λ_ _ _ _ d=>d
  ·exact a.elim
 |block id J ih=>
  intro s e u f g o c E z K l a;refine wpIn_block (wpIn_mono (ih s e (wT id u) f g o c E z (by intro r f g Y c d Q;subst Q;exact d.elim) l a) ?_);intro r w y p;obtain⟨A,x,C,H,d⟩:=p
  cases r with
  |exit a8=>
   show(if a8=id then _ else _);simp only[wT]at d
   cases S:Nat.beq a8 id with
   |true=>
    rw[S]at d;rw[if_pos (X9 S)];exact⟨A,x,C,H,d⟩
   |false=>
    rw[S]at d;rw[if_neg (by rintro rfl;simp at S)];exact⟨A,x,C,H,d⟩
  |normal=>exact⟨A,x,C,H,d⟩
  |goto a0=>exact⟨A,x,C,H,d⟩
  |ret=>exact⟨A,x,C,H,d⟩
  |panic ch=>exact⟨A,x,C,H,d⟩
  |outgrown=>exact d.elim
 |loop J ih=>
  intro s e u f g o c E z K l a;unfold DR at a;split at a
  ·exact a.elim
  ·rename_i I hS
   obtain⟨f7,⟨m0,h0⟩,f8⟩:=a;refine wpIn_loop_ghost (λm w y=>w.tmps.size=n/\(∀b,b∉writes J->w.tmps.getD b undef=get f g b)/\w.defers=o.defers/\
    ap (h_ I) (f7 m) (I.map λa4=>w.tmps.getD a4.1 undef) y) m0 ⟨l.size,λb _=>l.slot b,rfl,by rw[<-mW l I];exact h0⟩ ?_
   rintro mm w y ⟨f9,d8,b9,hI⟩;obtain⟨x,h1,h2,g0⟩:=eu.out (f8 mm);have a7:(I.map λa4=>w.tmps.getD a4.1 undef).length=(h_ I).length:=by rw[<-je f g I,zi];simp
   have S:=ap.all a7 hI g0 (λb=>w.tmps.getD b undef) y hI;have c0:=uY (n:=n) I f9 h1 h2 d8;rw[<-b9]at S;have c6:=ih (m:=m) s e _ _ _ w y E z (by intro r f g Y c d Q;subst Q;exact d.elim) c0 S;refine wpIn_mono c6 ?_;intro r d4 d5 p;obtain⟨B2,e2,P,b8,d⟩:=p;have a9:∀b,b∉writes J->get B2 e2 b=get f g b:=λb k=>(b8 b k).trans ((c0.slot b).symm.trans (d8 b k))
   cases r with
   |normal=>
    obtain⟨g1,m',d2,g2⟩:=Bk.out d;refine⟨m',d2,P.size,λb k=>(P.slot b).trans (a9 b k),g1.trans b9,?_⟩;rw[<-mW P I];exact g2
   |outgrown=>exact d.elim
   |exit id=>exact⟨B2,e2,P,a9,d⟩
   |goto a0=>exact⟨B2,e2,P,a9,d⟩
   |ret=>exact⟨B2,e2,P,a9,d⟩
   |panic ch=>exact⟨B2,e2,P,a9,d⟩
 |rangeFunc g3 ps v R L M=>
  intro s e u f g o c E z K l a;unfold DR at a;split at a
  ·exact a.elim
  obtain rfl:s=none:=E.resolve_right λa=>by cases a.1
  split at a
  ·exact a.elim
  rename_i I hS;obtain⟨d9,a⟩:=eS.out a;simp only[QK]at d9;obtain⟨c1,g4,g5⟩:=d9;have c1:=Ns.out c1;obtain⟨c7,a1,g6,g7,σ,s0,f5,Jx,a3,i9,g8,e0,c2,c6,g9,h3,h4⟩:=a;have b6:∀b,b∈kv v->b<n:=λb k=>z b (Q6.2 (.inr (Q6.2 (.inl k))));have b7:∀b,b∈kv R->b<n:=λb k=>z b (Q6.2 (.inr (Q6.2 (.inr k))));have h5:∀b,b∈ps.toList->b<n:=λb k=>z b (Q6.2 (.inl k));refine wpIn_rangeFunc ?_;intro fn _;obtain⟨q,t⟩:∃q:LoopState->Option Code->Loop,q=λst pe=>{state:=st,pending:=pe,fn,tmps:=o.tmps,params:=ps,assign:=v,body:=R,defers:=c.heap.size}:=⟨_,rfl⟩
  obtain⟨T,b2⟩:∃T,(c.alloc (.deferred (some []))).alloc (.loop (q .ready none))=T:=⟨_,rfl⟩
  have h6:T.heap[c.heap.size+1]? =some (.loop (q .ready none)):=by
   rw[<-b2];have:=World.alloc_heap_new (c.alloc (.deferred (some []))) (.loop (q .ready none));rwa [World.size_alloc]at this
  have h7:T.heap[c.heap.size]? =some (.deferred (some [])):=by
   rw[<-b2];exact(Go.RowKit.Below.heap_alloc _ _ _ sM).trans (World.alloc_heap_new c _)
  have h8:T.heap.size=c.heap.size+2:=by rw[<-b2];simp
  have h9:ak (λ_=>False) c T:=by
   rw[<-b2];exact⟨rfl,rfl,rfl,by simp;omega,λi0 F _=>(Go.RowKit.Below.heap_alloc _ _ _ (by simp;omega)).trans (Go.RowKit.Below.heap_alloc c _ i0 F)⟩
  let i1:World->Prop:=λe6=>e6.heap[c.heap.size+1]? =some (.loop (q .ready none))/\e6.heap[c.heap.size]? =some (.deferred (some []))
  let Rx:Exit->World->Prop:=λv e6=>VJ v (Vq (λv A0=>u v f g (Mc c.heap.size::o.defers) A0) (fS R))/\e6.heap[c.heap.size+1]? =some (.loop (q .done (some (Qt v))))/\e6.heap[c.heap.size]? =some (.deferred (some []))
  have c3:∀{e6 f:World} {V o':Obj},ak (nx c) e6 f->e6.heap[c.heap.size+1]? =some V->e6.heap[c.heap.size]? =some o'->f.heap[c.heap.size+1]? =some V/\f.heap[c.heap.size]? =some o':=λF h1 h2=>
   ⟨F.obj h1 λa=>a.2 rfl,F.obj h2 λa=>a.1 rfl⟩
  refine⟨c.heap.size+1,[Mc c.heap.size],T,{target:=.fn (.func c7) a1,args:= #[.func (.yield (c.heap.size+1)) #[] #[]]},T,c7,#[.func (.yield (c.heap.size+1)) #[] #[]]++a1,T,?_,?_,λ_ _=>trivial,?_,λa=>by simp[Fence.wide]at a,?_⟩
  ·rw[<-b2,t];exact run_enterLoop_outer _ _ _ _ _
  ·have hg:o.eval g3= .func (.func c7) #[] a1:=by rw[l.eval];exact g6
   simp only[resolve,hg];simp[go_sem]
  ·simp only[invoke];exact gY g7 _ _
  refine tH.2 (Calls.mono (g9 i1 Rx (λe6 f a F=>c3 F a.1 a.2) (λv e6 f a F=>⟨a.1,c3 F a.2.1 a.2.2⟩) (λe6 a=>by have:=(Q5.1 a.1).1;omega) ?_ T (g8 T h9 h8) ⟨h6,h7⟩) ?_)
  ·
   rintro c8 N vs A1 O ⟨W,F⟩ e1 hN;have a7:=e1.len;have e3:vs.length=ps.toList.length:=by rw[a7,<-c1,Iv]
   have hy:=run_yield (P:=h) (args:=vs.toArray) W (by rw[t];simpa using e3);rw[t]at hy;refine⟨fn,_,v,R,hy,roundIn_of_wpIn trivial ?_⟩;have S:=e1 _ (c6 c8 N A1 O (by have:=(Q5.1 W).1;omega)) hN;have c0:Rel n f (Md (NP I) vs g) {tmps:=(ps.zip vs.toArray).foldl (λU (v:Tmp×Value)=>U.setIfInBounds v.1 v.2) o.tmps,defers:=[]}:=by
    have h0:Rel n f g {tmps:=o.tmps,defers:=[]}:=⟨l.size,l.slot⟩
    have:=D_ ps.toList vs g o.tmps h5 e3 h0;rw[c1];have x:(ps.zip vs.toArray).foldl (λU (v:Tmp×Value)=>U.setIfInBounds v.1 v.2) o.tmps=(ps.toList.zip vs).foldl (λb (a4:Nat×Value)=>b.setIfInBounds a4.1 a4.2) o.tmps:=by
     rw[<-Array.foldl_toList,Array.toList_zip]
    rw[x];exact this
   have hx:=L (m:=0) (some (c.heap.size+1)) false _ f _ _ A1 (.inr ⟨rfl,g4⟩) b6 (by intro r f g Y c d Q;subst Q;exact d.elim) c0 S;refine wpIn_mono hx ?_;intro r i2 A2 p;obtain⟨A,x,C,-,d⟩:=p
   cases r with
   |exit id=>exact d.elim
   |goto a0=>exact d.elim
   |ret=>exact d.elim
   |panic ch=>exact d.elim
   |outgrown=>exact d.elim
   |normal=>
    obtain⟨i3,d⟩:=d;obtain⟨e4,i4⟩:=c3 i3 W F;refine⟨_,run_beginRound e4 (by rw[t]),?_⟩;have d:=d _ (ji (w:=A2) (l:=c.heap.size+1) (o:=.loop {q .ready none with state:=.busy}));have e5:(A2.putObj (c.heap.size+1) (.loop {q .ready none with state:=.busy})).heap[c.heap.size+1]? =some (.loop {q .ready none with state:=.busy}):=World.putObj_heap_same (Q5.1 e4).1;have e7:(A2.putObj (c.heap.size+1) (.loop {q .ready none with state:=.busy})).heap[c.heap.size]? =some (.deferred (some [])):=(World.putObj_heap_other oM).trans i4;generalize A2.putObj (c.heap.size+1) (.loop {q .ready none with state:=.busy})=A3 at d e5 e7;have hy:=M (m:=0) (some (c.heap.size+1)) false _ A x i2 A3 (.inr ⟨rfl,g5⟩) b7 (by intro r f g Y c d Q;subst Q;exact d.elim) C d;refine wpIn_mono hy ?_;have a2:∀(j:Option Code) (X:World),ak (nx c) A3 X->
      (Instr.endRound (c.heap.size+1) j).run h X= .ok (.bool j.isNone) (X.putObj (c.heap.size+1) (.loop (q (if j.isNone then .ready else .done) j)))/\
      (X.putObj (c.heap.size+1) (.loop (q (if j.isNone then .ready else .done) j))).heap[c.heap.size+1]? =some (.loop (q (if j.isNone then .ready else .done) j))/\
      (X.putObj (c.heap.size+1) (.loop (q (if j.isNone then .ready else .done) j))).heap[c.heap.size]? =some (.deferred (some [])):=λj X a6=>by
     obtain⟨e8,i5⟩:=c3 a6 e5 e7;have:=run_endRound (P:=h) j e8;rw[t]at this⊢;exact⟨this,World.putObj_heap_same (Q5.1 e8).1,(World.putObj_heap_other oM).trans i5⟩
    intro r j0 X p;obtain⟨B4,j1,j2,-,b1⟩:=p
    cases r with
    |normal=>
     obtain⟨a6,b3⟩:=b1;obtain⟨f1,f2,f3⟩:=a2 none X a6;exact⟨_,_,f1,true,rfl,.inl ⟨rfl,e0 _ _ _ _ b3 ji,f2,f3⟩⟩
    |ret=>
     obtain⟨a6,c9,b3⟩:=b1;obtain⟨f1,f2,f3⟩:=a2 (some .ret) X a6;exact⟨_,_,f1,false,rfl,.inr ⟨rfl,.ret,c2 _ _ _ _ b3 ji,c9,f2,f3⟩⟩
    |exit id=>
     obtain⟨a6,c9,b3⟩:=b1;obtain⟨f1,f2,f3⟩:=a2 (some (.exit id)) X a6;exact⟨_,_,f1,false,rfl,.inr ⟨rfl,.exit id,c2 _ _ _ _ b3 ji,c9,f2,f3⟩⟩
    |goto b=>exact b1.elim
    |panic ch=>exact b1.elim
    |outgrown=>exact b1.elim
  ·
   rintro ed A2 ⟨⟨j3,rfl⟩,(⟨⟨W,F⟩,c8,d0,O,hT⟩|⟨x1,N,O,i6,W,F⟩)⟩
   ·refine⟨none,_,by have:=run_endLoop (P:=h) W (by rw[t];simp);rw[t]at this;exact this,?_⟩
    exact cQ.of (l.defers _) (h3 c8 d0 _ (e0 _ _ _ _ O ji) hT ((World.putObj_heap_other oM).trans F))
   ·refine⟨some (Qt x1),_,by have:=run_endLoop (P:=h) W (by rw[t];simp);rw[t]at this;exact this,?_⟩
    obtain⟨i7,d⟩:=NO.out h4 x1 i6;rcases Iw R x1 i7 with rfl|⟨id,rfl⟩
    ·exact wpIn_ret (cQ.of (l.defers _) (d N _ (c2 .ret N A2 _ O ji) ((World.putObj_heap_other oM).trans F)))
    ·exact wpIn_exit (cQ.of (l.defers _) (d N _ (c2 (.exit id) N A2 _ O ji) ((World.putObj_heap_other oM).trans F)))
def Uy(a:World->Prop):List Deferred->World->Prop
 |[],b=>a b
 |d::f,b=>match d.target with
  | .collected c=>p_ c b/\∀e,pO c b e->Uy a f e
  |_=>False
def Tj(e:Program)(f:Func)(b:Ending->World->Prop):gX:=λi g h c a=>match i with
 | .normal=>Uy (λa=>HO e f.results.toList g h a λd=>b (.returned (oneOf d)) a) c a
 | .ret=>Uy (λa=>HO e f.results.toList g h a λd=>b (.returned (oneOf d)) a) c a
 | .panic j=>Uy (λa=>b (.panicked j) a) c a
 |_=>False
def om{h:Program}{i:Func}{a:Array Value}{j:Ending->World->Prop}{e:World->Prop}{g:FrameMode}(k:g≠.run){l:Nat}(m:∀b,e b->LeavesIn (FW none) l h i a j [] g b):∀(f:List Deferred) (b:World),Uy e f b->LeavesInM (FW none) l h i a j f g b
 |[],b,c=>m b c
 |d::f,b,c=>by
  unfold Uy at c;split at c
  ·rename_i n o
   obtain⟨p,c⟩:=c;exact⟨k,.inl ⟨n,_,o,run_takeDeferred p,om k m f _ (c _ ji)⟩⟩
  ·exact c.elim
def mR(j:ft)(k:List Nat)(l:h.follows .mixedOrders=true)(m:h.funcs[z]? =some a4)(o:a4.body=some Z)(p:n.size<=a4.ntmps)(q:tX a4.ntmps (kv Z)=true)(c:DR h j k true Z (Tj h a4 s) (λ_=>undef) (eG 0 n.toList) [] b):Calls h z n b s:=by
 refine tH.1 (callsIn_of_wp_marks (F:=FW none) (n:=0) m o trivial (wpIn_mono (Vr l Z none true (Tj h a4 s) _ _ _ b (.inl rfl) (ko q) (by intro e f g w b a r;subst r;exact a.elim) (wU p []) c) ?_));rintro e t x ⟨f,g,u,_,a⟩;have i:∀b,(HO h a4.results.toList f g b λd=>s (.returned (oneOf d)) b)->LeavesIn (FW none) 0 h a4 t.tmps s [] .returning b:=λb c=>by
  obtain⟨d,v,c⟩:=qz u c;exact⟨_,qA v,c⟩
 cases e with
 |normal=>exact om sM i _ _ a
 |ret=>exact om sM i _ _ a
 |panic y=>exact om sM (λb c=>c) _ _ a
 |exit id=>exact a.elim
 |goto d=>exact a.elim
 |outgrown=>exact a.elim
end Go.ar

import Derived.Test.YtfchlbaidamodaaGreatDoorYcLift
import Derived.RangeFuncSeq
import Derived.RangeFuncLeaves
set_option linter.all false
namespace Go.ax
open Go
abbrev FW(a:Option Nat):Fence:={Fence.wide with round:=a}
variable{J:Act}{T:Array Oper}{r:Array Value}{I:Bool}{h4 h5:Bool->World->Prop}{a0:Code}{t:Ending->World->Prop}{f0:Exit}{d7:Exit->Act->World->Prop}{a5:Func}{z:FuncId}{b4:List Nat}{a3 e9:List Value}{a c i:Nat}{f:Nat->Prop}{d0:Obj}{P:Oper}{R:Operand}{e8:Operand->Value}{d1:Option Nat}{h:Program}{o:Value->World->Prop}{b k:World}{U:cy}{O:dq}{e7:fS}{c5:iW}
def vq:CallsIn (FW d1) a h z r b t↔Calls h z r b t:=
 ⟨λc=>callsIn_wide.1 (show CallsIn Fence.wide a h z r b t from c),λc=>show CallsIn (FW d1) a h z r b t from(callsIn_wide (n:=a)).2 c⟩
def UM(a:Nat):(FW d1).room a:=λ_ b=>by simp[Fence.wide]at b
def QD{c:String}(d:Rows h c r b o):RowsIn (FW d1) a h c r b o:=by
 intro e cs _;obtain⟨f,g,i,j⟩:=d e cs;exact⟨f,g,i,(stepsIn_wide (P:=h)).2 j⟩
def xx(a:Oper):Bool:=match a.op with
 | .defer _=>false
 |_=>true
def xx.out(a:xx P=true):∀b,P.op≠.defer b:=by
 intro b c;unfold xx at a;rw[c]at a;cases a
section
variable {P:Program} {ro:Option Nat} {n:Nat}
def OL{c:Oper}{next:Act->World->Prop}(e:ro=none\/xx c=true)(a:c.wp P J b next d7):c.wpIn (FW ro) n P J b next d7:=by
 refine⟨λ_ _=>trivial,?_⟩;have g:c.semAt (FW ro).round J.eval=execOp J.eval c:=by
  rcases e with rfl|e
  ·rfl
  ·exact Oper.semAt_eq _ _ _ (xx.out e)
 rw[g];unfold Oper.wp at a;generalize(execOp J.eval c).run P b=h at a⊢
 cases h with
 |ok f i=>
  cases f with
  |value j=>exact a
  |skip=>exact a
  |defer k=>exact a
  |enter l d=>exact⟨λa=>by simp[Fence.wide]at a,vq.2 a⟩
  |row row d=>exact⟨λa=>by simp[Fence.wide]at a,QD a⟩
  |_=>exact a.elim
 |halt f i=>cases f<;>first|exact a|exact a.elim
def sr{b:Array Oper}{g:Exit->Act->World->Prop}(h:∀d c,¬g .outgrown d c)(e:ro=none\/∀i∈b.toList,xx i=true):∀(f:List Nat) (d:Act) (c:World),wpOps P b g f d c->wpOpsIn (FW ro) n P b g f d c
 |[],d,c,a=>a
 |l::f,d,c,a=>by
  unfold wpOps at a;unfold wpOpsIn
  cases j:b[l]? with
  |none=>rw[j]at a;exact sr h e f d c a
  |some i=>
   rw[j]at a;simp only at a⊢;split
   ·rename_i k
    rw[if_pos k]at a;rcases a with a|⟨-,m,o,a⟩
    ·have p:i.wp P d c (wpOpsIn (FW ro) n P b g f) g:=Oper.wp_mono (λd c a=>sr h e f d c a) a
     refine OL ?_ p;rcases e with e|e
     ·exact .inl e
     ·refine .inr (e i ?_)
      obtain⟨q,rfl⟩:=Q5.1 j;simp
    ·exact absurd a (h m o)
   ·rename_i k
    rw[if_neg k]at a;exact⟨λ_ _=>trivial,sr h e f _ c a⟩
end
section
variable {F:Fence} {n:Nat} {P:Program} {Q:Exit->Act->World->Prop} {a:Act} {w:World} {b:Frame} {k:List Item} {cs:List Frame}
def iy:step P (lone (b.atR a (.code (.scope a0)::k)) cs w)= .next (lone (b.atR a (.code a0:: .inScope a0::k)) cs w):=
 step_lone_go (by simp[stepG,stepG.exec,Frame.atR])
def E_:step P (lone (b.atR a (.inScope a0::k)) cs w)= .next (lone (b.atR a k) cs w):=
 step_lone_go (by simp[stepG,stepG.exec,Frame.atR])
def MX(o:a0.wpIn F n P (Exit.noGoto Q) a w):(Code.scope a0).wpIn F n P Q a w:=by
 intro b k cs p h i;have e:(lone (b.atR a (.code (.scope a0)::k)) cs w).fenced P F:=fenced_calm h i rfl;obtain⟨q,c,d,f,g⟩:=o b (.inScope a0::k) cs p h i
 cases q with
 |normal=>exact⟨.normal,c,d,f,.head e iy (StepsIn.trans g (.one (fenced_calm h i rfl) E_))⟩
 |exit id=>
  have m:exitTo id (.inScope a0::k)=exitTo id k:=by simp[exitTo]
  exact⟨.exit id,c,d,f,λr j=>.head e iy (g.1 r (by rw[m];exact j)),
   λl j=>let⟨k₁,h1,h2⟩:=g.2 l (by rw[m];exact j);⟨k₁,h1,.head e iy h2⟩⟩
 |goto s=>exact f.elim
 |ret=>exact⟨_,c,d,f,.of_steps (.one e iy) g⟩
 |panic t=>exact⟨_,c,d,f,.of_steps (.one e iy) g⟩
 |outgrown=>exact⟨_,c,d,f,.of_steps (.one e iy) g⟩
def wpIn_loop_ghost(b:Nat->Act->World->Prop)(c:Nat)(g:b c a w)(d:∀e a w,b e a w->a0.wpIn F n P (Exit.then (λh i=>∃l,l<e/\b l h i) Q) a w):(Code.loop a0).wpIn F n P Q a w:=by
 refine wpIn_loop (λa w=>∃e,b e a w) (λa w=>leastOf (λe=>b e a w)) ⟨c,g⟩ ?_;intro a w m;refine wpIn_mono (d _ a w (leastOf_spec m).1) ?_;intro o h i f
 cases o with
 |normal=>
  obtain⟨j,p,k⟩:=f;exact show(∃n,b n h i)/\leastOf (λn=>b n h i)<leastOf (λn=>b n a w)from⟨⟨j,k⟩,Nat.lt_of_le_of_lt ((leastOf_spec ⟨j,k⟩).2 j k) p⟩
 |exit id=>exact f
 |goto q=>exact f
 |ret=>exact f
 |panic r=>exact f
 |outgrown=>exact f
end
def MY(B:h.follows .mixedOrders=true){n id:Nat}(C:∀c,c∈writes (.region id T I)->c<n)(q:Rel n U O J)(a:D h e7 (.region id T I) c5 U O J.defers b):
  (I=false->wpOps h T (dK n U O (writes (.region id T I)) c5) (List.range T.size) J b)/\
  (I=true->∀c,wpOps h T (dK n U O (writes (.region id T I)) c5) (Region.schedule (h.follows .mixedOrders) T c) J {b with drawn:=b.drawn+1}):=by
 have o:∀k∈T.toList,∀l,k.dst=some l->l<n/\l∈writes (.region id T I):=λk i l z=>⟨C l (lr i z),lr i z⟩
 have r:∀s c,kh T s=some c->c<n:=by
  intro s c m;unfold kh at m
  cases i:T[s]? with
  |none=>rw[i]at m;simp at m
  |some k=>
   rw[i]at m;have E:k∈T.toList:=by
    have:=Q5.1 i;obtain⟨P,rfl⟩:=this;simp
   exact(o k E c m).1
 cases I with
 |false=>
  refine⟨λ_=>?_,λa=>by cases a⟩;rw[List.range_eq_range',<-XK,wpOps_eq_wpList T.toList 0 sM];exact Bc r T.toList O J b o q (λ_ _=>rfl) a
 |true=>
  refine⟨λa=>(by cases a),λ_ c=>?_⟩;simp only[Region.schedule,B,Bool.true_or,if_true];refine wpAny_sound T.size c _ J _ ?_;unfold D at a;simp only at a;split at a
  ·obtain⟨t,a⟩:=fI.out a
   simp only[Region.lexB,QK]at t;have F:=rV (B0:=U) (e0:=O) (W:=writes (.region id T true)) r T.toList O J o q (λ_ _=>rfl) a;have H:wpQuiet h T (bE b) (λp=>∀d,bE b d->dK n U O (writes (.region id T true)) c5 .normal p d) T.toList J:=by
    refine lf ?_ _ _ F;rintro p ⟨K,u,v,L,M⟩ d g;exact⟨U,K,u,L,by rw[v];exact M d g⟩
   refine wpAny_of_quiet (C:=bE b) (Q:=λp=>∀d,bE b d->dK n U O (writes (.region id T true)) c5 .normal p d) (λ_ d g a=>a d g) _ _ _ _ ⟨1,rfl⟩ ?_;have:=wpAnyQ_lex (C:=bE b) (md:=.any) t.1 T.toList 0 (Array.replicate T.size false) J sM (by simpa using t.2) H;simpa using this
  ·obtain⟨N,a⟩:=fI.out a
   have e:∀(f:Bool) (j:Nat->Prop) (w:Nat->Bool),xd h U T f j (λx y b=>∀U O,c5 (.panic x) U O y b) (λO y b=>c5 .normal U O y b) w T.size (Array.replicate T.size false) O J.defers (b.drewN 1)->
     wpAny h .any T (dK n U O (writes (.region id T true)) c5) T.size (Array.replicate T.size false) J {b with drawn:=b.drawn+1}:=λf j w a=>
    o_ (λx J b a=>C_.post x J b a) (λ_ _ a=>a) _ _ _ _ _ (mC (B0:=U) (e0:=O) (W:=writes (.region id T true)) r N o w _ _ O J _ q (λ_ _=>rfl) a)
   split at a
   ·split at a
    ·obtain⟨j,a⟩:=a _ ⟨1,rfl⟩
     exact e _ j _ a
    ·exact e _ _ _ (a _ ⟨1,rfl⟩)
   ·obtain⟨A,a⟩:=fI.out a
    split at a
    ·obtain⟨j,a⟩:=a _ ⟨1,rfl⟩
     rw[rZ A _ _ (HW.init _)]at a;exact e _ j _ a
    ·have a:=a _ ⟨1,rfl⟩
     rw[rZ A _ _ (HW.init _)]at a;exact e _ _ _ a
def ks(b:Program)(c:Nat)(d:List Value)(e:World)(f:Bool->World->Prop):Prop:=
 YieldAt (FW none) 0 b c d.toArray e λg h=>∃a,g= .returned (.bool a)/\f a h
def ks.mono(i:ks h a a3 b h4)(j:∀d g,h4 d g->h5 d g):ks h a a3 b h5:=by
 obtain⟨k,e,c,f,l,m⟩:=i;exact⟨k,e,c,f,l,m.mono λo g ⟨d,n,i⟩=>⟨d,n,j d g i⟩⟩
def Wx(c:Program)(d:Value)(a:Array Value)(e:World)(f:Value->World->Prop):Prop:=
 ∃b,d= .func (.yield b) #[] #[]/\ks c b a.toList e λg h=>f (.bool g) h
def Bf(a:Oper):Option (Operand×Array Operand):=match a.op with
 | .call {callee:=.value (.func _),..}=>none
 | .call {callee:=.value f,args,..}=>some (f,args)
 |_=>none
def SY(f:Program)(c:cy)(d:Array Oper)(j:iW)(e:Oper)(g:dq->List Deferred->World->Prop)(b:dq)(h:List Deferred)(i:World):Prop:=match Bf e with
 |some (k,a)=>Wx f (ev c b k) (a.map (ev c b)) i λl m=>g (cJ b e.dst l) h m
 |none=>Ux f d c e j g b h i
def ss(d:Program)(c:cy)(a:Array Oper)(e:iW):List Oper->(dq->List Deferred->World->Prop)->dq->List Deferred->World->Prop
 |[],g,f,h,i=>g f h i
 |k::b,g,f,h,i=>match k.guard with
  |none=>SY d c a e k (ss d c a e b g) f h i
  |some (m,j)=>match kh a m with
   |none=>False
   |some l=>match get c f l with
    | .bool n=>al n
     (match j with
      |true=>SY d c a e k (ss d c a e b g) ((l,.bool true)::f) h i
      |false=>ss d c a e b g (cJ ((l,.bool true)::f) k.dst undef) h i)
     (match j with
      |true=>ss d c a e b g (cJ ((l,.bool false)::f) k.dst undef) h i
      |false=>SY d c a e k (ss d c a e b g) ((l,.bool false)::f) h i)
    | .tuple _=>ss d c a e b g (cJ f k.dst undef) h i
    |_=>False
def MZ{d e:Code}(f:RoundIn (FW none) c h i z r d e b t):RoundIn (FW d1) a h i z r d e b t:=
 ⟨trivial,λg cs _=>f.2 g cs (UM _)⟩
def Ir{a:Array Operand}{l:Nat}(c:Bf P=some (R,a))(e:e8 R= .func (.yield l) #[] #[]):
  (execOp e8 P).run h b=(Instr.yield l (a.map e8)).run h b:=by
 unfold Bf at c;split at c
 ·cases c
 ·rename_i g d i f
  simp only[Q1,Prod.mk.injEq]at c;obtain⟨rfl,rfl⟩:=c;simp only[execOp,f,resolve,e];simp[Deferred.ofValue,invoke,Sem.run_bind,Sem.run_pure,Result.andThen]
 ·cases c
def xy{x:Program}{C:Option Nat}{M p:Nat}{g u:cy}{v:dq}{m:List Nat}{b:Array Oper}{n:iW}(N:∀o c,kh b o=some c->c<p)(S:∀a1 g a z h,n a1 g a z h->a1≠.outgrown)(w:C=none\/∀f∈b.toList,xx f=true):
  ∀(O:List Oper) (q:Nat) (a:dq) (k:Act) (h:World),(∀o,O[o]? =b[q+o]?)->(∀f∈O,∀i,f.dst=some i->i<p/\i∈m)->Rel p g a k->(∀c,c∉m->get g a c=get u v c)->
   ss x g b n O (λa z h=>n .normal g a z h) a k.defers h->wpOpsIn (FW C) M x b (dK p u v m n) (List.range' q O.length) k h
 |[],q,a,k,h,_,_,l,j,e=>⟨g,a,l,j,e⟩
 |f::d,q,a,k,h,a2,T,l,j,e=>by
  have h0:b[q]? =some f:=by simpa using(a2 0).symm
  have a4:f∈b.toList:=by
   obtain⟨a7,rfl⟩:=Q5.1 h0;simp
  have U:∀o,d[o]? =b[q+1+o]? :=λo=>by have:=a2 (o+1);simpa[Nat.add_assoc,Nat.add_comm 1 o]using this
  have V:∀i,f.dst=some i->i<p:=λi w=>(T f (QV ..) i w).1;have W:∀(a:dq),(∀c,c∉m->get g a c=get u v c)->∀E c,c∉m->get g (cJ a f.dst E) c=get u v c:=by
   intro a j E c X
   cases w:f.dst with
   |none=>exact j c X
   |some i=>
    have a5:=(T f (QV ..) i w).2;show get g ((i,E)::a) c=_;rw[eT,if_neg (by rintro rfl;exact X a5)];exact j c X
  have A:∀f∈d,∀i,f.dst=some i->i<p/\i∈m:=λf ho=>T f (QJ _ ho);have B:∀(a:dq),Rel p g a k->(∀c,c∉m->get g a c=get u v c)->SY x g b n f (ss x g b n d λa z h=>n .normal g a z h) a k.defers h->
    f.wpIn (FW C) M x k h (wpOpsIn (FW C) M x b (dK p u v m n) (List.range' (q+1) d.length)) (dK p u v m n):=λa l j e=>by
   unfold SY at e;split at e
   ·rename_i a8 F r
    obtain⟨Y,hf,fn,H,y,I,h1,h2⟩:=e;refine⟨λ_ _=>trivial,?_⟩;have Z:∀a3,f.op≠.defer a3:=by
     intro a3 Z;unfold Bf at r;rw[Z]at r;cases r
    rw[Oper.semAt_eq _ _ _ Z,l.eval,Ir (l:=Y) r hf];have a6:(Instr.yield Y (F.map (ev g a))).run x h= .ok (.round Y fn H y I) h:=by
     have:=h1
     rwa [Array.toArray_toList]at this
    rw[a6,Oper.uponIn_round];refine⟨λe=>by simp[Fence.wide]at e,(MZ h2).mono ?_⟩;rintro _ w' ⟨J,rfl,hK⟩;exact xy N S w d (q+1) _ _ _ U A (l.put _ V _) (W a j _) (by rw[put_defers];exact hK)
   ·refine OL (w.imp id λw=>w f a4) ?_
    exact MA l V e (λE a' w' a0 hK=>xy N S w d (q+1) _ _ _ U A a0 (W a j E) hK) (λch w' hq=>⟨g,a,l,j,hq⟩)
  have s:∀(a:dq),Rel p g a k->(∀c,c∉m->get g a c=get u v c)->ss x g b n d (λa z h=>n .normal g a z h) (cJ a f.dst undef) k.defers h->
    wpOpsIn (FW C) M x b (dK p u v m n) (List.range' (q+1) d.length) (k.put f.dst undef) h:=λa l j e=>
   xy N S w d (q+1) _ _ _ U A (l.put _ V _) (W a j _) (by rw[put_defers];exact e)
  simp only[Xq,List.range'_succ];unfold wpOpsIn;rw[h0];simp only;unfold ss at e;split at e
  ·rename_i P
   rw[if_pos (by simp[Region.wanted,P])];exact B a l j e
  ·rename_i o t P
   split at e
   ·exact e.elim
   ·rename_i c hj
    have r:=oZ l hj (N o c hj);split at e
    ·rename_i J K
     rw[K]at r;simp only at r;have hw:Region.wanted f (yielded b k.tmps)=(J==t):=by
      simp only[Region.wanted,P,r]
      cases J<;>cases t<;>rfl
     rw[hw];have Q:=l.again K;have R:∀L,L∉m->get g ((c,.bool J)::a) L=get u v L:=λL hu=>by rw[sL K];exact j L hu
     cases J<;>cases t<;>simp only[al]at e
     ·exact B _ Q R e
     ·exact⟨λ_ _=>trivial,s _ Q R e⟩
     ·exact⟨λ_ _=>trivial,s _ Q R e⟩
     ·exact B _ Q R e
    ·rename_i vs K
     rw[K]at r;simp only at r;have hw:Region.wanted f (yielded b k.tmps)=false:=by
      simp[Region.wanted,P,r]
     rw[hw];exact⟨λ_ _=>trivial,s _ l j e⟩
    ·exact e.elim
def qV(c:Nat)(a b:World):Prop:=aj (λd=>d=c) a b/\b.heap.size=a.heap.size
def ri(a:Nat)(b:World):Prop:=b.heap[a]? =some (.deferred (some []))
def OM(a:Nat):Deferred:={target:=.collected a,args:= #[]}
def M_:List Value->(List Value->Prop)->Prop
 |[],a=>a []
 |z::d,a=>match z with
  | .agg cs=>mZ cs.toList λb=>M_ d λc=>a (.agg b.toArray::c)
  |z=>mZ [z] λb=>M_ d λc=>a (b++c)
def oF(a:World):Nat->Prop:=λb=>b≠a.heap.size/\b≠a.heap.size+1
def uw(b c:List Value):Prop:=∀a:List Value->Prop,M_ b a->a c
def QE:List (Exit×(World->Prop))->(Exit->(World->Prop)->Prop)->Prop
 |[],_=>True
 |(b,c)::d,a=>a b c/\QE d a
def XT(a:Exit->World->Prop):List Exit->List (Exit×(World->Prop))
 |[]=>[]
 |x::b=>(x,λc=>a x c)::XT a b
def Yv(a:Exit):List (Exit×(World->Prop))->Prop
 |[]=>False
 |(b,_)::c=>a=b\/Yv a c
def QE.out{c:Exit->World->Prop}{φ:Exit->(World->Prop)->Prop}:∀{l:List Exit},QE (XT c l) φ->∀a,Yv a (XT c l)->a∈l/\φ a (λd=>c a d)
 |[],_,a,b=>b.elim
 |y::j,e,a,b=>by
  obtain⟨f,g⟩:=e;rcases b with rfl|b
  ·exact⟨QV ..,f⟩
  ·obtain⟨h,i⟩:=QE.out g a b
   exact⟨QJ _ h,i⟩
def Hz(o:Program)(w:Value)(y:List Value)(c:World)(z:(List Value->Prop)->(List Value->Exit->World->Prop)->World->Prop)(A:World->Prop)(q:List (Exit×(World->Prop))):Prop:=
 ∃p m,w= .func (.func p) #[] m/\enters o p=true/\
 ∃(r:Type) (s:r) (h:r->List (List Value)->World->Prop) (l:Exit->List (List Value)->World->Prop) (t:List (List Value)->List Value->Prop) (u:List (List Value)->Prop),
  (∀j,aj (λ_=>False) c j->j.heap.size=c.heap.size+2->h s [] j)/\
  (∀d a b f,h d a b->qV (c.heap.size+1) b f->h d a f)/\
  (∀x a b f,l x a b->qV (c.heap.size+1) b f->l x a f)/\
  (∀d a b,h d a b->c.heap.size+2<=b.heap.size->z (t a) (λi x e=>match x with
   | .normal=>h d (a++[i]) e
   |x=>Yv x q/\l x (a++[i]) e) b)/\
  (∀(k:World->Prop) (n:Exit->World->Prop),(∀b f,k b->aj (oF c) b f->k f)->(∀x b f,n x b->aj (oF c) b f->n x f)->
   (∀b,k b->c.heap.size+2<=b.heap.size)->
   (∀d a i b,h d a b->k b->uw y i->t a i->ks o (c.heap.size+1) i b λv e=>(v=true/\h d (a++[i]) e/\k e)\/(v=false/\∃x,l x (a++[i]) e/\n x e))->
   ∀j,h s [] j->k j->Calls o p (#[.func (.yield (c.heap.size+1)) #[] #[]]++m) j λB e=>(∃C,B= .returned C)/\((k e/\∃d g,h d g e/\u g)\/∃x a,l x a e/\n x e))/\
  (∀d g b,h d g b->u g->ri c.heap.size b->A b)/\
  QE q λx E=>∀a b,l x a b->ri c.heap.size b->E b
def ON:List Nat->List Value->dq->dq
 |b::c,d::e,a=>ON c e ((b,d)::a)
 |_,_,a=>a
def QF:List (Nat×Value)->List Nat
 |[]=>[]
 |(a,_)::b=>a::QF b
def jb:Code->Bool
 | .region _ b _=>b.toList.all xx
 | .seq c d=>jb c&&jb d
 | .cond _ c d=>jb c&&jb d
 | .block _ a=>jb a
 | .loop a=>jb a
 | .scope a=>jb a
 | .rangeFunc .. =>false
 |_=>true
def gU:Code->List Exit
 | .exit id=>[.exit id]
 | .ret=>[.ret]
 | .seq b c=>gU b++gU c
 | .cond _ b c=>gU b++gU c
 | .block _ a=>gU a
 | .loop a=>gU a
 | .scope a=>gU a
 |_=>[]
def SZ:Exit->Code
 | .ret=>.ret
 | .exit id=>.exit id
 | .goto a=>.goto a
 |_=>.skip
def Wy(a:Exit->World->Prop):iW:=λc _ _ _ b=>match c with
 | .normal=>a .normal b
 | .ret=>a .ret b
 | .exit id=>a (.exit id) b
 |_=>False
def DR(h:Program)(g:fS)(i:List Nat):Bool->Code->iW->cy->dq->List Deferred->World->Prop
 |_,.skip,e,d,a,c,b=>e .normal d a c b
 |_,.label _,e,d,a,c,b=>e .normal d a c b
 |_,.exit id,e,d,a,c,b=>e (.exit id) d a c b
 |_,.ret,e,d,a,c,b=>e .ret d a c b
 |_,.region id r q,e,d,a,c,b=>match EV i id with
  |true=>(match q with
   |false=>ss h d r e r.toList (λa c b=>e .normal d a c b) a c b
   |true=>False)
  |false=>D h g (.region id r q) e d a c b
 |top,.seq j m,e,d,a,c,b=>match Qa g.Sh (key m)with
  |none=>DR h g i top j (Df (λd a c b=>DR h g i top m e d a c b) e) d a c b
  |some f=>∃y:Fn (i_ f) (World->Prop),DR h g i top j (Df (λn t l k=>Dd l c (ap (i_ f) y (AN n t f) k)) e) d a c b/\
    fw (writes j) a λv=>mZ (i_ f) λo=>∀(n:cy) (k:World),ap (i_ f) y o k->DR h g i top m e n (zv f o v) c k
 |top,.cond p j m,e,d,a,c,b=>match ev d a p with
  | .bool B=>al B (DR h g i top j e d a c b) (DR h g i top m e d a c b)
  |_=>False
 |top,.block id p,e,d,a,c,b=>DR h g i top p (yJ id e) d a c b
 |top,.scope p,e,d,a,c,b=>DR h g i top p (HX e) d a c b
 |top,.loop p,e,d,a,c,b=>match Qa g.loops (key p)with
  |none=>False
  |some f=>∃w:Nat->Fn (i_ f) (World->Prop),(∃u,ap (i_ f) (w u) (AN d a f) b)/\
    ∀u,fw (writes p) a λv=>mZ (i_ f) λo=>∀(n:cy) (k:World),ap (i_ f) (w u) o k->
     DR h g i top p (Df (λn t l k=>Dd l c (∃z,z<u/\ap (i_ f) (w z) (AN n t f) k)) e) n (zv f o v) c k
 |top,.rangeFunc C E j m,e,d,a,c,b=>match top with
  |false=>False
  |true=>match Qa g.loops (key m)with
   |none=>False
   |some f=>fI (P_ (QF f) E.toList&&(jb j&&jb m)) (Hz h (ev d a C) (i_ f) b
     (λF H s=>M_ (i_ f) λo=>F o->DR h g i false j (Df (λn t l k=>aj (oF b) s k/\∀x,qV (b.heap.size+1) k x->DR h g i false m (Wy λj A=>aj (oF b) x A/\H o j A) n t l x) (λ_ _ _ _ _=>False)) d (ON (QF f) o a) [] s)
     (λs=>e .normal d a (OM b.heap.size::c) s) (XT (λj s=>e j d a (OM b.heap.size::c) s) (gU m)))
 |_,_,_,_,_,_,_=>False
def lS:Code->List Nat
 | .region _ d _=>F_ d.toList
 | .seq a b=>lS a++lS b
 | .cond _ a b=>lS a++lS b
 | .block _ c=>lS c
 | .loop c=>lS c
 | .scope c=>lS c
 | .rangeFunc _ e a b=>e.toList++(lS a++lS b)
 |_=>[]
def S_:∀(b:List Value) (d:List Value->Prop),(∀a,a.length=b.length->d a)->M_ b d:=by
 have f:∀(b:List Value) (d:List Value->Prop),(∀a,a.length=b.length->d a)->mZ b d:=by
  intro b
  induction b with
  |nil=>intro d c;exact c [] rfl
  |cons i b g=>
   intro d c
   cases i
   case pointer j=>cases j<;>simp only[mZ]<;>intros<;>exact g _ λa e=>c _ (by simp[e])
   all_goals(simp only[mZ];intros;exact g _ λa e=>c _ (by simp[e]))
 intro b
 induction b with
 |nil=>intro d c;exact c [] rfl
 |cons i b g=>
  intro d c
  cases i
  case pointer j=>cases j<;>(simp only[M_];exact f [_] _ λa e=>g _ λl h=>c _ (by have k:a.length=1:=e;simp[k,h,Nat.add_comm]))
  case agg cs=>exact f cs.toList _ λa e=>g _ λl h=>c _ (by simp[h])
  all_goals(simp only[M_];exact f [_] _ λa e=>g _ λl h=>c _ (by have k:a.length=1:=e;simp[k,h,Nat.add_comm]))
def uw.len(a:uw a3 e9):e9.length=a3.length:=a _ (S_ a3 _ λ_ a=>a)
def KG:∀a:List (Nat×Value),(QF a).length=(i_ a).length
 |[]=>rfl
 |(_,_)::b=>by simp[QF,i_,KG b]
def GA{g:Nat}{k:cy}:∀(d:List Nat) (b:List Value) (e:dq) (a:Array Value),(∀c∈d,c<g)->b.length=d.length->Rel g k e {tmps:=a,defers:=[]}->
  Rel g k (ON d b e) {tmps:=(d.zip b).foldl (λc (l:Nat×Value)=>c.setIfInBounds l.1 l.2) a,defers:=[]}
 |[],b,e,a,_,f,h=>by
  cases b with
  |nil=>exact h
  |cons i b=>simp at f
 |c::d,b,e,a,m,f,h=>by
  cases b with
  |nil=>simp at f
  |cons i b=>
   exact GA d b ((c,i)::e) _ (λn j=>m n (QJ _ j)) (by simpa using f) (h.put (some c) (λn j=>by cases j;exact m c (QV ..)) i)
def KH:∀(b:Code) (c:Exit),c∈gU b->c= .ret\/∃id,c= .exit id:=by
 intro b
 induction b with
 |exit id=>intro c a;simp only[gU,List.mem_singleton]at a;exact .inr ⟨id,a⟩
 |ret=>intro c a;simp only[gU,List.mem_singleton]at a;exact .inl a
 |seq c h d e=>intro f a;exact(Q6.1 a).elim (d f) (e f)
 |cond b c h d e=>intro f a;exact(Q6.1 a).elim (d f) (e f)
 |block id b g=>exact g
 |loop b g=>exact g
 |scope b g=>exact g
 |_=>intro f a;cases a
def kp{w:World}{l:Nat}{o:Obj}:qV l w (w.putObj l o):=
 ⟨⟨rfl,rfl,rfl,sM,λb _ a=>World.putObj_heap_other a⟩,sM⟩
def aj.obj(d:aj f b k)(c:b.heap[a]? =some d0)(e:¬f a):k.heap[a]? =some d0:=
 (d.block a (Q5.1 c).1 e).trans c
def dK.of(c:Rel a U O J)(d:c5 f0 U O J.defers b):dK a U O b4 c5 f0 J b:=⟨U,O,c,λ_ _=>rfl,d⟩
def XU(hm:h.follows .mixedOrders=true){n m:Nat}:∀(J:Code) (s:Option Nat) (e:Bool) (u:iW) (f:cy) (g:dq) (o:Act) (c:World),
  (s=none\/(e=false/\jb J=true))->(∀b,b∈lS J->b<n)->(∀v f g Y c,u v f g Y c->v≠.outgrown)->Rel n f g o->DR h e7 b4 e J u f g o.defers c->J.wpIn (FW s) m h (dK n f g (writes J) u) o c:=by
 intro J
 induction J generalizing m with
 |skip=>intro s e u f g o c _ _ _ l a;exact wpIn_skip (dK.of l a)
 |label a0=>intro s e u f g o c _ _ _ l a;exact wpIn_label (dK.of l a)
 |exit id=>intro s e u f g o c _ _ _ l a;exact wpIn_exit (dK.of l a)
 |ret=>intro s e u f g o c _ _ _ l a;exact wpIn_ret (dK.of l a)
 |goto a0=>intro s e u f g o c _ _ _ l a;exact a.elim
 |refuse sO=>intro s e u f g o c _ _ _ l a;exact a.elim
 |scope J ih=>
  intro s e u f g o c E z K l a;refine MX (wpIn_mono (ih s e (HX u) f g o c E z (by intro r f g Y c d Q;subst Q;exact K _ _ _ _ _ d rfl) l a) ?_);intro r w y p;obtain⟨A,x,C,H,d⟩:=p
  cases r with
  |goto a0=>exact d.elim
  |normal=>exact⟨A,x,C,H,d⟩
  |exit id=>exact⟨A,x,C,H,d⟩
  |ret=>exact⟨A,x,C,H,d⟩
  |panic ch=>exact⟨A,x,C,H,d⟩
  |outgrown=>exact⟨A,x,C,H,d⟩
 |region id B Z=>
  intro s e u f g o c E z K l a;have hd:s=none\/∀V∈B.toList,xx V=true:=E.imp (λa=>a) λa=>by
   have:=a.2;unfold jb at this;exact List.all_eq_true.1 this
  have d1:∀w y,¬dK n f g (writes (.region id B Z)) u .outgrown w y:=λo c ⟨f,g,_,_,d⟩=>K _ _ _ _ _ d rfl;unfold DR at a;split at a
  ·split at a
   ·have W:∀V∈B.toList,∀a5,V.dst=some a5->a5<n/\a5∈writes (.region id B false):=λV ho a5 hd=>⟨z a5 (lr ho hd),lr ho hd⟩
    have e9:∀c4 b,kh B c4=some b->b<n:=by
     intro c4 b O;unfold kh at O
     cases ho:B[c4]? with
     |none=>rw[ho]at O;simp at O
     |some V=>
      rw[ho]at O;have f0:V∈B.toList:=by
       obtain⟨d2,rfl⟩:=Q5.1 ho;simp
      exact(W V f0 b O).1
    refine wpIn_region ?_;rw[List.range_eq_range',<-XK];exact xy e9 K hd B.toList 0 g o c sM W l (λ_ _=>rfl) a
   ·exact a.elim
  ·obtain⟨h1,h2⟩:=MY hm (n:=n) z l a
   cases Z with
   |false=>exact wpIn_region (sr d1 hd _ _ _ (h1 rfl))
   |true=>exact wpIn_region_draw λb=>sr d1 hd _ _ _ (h2 rfl b)
 |seq v R L M=>
  intro s e u f g o c E z K l a;have b0:s=none\/(e=false/\jb v=true):=E.imp (λa=>a) λa=>⟨a.1,by have:=a.2;simp only[jb,QK]at this;exact this.1⟩
  have b5:s=none\/(e=false/\jb R=true):=E.imp (λa=>a) λa=>⟨a.1,by have:=a.2;simp only[jb,QK]at this;exact this.2⟩
  have b6:∀b,b∈lS v->b<n:=λb k=>z b (Q6.2 (.inl k));have b7:∀b,b∈lS R->b<n:=λb k=>z b (Q6.2 (.inr k));have i:∀(a3:cy->dq->List Deferred->World->Prop) (r:Exit) (w:Act) (y:World),r≠.normal->dK n f g (writes v) (Df a3 u) r w y->dK n f g (writes (v.seq R)) u r w y:=by
   intro a3 r w y f4 p;refine p.mono (λb k=>Q6.2 (.inl k)) (λ_ _=>rfl) λA x i8 w1 d=>?_
   cases r with
   |normal=>exact absurd rfl f4
   |outgrown=>exact d.elim
   |_=>exact d
  have d3:∀(a3:cy->dq->List Deferred->World->Prop) r f g Y c,Df a3 u r f g Y c->r≠.outgrown:=by
   intro a3 r f g Y c d Q;subst Q;exact d.elim
  unfold DR at a;split at a
  ·have hx:=L (m:=m) s e _ f g o c b0 b6 (d3 _) l a
   refine wpIn_seq (wpIn_mono hx ?_);intro r w y p
   cases r with
   |normal=>
    obtain⟨A,x,C,H,d⟩:=p;have hy:=M (m:=m) s e u A x w y b5 b7 K C d;refine wpIn_mono hy (λr d4 d5 p=>?_);refine p.mono (λb k=>Q6.2 (.inr k)) (λb k=>H b λhm=>k (Q6.2 (.inl hm))) λ_ _ _ _ d=>d
   |exit id=>exact i _ _ _ _ sM p
   |goto a0=>exact i _ _ _ _ sM p
   |ret=>exact i _ _ _ _ sM p
   |panic ch=>exact i _ _ _ _ sM p
   |outgrown=>exact i _ _ _ _ sM p
  ·rename_i I hS
   obtain⟨f5,a,c5⟩:=a;obtain⟨x,h1,h2,c5⟩:=fw.out c5;have hx:=L (m:=m) s e _ f g o c b0 b6 (d3 _) l a;refine wpIn_seq (wpIn_mono hx ?_);intro r w y p
   cases r with
   |normal=>
    obtain⟨B2,e2,P,b8,d⟩:=p;obtain⟨b9,hJ⟩:=Dd.out d;have hv:=od P I;have a7:=ki B2 e2 I;have d6:=ap.all a7 hJ c5 (λb=>w.tmps.getD b undef) y hJ;rw[hv,<-b9]at d6;have d7:=xj (n:=n) I P.size h1 h2 (B0:=f) (λb k=>(P.slot b).trans (b8 b k));have hy:=M (m:=m) s e u _ _ w y b5 b7 K d7 d6;refine wpIn_mono hy (λr d4 d5 p=>?_);refine p.mono (λb k=>Q6.2 (.inr k)) (λb k=>?_) λ_ _ _ _ d=>d;rw[<-d7.slot];exact(P.slot b).trans (b8 b λhm=>k (Q6.2 (.inl hm)))
   |exit id=>exact i _ _ _ _ sM p
   |goto a0=>exact i _ _ _ _ sM p
   |ret=>exact i _ _ _ _ sM p
   |panic ch=>exact i _ _ _ _ sM p
   |outgrown=>exact i _ _ _ _ sM p
 |cond J v R L M=>
  intro s e u f g o c E z K l a;have b0:s=none\/(e=false/\jb v=true):=E.imp (λa=>a) λa=>⟨a.1,by have:=a.2;simp only[jb,QK]at this;exact this.1⟩
  have b5:s=none\/(e=false/\jb R=true):=E.imp (λa=>a) λa=>⟨a.1,by have:=a.2;simp only[jb,QK]at this;exact this.2⟩
  unfold DR at a;split at a
  ·rename_i f6 S
   refine wpIn_cond_split (t:=f6) (by rw[l.eval];exact S) (λk=>?_) (λhf=>?_)
   ·subst k
    refine wpIn_mono (L s e u f g o c b0 (λb k=>z b (Q6.2 (.inl k))) K l a) (λr w y p=>?_);exact p.mono (λb k=>Q6.2 (.inl k)) (λ_ _=>rfl) λ_ _ _ _ d=>d
   ·subst hf
    refine wpIn_mono (M s e u f g o c b5 (λb k=>z b (Q6.2 (.inr k))) K l a) (λr w y p=>?_);exact p.mono (λb k=>Q6.2 (.inr k)) (λ_ _=>rfl) λ_ _ _ _ d=>d
  ·exact a.elim
 |block id J ih=>
  intro s e u f g o c E z K l a;refine wpIn_block (wpIn_mono (ih s e (yJ id u) f g o c E z (by intro r f g Y c d Q;subst Q;exact d.elim) l a) ?_);intro r w y p;obtain⟨A,x,C,H,d⟩:=p
  cases r with
  |exit a8=>
   show(if a8=id then _ else _);simp only[yJ]at d
   cases S:Nat.beq a8 id with
   |true=>
    rw[S]at d;rw[if_pos (X9 S)];exact⟨A,x,C,H,d⟩
   |false=>
    rw[S]at d;rw[if_neg (by rintro rfl;simp at S)];exact⟨A,x,C,H,d⟩
  |normal=>exact⟨A,x,C,H,d⟩
  |goto a0=>exact⟨A,x,C,H,d⟩
  |ret=>exact⟨A,x,C,H,d⟩
  |panic ch=>exact⟨A,x,C,H,d⟩
  |outgrown=>exact d.elim
 |loop J ih=>
  intro s e u f g o c E z K l a;unfold DR at a;split at a
  ·exact a.elim
  ·rename_i I hS
   obtain⟨f7,⟨m0,h0⟩,f8⟩:=a;refine wpIn_loop_ghost (λm w y=>w.tmps.size=n/\(∀b,b∉writes J->w.tmps.getD b undef=get f g b)/\w.defers=o.defers/\
    ap (i_ I) (f7 m) (I.map λa4=>w.tmps.getD a4.1 undef) y) m0 ⟨l.size,λb _=>l.slot b,rfl,by rw[<-od l I];exact h0⟩ ?_
   rintro mm w y ⟨f9,d8,b9,hI⟩;obtain⟨x,h1,h2,g0⟩:=fw.out (f8 mm);have a7:(I.map λa4=>w.tmps.getD a4.1 undef).length=(i_ I).length:=by rw[<-ki f g I,Bd];simp
   have S:=ap.all a7 hI g0 (λb=>w.tmps.getD b undef) y hI;have c0:=xj (n:=n) I f9 h1 h2 d8;rw[<-b9]at S;have c6:=ih (m:=m) s e _ _ _ w y E z (by intro r f g Y c d Q;subst Q;exact d.elim) c0 S;refine wpIn_mono c6 ?_;intro r d4 d5 p;obtain⟨B2,e2,P,b8,d⟩:=p;have a9:∀b,b∉writes J->get B2 e2 b=get f g b:=λb k=>(b8 b k).trans ((c0.slot b).symm.trans (d8 b k))
   cases r with
   |normal=>
    obtain⟨g1,m',d2,g2⟩:=Dd.out d;refine⟨m',d2,P.size,λb k=>(P.slot b).trans (a9 b k),g1.trans b9,?_⟩;rw[<-od P I];exact g2
   |outgrown=>exact d.elim
   |exit id=>exact⟨B2,e2,P,a9,d⟩
   |goto a0=>exact⟨B2,e2,P,a9,d⟩
   |ret=>exact⟨B2,e2,P,a9,d⟩
   |panic ch=>exact⟨B2,e2,P,a9,d⟩
 |rangeFunc g3 ps v R L M=>
  intro s e u f g o c E z K l a;unfold DR at a;split at a
  ·exact a.elim
  obtain rfl:s=none:=E.resolve_right λa=>by cases a.1
  split at a
  ·exact a.elim
  rename_i I hS;obtain⟨d9,a⟩:=fI.out a;simp only[QK]at d9;obtain⟨c1,g4,g5⟩:=d9;have c1:=P_.out c1;obtain⟨c7,a1,g6,g7,σ,s0,f5,Jx,a3,i9,g8,e0,c2,c6,g9,h3,h4⟩:=a;have b6:∀b,b∈lS v->b<n:=λb k=>z b (Q6.2 (.inr (Q6.2 (.inl k))));have b7:∀b,b∈lS R->b<n:=λb k=>z b (Q6.2 (.inr (Q6.2 (.inr k))));have h5:∀b,b∈ps.toList->b<n:=λb k=>z b (Q6.2 (.inl k));refine wpIn_rangeFunc ?_;intro fn _;obtain⟨q,t⟩:∃q:LoopState->Option Code->Loop,q=λst pe=>{state:=st,pending:=pe,fn,tmps:=o.tmps,params:=ps,assign:=v,body:=R,defers:=c.heap.size}:=⟨_,rfl⟩
  obtain⟨T,b2⟩:∃T,(c.alloc (.deferred (some []))).alloc (.loop (q .ready none))=T:=⟨_,rfl⟩
  have h6:T.heap[c.heap.size+1]? =some (.loop (q .ready none)):=by
   rw[<-b2];have:=World.alloc_heap_new (c.alloc (.deferred (some []))) (.loop (q .ready none));rwa [World.size_alloc]at this
  have h7:T.heap[c.heap.size]? =some (.deferred (some [])):=by
   rw[<-b2];exact(Go.RowKit.Below.heap_alloc _ _ _ sM).trans (World.alloc_heap_new c _)
  have h8:T.heap.size=c.heap.size+2:=by rw[<-b2];simp
  have h9:aj (λ_=>False) c T:=by
   rw[<-b2];exact⟨rfl,rfl,rfl,by simp;omega,λi0 F _=>(Go.RowKit.Below.heap_alloc _ _ _ (by simp;omega)).trans (Go.RowKit.Below.heap_alloc c _ i0 F)⟩
  let i1:World->Prop:=λe7=>e7.heap[c.heap.size+1]? =some (.loop (q .ready none))/\e7.heap[c.heap.size]? =some (.deferred (some []))
  let Rx:Exit->World->Prop:=λv e7=>Yv v (XT (λv A0=>u v f g (OM c.heap.size::o.defers) A0) (gU R))/\e7.heap[c.heap.size+1]? =some (.loop (q .done (some (SZ v))))/\e7.heap[c.heap.size]? =some (.deferred (some []))
  have c3:∀{e7 f:World} {V o':Obj},aj (oF c) e7 f->e7.heap[c.heap.size+1]? =some V->e7.heap[c.heap.size]? =some o'->f.heap[c.heap.size+1]? =some V/\f.heap[c.heap.size]? =some o':=λF h1 h2=>
   ⟨F.obj h1 λa=>a.2 rfl,F.obj h2 λa=>a.1 rfl⟩
  refine⟨c.heap.size+1,[OM c.heap.size],T,{target:=.fn (.func c7) a1,args:= #[.func (.yield (c.heap.size+1)) #[] #[]]},T,c7,#[.func (.yield (c.heap.size+1)) #[] #[]]++a1,T,?_,?_,λ_ _=>trivial,?_,λa=>by simp[Fence.wide]at a,?_⟩
  ·rw[<-b2,t];exact run_enterLoop_outer _ _ _ _ _
  ·have hg:o.eval g3= .func (.func c7) #[] a1:=by rw[l.eval];exact g6
   simp only[resolve,hg];simp[go_sem]
  ·simp only[invoke];exact iX g7 _ _
  refine vq.2 (Calls.mono (g9 i1 Rx (λe7 f a F=>c3 F a.1 a.2) (λv e7 f a F=>⟨a.1,c3 F a.2.1 a.2.2⟩) (λe7 a=>by have:=(Q5.1 a.1).1;omega) ?_ T (g8 T h9 h8) ⟨h6,h7⟩) ?_)
  ·
   rintro c8 N vs A1 O ⟨W,F⟩ e1 hN;have a7:=e1.len;have e3:vs.length=ps.toList.length:=by rw[a7,<-c1,KG]
   have hy:=run_yield (P:=h) (args:=vs.toArray) W (by rw[t];simpa using e3);rw[t]at hy;refine⟨fn,_,v,R,hy,roundIn_of_wpIn trivial ?_⟩;have S:=e1 _ (c6 c8 N A1 O (by have:=(Q5.1 W).1;omega)) hN;have c0:Rel n f (ON (QF I) vs g) {tmps:=(ps.zip vs.toArray).foldl (λU (v:Tmp×Value)=>U.setIfInBounds v.1 v.2) o.tmps,defers:=[]}:=by
    have h0:Rel n f g {tmps:=o.tmps,defers:=[]}:=⟨l.size,l.slot⟩
    have:=GA ps.toList vs g o.tmps h5 e3 h0;rw[c1];have x:(ps.zip vs.toArray).foldl (λU (v:Tmp×Value)=>U.setIfInBounds v.1 v.2) o.tmps=(ps.toList.zip vs).foldl (λb (a4:Nat×Value)=>b.setIfInBounds a4.1 a4.2) o.tmps:=by
     rw[<-Array.foldl_toList,Array.toList_zip]
    rw[x];exact this
   have hx:=L (m:=0) (some (c.heap.size+1)) false _ f _ _ A1 (.inr ⟨rfl,g4⟩) b6 (by intro r f g Y c d Q;subst Q;exact d.elim) c0 S;refine wpIn_mono hx ?_;intro r i2 A2 p;obtain⟨A,x,C,-,d⟩:=p
   cases r with
   |exit id=>exact d.elim
   |goto a0=>exact d.elim
   |ret=>exact d.elim
   |panic ch=>exact d.elim
   |outgrown=>exact d.elim
   |normal=>
    obtain⟨i3,d⟩:=d;obtain⟨e4,i4⟩:=c3 i3 W F;refine⟨_,run_beginRound e4 (by rw[t]),?_⟩;have d:=d _ (kp (w:=A2) (l:=c.heap.size+1) (o:=.loop {q .ready none with state:=.busy}));have e5:(A2.putObj (c.heap.size+1) (.loop {q .ready none with state:=.busy})).heap[c.heap.size+1]? =some (.loop {q .ready none with state:=.busy}):=World.putObj_heap_same (Q5.1 e4).1;have e6:(A2.putObj (c.heap.size+1) (.loop {q .ready none with state:=.busy})).heap[c.heap.size]? =some (.deferred (some [])):=(World.putObj_heap_other oM).trans i4;generalize A2.putObj (c.heap.size+1) (.loop {q .ready none with state:=.busy})=A3 at d e5 e6;have hy:=M (m:=0) (some (c.heap.size+1)) false _ A x i2 A3 (.inr ⟨rfl,g5⟩) b7 (by intro r f g Y c d Q;subst Q;exact d.elim) C d;refine wpIn_mono hy ?_;have a2:∀(j:Option Code) (X:World),aj (oF c) A3 X->
      (Instr.endRound (c.heap.size+1) j).run h X= .ok (.bool j.isNone) (X.putObj (c.heap.size+1) (.loop (q (if j.isNone then .ready else .done) j)))/\
      (X.putObj (c.heap.size+1) (.loop (q (if j.isNone then .ready else .done) j))).heap[c.heap.size+1]? =some (.loop (q (if j.isNone then .ready else .done) j))/\
      (X.putObj (c.heap.size+1) (.loop (q (if j.isNone then .ready else .done) j))).heap[c.heap.size]? =some (.deferred (some [])):=λj X a6=>by
     obtain⟨e8,i5⟩:=c3 a6 e5 e6;have:=run_endRound (P:=h) j e8;rw[t]at this⊢;exact⟨this,World.putObj_heap_same (Q5.1 e8).1,(World.putObj_heap_other oM).trans i5⟩
    intro r j0 X p;obtain⟨B4,j1,j2,-,b1⟩:=p
    cases r with
    |normal=>
     obtain⟨a6,b3⟩:=b1;obtain⟨f1,f2,f3⟩:=a2 none X a6;exact⟨_,_,f1,true,rfl,.inl ⟨rfl,e0 _ _ _ _ b3 kp,f2,f3⟩⟩
    |ret=>
     obtain⟨a6,c9,b3⟩:=b1;obtain⟨f1,f2,f3⟩:=a2 (some .ret) X a6;exact⟨_,_,f1,false,rfl,.inr ⟨rfl,.ret,c2 _ _ _ _ b3 kp,c9,f2,f3⟩⟩
    |exit id=>
     obtain⟨a6,c9,b3⟩:=b1;obtain⟨f1,f2,f3⟩:=a2 (some (.exit id)) X a6;exact⟨_,_,f1,false,rfl,.inr ⟨rfl,.exit id,c2 _ _ _ _ b3 kp,c9,f2,f3⟩⟩
    |goto b=>exact b1.elim
    |panic ch=>exact b1.elim
    |outgrown=>exact b1.elim
  ·
   rintro ed A2 ⟨⟨j3,rfl⟩,(⟨⟨W,F⟩,c8,d0,O,hT⟩|⟨x1,N,O,i6,W,F⟩)⟩
   ·refine⟨none,_,by have:=run_endLoop (P:=h) W (by rw[t];simp);rw[t]at this;exact this,?_⟩
    exact dK.of (l.defers _) (h3 c8 d0 _ (e0 _ _ _ _ O kp) hT ((World.putObj_heap_other oM).trans F))
   ·refine⟨some (SZ x1),_,by have:=run_endLoop (P:=h) W (by rw[t];simp);rw[t]at this;exact this,?_⟩
    obtain⟨i7,d⟩:=QE.out h4 x1 i6;rcases KH R x1 i7 with rfl|⟨id,rfl⟩
    ·exact wpIn_ret (dK.of (l.defers _) (d N _ (c2 .ret N A2 _ O kp) ((World.putObj_heap_other oM).trans F)))
    ·exact wpIn_exit (dK.of (l.defers _) (d N _ (c2 (.exit id) N A2 _ O kp) ((World.putObj_heap_other oM).trans F)))
def WY(a:World->Prop):List Deferred->World->Prop
 |[],b=>a b
 |d::f,b=>match d.target with
  | .collected c=>ri c b/\∀e,qV c b e->WY a f e
  |_=>False
def Vx(e:Program)(f:Func)(b:Ending->World->Prop):iW:=λi g h c a=>match i with
 | .normal=>WY (λa=>JW e f.results.toList g h a λd=>b (.returned (oneOf d)) a) c a
 | .ret=>WY (λa=>JW e f.results.toList g h a λd=>b (.returned (oneOf d)) a) c a
 | .panic j=>WY (λa=>b (.panicked j) a) c a
 |_=>False
def py{h:Program}{i:Func}{a:Array Value}{j:Ending->World->Prop}{e:World->Prop}{g:FrameMode}(k:g≠.run){l:Nat}(m:∀b,e b->LeavesIn (FW none) l h i a j [] g b):∀(f:List Deferred) (b:World),WY e f b->LeavesInM (FW none) l h i a j f g b
 |[],b,c=>m b c
 |d::f,b,c=>by
  unfold WY at c;split at c
  ·rename_i n o
   obtain⟨p,c⟩:=c;exact⟨k,.inl ⟨n,_,o,run_takeDeferred p,py k m f _ (c _ kp)⟩⟩
  ·exact c.elim
def nN(j:fS)(k:List Nat)(l:h.follows .mixedOrders=true)(m:h.funcs[z]? =some a5)(n:a5.body=some a0)(o:r.size<=a5.ntmps)(p:vN a5.ntmps (lS a0)=true)(c:DR h j k true a0 (Vx h a5 t) (λ_=>undef) (fC 0 r.toList) [] b):Calls h z r b t:=by
 refine vq.1 (callsIn_of_wp_marks (F:=FW none) (n:=0) m n trivial (wpIn_mono (XU l a0 none true (Vx h a5 t) _ _ _ b (.inl rfl) (lM p) (by intro e f g w b a q;subst q;exact a.elim) (yK o []) c) ?_));rintro e s x ⟨f,g,u,_,a⟩;have i:∀b,(JW h a5.results.toList f g b λd=>t (.returned (oneOf d)) b)->LeavesIn (FW none) 0 h a5 s.tmps t [] .returning b:=λb c=>by
  obtain⟨d,v,c⟩:=r_ u c;exact⟨_,sd v,c⟩
 cases e with
 |normal=>exact py sM i _ _ a
 |ret=>exact py sM i _ _ a
 |panic y=>exact py sM (λb c=>c) _ _ a
 |exit id=>exact a.elim
 |goto d=>exact a.elim
 |outgrown=>exact a.elim
end Go.ax

import Derived.Test.YtfchlbaidamodaaGreatDoorKa17
import Derived.Test.YtfchlbaidamodaaGreatDoorYaCodeR
set_option linter.all false
set_option maxRecDepth 20000
namespace Go.Proofs.YtfchlbaidamodaaGreatDoor
open Go.ax
variable{U r:Array Value}{b3 u:List Int}{a3:List Value}{a:Nat}{f:Nat->Prop}{H:Nat×Nat}{d:Option Addr}{h:Program}{j:Type}{B g q:TypeId}{o t:Value->World->Prop}{b:World}{N n:ah}{A:aq}
theorem fh {c:kM j} {p n:Nat} {s:List j} {bytes:Nat} {x:j} (m:aV c g f b d p n s) (K:jP h q g c.k bytes)
  (O:b.heap[a]? =some (.cells r g H)) {D:Nat->Prop} (A:c.rep b D x r.toList) (u:∀e,D e->e<b.heap.size/\aI d≠some e) (i:(s.length+1)*bytes<=aQ) (P:s.length+1<=maxLen)
  (C:∀v l F w,aV c g w F v (p+1) l (s++[x])->aj (λI=>aI d=some I) b F->(∀e,w e->f e\/D e\/b.heap.size<=e)->o (.slice v (p+1) l) F):
  aH h (Builtin.append_ #[q,q] B #[.slice d p n,.slice (some ⟨a,0,none⟩) 1 1]) b o t:=by
 have L:=m.len K.pos;obtain⟨cs,Q,R,S,y⟩:=m.body;have V:=c.len A;refine AT K (news:=r.toList) R O (by rw [Qz oM]) oM (c.one A) (by rw [L];exact i) (by rw [L];exact P) λv T z M N E=>?_;have J:aj (λI=>aI d=some I) b z:=(N.mono λ_ _ m=>m.symm)
 let w:Nat->Prop:=λe=>f e\/D e\/(b.heap.size<=e/\e<z.heap.size)
 have W:b.heap.size<=z.heap.size:=N.size;refine C v T z w ⟨⟨_,λe=>Q e\/D e,M,bT.append ((S.keep J λe i=>(y e i).2).mono λe i=>.inl i) (bT.one (c.mono (c.keep A J λe i=>(u e i).2) λe i=>.inr i)),?_⟩,?_,?_⟩ J ?_
 ·intro e i
  have X:e<b.heap.size:=i.elim (λk=>m.aF e (y e k).1) λk=>(u e k).1;refine⟨i.elim (λk=>.inl (y e k).1) λk=>.inr (.inl k),?_⟩;rcases E with E|E
  ·rw [E];exact i.elim (λk=>(y e k).2) λk=>(u e k).2
  ·rw [E];intro U;cases U;omega
 ·intro e i
  rcases E with E|E
  ·exact .inl (m.self e (E▸i))
  ·have:=M.lt i
   rw [E]at i;cases i;exact .inr (.inr ⟨oM,this⟩)
 ·rintro e (i|i|i)
  ·have:=m.aF e i;omega
  ·have:=(u e i).1;omega
  ·exact i.2
 ·rintro e (i|i|i)
  ·exact .inl i
  ·exact .inr (.inl i)
  ·exact .inr (.inr i.1)
theorem ND {D k:Nat->Prop} (f:Row aP 8 b D d a u) (g:Row aP 8 b k d a b3):u=b3:=by
 have p:=f.len;have q:=g.len;apply List.ext_getElem oM;intro i l m;obtain⟨r,s,t,n,h,-,o⟩:=f.mh (i:=i) oM;obtain⟨v,w,x,c,j,-,e⟩:=g.mh (i:=i) oM;rw [n]at c;cases c
 rw [o]at e;cases e
 rw [Qq l]at h;rw [Qq m]at j;rw [XJ h,XJ j]
theorem _root_.Go.ax.fJ.Zn {g h k:Type} {i:h->k->Prop} {l:g} {m:h}:∀{j d:List (g×h)} {c:List (g×k)},fJ i (j++(l,m)::d) c->∃e b f,c=e++(l,b)::f/\i m b/\fJ i (j++d) (e++f)
 |[],d,(n,b)::c,a=>⟨[],b,c,by rw [a.1];rfl,a.2.1,a.2.2⟩
 |(r,s)::j,d,(n,o)::c,a=>by
  obtain⟨e,b,f,rfl,p,q⟩:=Go.ax.fJ.Zn a.2.2;exact⟨(n,o)::e,b,f,rfl,p,a.1,a.2.1,q⟩
section
def DQ (d:World) (D:Nat->Prop) (e:aq) (f:List Value) (a:ah):Prop:=∃b c g,f=[kK a b c g]/\Row aP 8 d D b c a.aK/\a.Ok/\a∈e.l
def sx {b c:Type} (d:b->c->Prop):List b->List c->Prop
 |[],[]=>True
 |a::e,f::g=>d a f/\sx d e g
 |_,_=>False
theorem sx.snoc {a b:Type} {c:a->b->Prop} {d:a} {e:b} (f:c d e):∀{g:List a} {h:List b},sx c g h->sx c (g++[d]) (h++[e])
 |[],[],_=>⟨f,trivial⟩
 |_::_,_::_,i=>⟨i.1,sx.snoc f i.2⟩
theorem sx.length {a b:Type} {e:a->b->Prop}:∀{c:List a} {d:List b},sx e c d->c.length=d.length
 |[],[],_=>rfl
 |_::_,_::_,f=>by simp [sx.length f.2]
theorem DQ.unique {D:Nat->Prop} (c:DQ b D A a3 n) (d:DQ b D A a3 N):n=N:=by
 obtain⟨g,h,i,rfl,e,-,-⟩:=c;obtain⟨j,k,l,a,f,-,-⟩:=d;simp only [aE,List.cons.injEq,Value.agg.injEq,Array.mk.injEq,Value.int.injEq,XX,and_true,true_and]at a;obtain⟨m,o,p,⟨rfl,rfl,rfl⟩,q,r,s,t,u,v⟩:=a;have:=ND e f
 cases n;cases N;simp_all
theorem sx.unique {b:World} {D:Nat->Prop} {c:aq}:∀{a:List (List Value)} {d e:List ah},sx (DQ b D c) a d->sx (DQ b D c) a e->d=e
 |[],[],[],_,_=>rfl
 |_::_,_::_,_::_,f,g=>by rw [f.1.unique g.1,sx.unique f.2 g.2]
variable {w w9 w1 A B:World} {p bo:Nat} {F:Nat->Prop} {S:aq} {q:Tf} {Pr:ah->Bool} {s:World×(Nat->Prop)} {pre:List (List Value)}
structure SJ (w9:World) (bo:Nat) (D:Nat->Prop) (S:aq) (Pr:ah->Bool) (s:World×(Nat->Prop)) (pre:List (List Value)) (A:World):Prop where
 keep:aj (·=bo) w9 A
 own:aj (et s.2) s.1 A
 out:∀b,s.2 b->b≠w9.heap.size/\b≠w9.heap.size+1/\b≠bo
 aF:∀b,s.2 b->b<A.heap.size
 d_:w9.heap.size+2<=A.heap.size
 pG:∃a n c G L,A.heap[bo]? =some (.cells #[.slice a n c] 50 (0,0))/\aV fZ 59 G A a n c (L.filter Pr)/\(∀b,G b->w9.heap.size+2<=b/\¬s.2 b)/\sx (DQ w9 D S) pre L/\L.length<=S.l.length
theorem SJ.af (b:SJ w9 bo q.D S Pr s pre A) (a:ai A B):SJ w9 bo q.D S Pr s pre B:=by
 obtain⟨c,d,e,f,g,h,i,j,G,k,l,m,n,o⟩:=b;exact⟨c.af a,d.af a,e,λp r=>Qk (f p r) a.size,Xx g a.size,h,i,j,G,k,a.get l id,m.af a,n,o⟩
theorem SJ.fr (u:bo<w9.heap.size) (d:SJ w9 bo q.D S Pr s pre A) (g:qV (w9.heap.size+1) A B):SJ w9 bo q.D S Pr s pre B:=by
 obtain⟨h,i,e,j,v,k,l,m,G,n,o,p,f,r⟩:=d;obtain⟨c,w⟩:=g;exact⟨h.new c λa b=>.inr oM,i.trans c (λ_ _ d=>d) λa _ b t=>(e a t).2.1 b,e,λa b=>by have:=j a b;omega,oM,k,l,m,G,n,c.get o oM,p.keep c λa b x=>by have:=(f a b).1;omega,f,r⟩
theorem SJ.re (a:SJ w9 bo q.D S Pr s pre A):SJ w9 bo q.D S Pr (A,s.2) pre A:=⟨a.keep,aj.refl _,a.out,a.aF,a.d_,a.pG⟩
theorem Th {R:World->Prop} (c1:bo<w9.heap.size) (hS:S.OK) (g:sw w9 p F S q) (w:∃e a3,w9.heap[a]? =some (.cells #[.map (some q.r)] e a3)) (x:a≠bo) (y:¬F bo)
  (z:∀A B,R A->aj (oF w9) A B->R B)
  (hy:∀s pre o A,SJ w9 bo q.D S Pr s pre A->R A->uw [kK sY none 0 0] o->(pre.length<S.l.length/\∃e,DQ w9 q.D S o e)->ks ZQ (w9.heap.size+1) o A λb C=>b=true/\SJ w9 bo q.D S Pr s (pre++[o]) C/\R C)
  (r:SJ w9 bo q.D S Pr (w9,no) [] w1) (a7:R w1):
  Calls ZQ 205 #[.func (.yield (w9.heap.size+1)) #[] #[],.pointer (some ⟨a,0,none⟩)] w1 (Ok λa4 h=>R h/\∃s m,SJ w9 bo q.D S Pr s m h/\∃t,sx (DQ w9 q.D S) m t/\t.Perm S.l):=by
 obtain⟨e2,f2,w⟩:=w;have c2:=g.map.lt;have a8:sw w1 p F S q:=g.keep r.keep λb c e=>y (e▸c);have hD:∀b,q.D b->b<w9.heap.size/\b≠bo:=λb c=>⟨g.aF b (g.sub b (.inr (.inr (.inr c)))),λe=>y (e▸g.sub b (.inr (.inr (.inr c))))⟩
 have c3:=r.d_;have c4:q.r≠bo:=λe=>y (e▸g.sub _ (.inr (.inl rfl)));refine dT ⟨_,ae (r.keep.get w x) rfl,mapRange Td a8.map λO b0 u s6=>?_⟩;obtain⟨j1,j2,j3,jd,j5,ja,jn,jc,G0,L0,j4,P,Q,j8⟩:=r;have b1:SJ w9 bo q.D S Pr (O,λb=>b=w1.heap.size\/b=q.r) [] O:=by
  refine⟨j1.af u,aj.refl _,λb c=>by rcases c with rfl|rfl<;>omega,λb c=>by rcases c with rfl|rfl<;>omega,oM,ja,jn,jc,G0,L0,u.get j4 id,P.af u,λb c=>⟨(Q b c).1,λe=>?_⟩,j8⟩;rcases e with rfl|rfl
  ·have:=P.aF _ c;omega
  ·have:=(Q _ c).1;omega
 refine⟨λT h=>∃pre left d l,T=left.length/\dj h w1.heap.size q.r GC q.l left/\fJ (US w9 q.D) left d/\sx (DQ w9 q.D S) pre l/\(l++d.map (·.2)).Perm S.l/\SJ w9 bo q.D S Pr (h,λb=>b=w1.heap.size\/b=q.r) pre h/\R h,
  ⟨_,[],q.l,q.L,[],rfl,b0,g.rel,trivial,by simpa using g.Yb,b1,z _ _ a7 (ai.keep u)⟩,?_⟩
 rintro T _ c5 ⟨pre,left,d,l,rfl,hr,U,E,H,V,W⟩;refine nX hr (λh0=>.inl ⟨rfl,?_⟩) (λc6 a4 l1 l2 I a6 a9 b2 v c7=>.inr ⟨_,_,rfl,?_⟩)
 ·subst h0
  obtain rfl:d=[]:=by
   have:=U.length;simp at this;exact QW this.symm
  exact Ok.mk ⟨W,_,pre,V,l,E,by simpa using H⟩
 subst a6;obtain⟨X,f,Y,rfl,⟨i,j,k,rfl,Z,a0⟩,b3⟩:=U.Zn;have a1:f∈S.l:=H.mem_iff.1 sM;have a2:((l++[f])++(X++Y).map (·.2)).Perm S.l:=by
  refine List.Perm.trans ?_ H;simp only [Q3,QY,XQ,List.singleton_append];exact List.Perm.append_left _ List.perm_middle.symm
 have b4:pre.length<S.l.length:=by
  have J:=a2.length_eq;have x:=E.length;simp at J;omega
 have b5:SJ w9 bo q.D S Pr (I,λb=>b=w1.heap.size\/b=q.r) pre I:=by
  obtain⟨J,x,h3,hd,h5,i,j,k,G,t,h4,h6,h7,h8⟩:=V;exact⟨J.new v λb c=>.inr oM,aj.refl _,h3,λb c=>by have:=hd b c;omega,oM,i,j,k,G,t,v.get h4 (λe=>(h3 _ (.inl rfl)).2.2 e.symm),h6.keep v λb c e=>(h7 b c).2 (.inl e),h7,h8⟩
 have b6:=z _ _ W (v.mono λb _ c=>(⟨oM,oM⟩:oF w9 b));refine ry b2 ⟨_,_,_,_,_,_,_,_,_,_,_,_,_,rfl,PA.mk λc8 K c9 b7=>aD (bg f i j k) b7 rfl λa5 L d0 b8=>aw (bg f i j k) b8 ⟨_,rfl,(hy _ pre _ a5 ((b5.af (K.new L λb c=>.inr oM)).re) ?_ ?_ ⟨b4,f,i,j,k,rfl,Z,a0,a1⟩).mono ?_⟩⟩
 ·exact z _ _ b6 (ai.keep (K.new L λb c=>.inr oM))
 ·exact λφ M=>M f.origin f.seq f.aA i j k f.bd f.agg f.field f.op f.arg f.key
 ·rintro _ C ⟨rfl,n,b9⟩
  have c0:ai I a5:=K.new L λb c=>.inr oM;refine al.ff rfl ⟨_,?_,pre++[_],l1++l2,X++Y,l++[f],rfl,(a9.af c0).keep n.own (λN=>N (.inl rfl)) (λN=>N (.inr rfl)),b3,E.snoc ⟨i,j,k,rfl,Z,a0,a1⟩,a2,n.re,b9⟩;simp
theorem DS (e:cV w p F S) (hl:S.l.length<=20000000) (hg:enters ZQ a=true)
  (hp:∀d k z N D w1,ai w w1->Row aP 8 w1 D k z d.aK->d.Ok->d∈S.l->Calls ZQ a (r++ #[kK d k z N]++U) w1 (Ok λC E=>C= .bool (Pr d)/\ai w1 E)):
  Calls ZQ 80 #[.pointer (some ⟨p,0,none⟩),.func (.func a) r U] w (Ok (qD fZ 59 w (S.l.filter Pr))):=by
 have fz:=e;obtain⟨X,q,e⟩:=e;refine wo (PA.mk λl k3 s3 g3=>PA.mk λO k4 s4 g4=>?_);have b4:=k3.then k4;have c7:=e.af b4;refine⟨p,0,rfl,_,ae c7.at' rfl,PC.ok (φ:=λC E=>C= .func (.func 205) #[] #[.pointer (some ⟨O.heap.size,0,none⟩)]/\(∃d c8,E.heap[O.heap.size]? =some (.cells #[.map (some q.r)] d c8))/\ai O E/\E.heap.size=O.heap.size+1)
  (eu (PA.mk λw5 H s5 g5=>Ok.mk ⟨rfl,⟨_,_,g5⟩,H,s5⟩)) ?_⟩
 rintro _ w9 ⟨rfl,c9,Y,s9⟩;have Z:=b4.then Y;have b5:=e.af Z;have hw:=e.aF;have b6:=aC e.at';have d0:=Y.get (k4.get g3 id) id;have d1:=Y.get g4 id;have b7:¬F l.heap.size:=λhf=>by have:=hw _ hf;omega
 have a0:l.heap.size<w9.heap.size:=oM
 refine⟨_,rfl,205,_,rfl,kR,World×(Nat->Prop),(w9,no),SJ w9 l.heap.size q.D S Pr,λ_ _ _=>False,
  λpre vs=>pre.length<S.l.length/\∃d,DQ w9 q.D S vs d,λh=>∃f,sx (DQ w9 q.D S) h f/\f.Perm S.l,?_,λs pre A B m i=>m.fr a0 i,λ_ _ _ _ e _=>e,?_,?_,?_,trivial⟩
 ·intro w6 k6 s6
  exact⟨ai.keep k6,ai.keep k6,λc b=>b.elim,λc b=>b.elim,oM,none,0,0,λ_=>False,[],k6.get d1 id,aV.nil _,λc b=>b.elim,trivial,Qj _⟩
 ·rintro s pre A m f8 t1 t2 t3 t tn u t4 t5 t6 t7 t8 t9 ⟨f9,d,k,z,N,he,hr,P,a1⟩
  simp only [aE,List.cons.injEq,Value.agg.injEq,Array.mk.injEq,Value.int.injEq,XX,and_true,true_and]at he;obtain⟨rfl,rfl,rfl,⟨rfl,rfl,rfl⟩,rfl,rfl,rfl,rfl,rfl,rfl⟩:=he;refine PA.mk λg0 d2 g1 d3=>aD (bg d t tn u) d3 rfl λd4 d5 g2 d6=>?_;have k2:ai A d4:=d2.new d5 λc b=>.inr oM;refine⟨ai.keep k2,λb8 i=>?_⟩;have I:=(m.af k2).fr a0 i;have b9:=i.1.get d6 oM;have g6:=i.2;have c0:∀c,q.D c->c<w9.heap.size/\c≠l.heap.size:=λc b=>⟨b5.aF c (e.sub c (.inr (.inr (.inr b)))),λd=>b7 (d▸e.sub c (.inr (.inr (.inr b))))⟩
  have c1:=hr.keep I.keep λc b=>(c0 c b).2;have d7:ai w b8:=Z.new I.keep λc b=>.inr oM;refine⟨_,ae (I.keep.get d0 oM) rfl,aw (bg d t tn u) b9 ⟨a,r,U,rfl,hg,PC.ok (hp d t tn u _ b8 d7 c1 P a1) ?_⟩⟩;rintro _ d8 ⟨rfl,a2⟩;refine⟨_,rfl,al.mk (λi=>λc2 d9=>?_) (λhf=>?_)⟩
  ·have e0:ai d8 c2:=d9.keep
   have Q:=a2.then e0;have e1:=I.af Q;obtain⟨J,R,K,v,h5,T,ln,lc,G,f,n,j,g,o,h9⟩:=e1;have e2:=c1.af Q;have b6:=o.length;refine⟨no,id,_,_,_,ae n rfl,aw (bg d t tn u) (Q.get b9 id) (PC.ok (nh e2 λc b=>by have:=(c0 c b).1;omega) ?_)⟩;rintro _ g7 ⟨e3,cn,cc,G2,rfl,e4,V,a3⟩;have g8:=a3.size;refine⟨_,_,_,_,_,_,_,_,_,_,_,_,rfl,ai.keep a3,PA.mk λg9 a4 h0 e5=>⟨ai.keep a4,?_⟩⟩;have kk:=a3.then a4;refine fh (c:=fZ) (j.af kk) Eg e5 (D:=G2) (x:=d) ⟨e3,cn,cc,rfl,e4.af a4,P⟩ (λc b=>⟨by have:=V c b;omega,λd=>by have:=V c b;have:=j.aF _ (j.self _ d);omega⟩) ?_ ?_ λa' L h1 F' e6 a5 c3=>⟨_,_,_,rfl,?_⟩
   ·have:=List.length_filter_le Pr f;unfold aQ;omega
   ·have:=List.length_filter_le Pr f;unfold maxLen;omega
   have W:=j.self;have a6:¬aI T=some l.heap.size:=λd=>by have:=(g _ (W _ d)).1;omega
   have e7:=a5.get (kk.get n id) a6;refine PS.mk e7 sM λe8 c4 h2 e9=>?_;have H:aj (λc=>aI T=some c\/c=l.heap.size) c2 e8:=((ai.keep kk).then (a5.mono λc _ b=>.inl b)).then (c4.mono λc _ b=>.inr b);have h3:=a5.size;refine⟨(ai.keep Q).trans H (λ_ _ e=>e) λc _ b=>?_,?_⟩
   ·rcases b with b|rfl
    ·have:=(g _ (W _ b)).1;exact⟨oM,oM⟩
    ·exact⟨oM,oM⟩
   refine⟨J.new H ?_,R.trans H (λ_ _ e=>e) λc _ b y=>?_,K,λc b=>by have:=v c b;omega,oM,a',ln+1,L,F',f++[d],?_,?_,?_,o.snoc ⟨t,tn,u,rfl,hr,P,a1⟩,?_⟩
   ·rintro c (b|b)
    ·exact .inr (by have:=(g _ (W _ b)).1;omega)
    ·exact .inl b
   ·rcases b with b|b
    ·exact(g _ (W _ b)).2 y
    ·exact(K c y).2.2 b
   ·rw [e9];rfl
   ·have a7:(f++[d]).filter Pr=f.filter Pr++[d]:=by rw [List.filter_append];simp [i]
    rw [a7];refine e6.keep c4 λc b d=>?_;rcases c3 c b with b|b|b
    ·have:=(g c b).1;omega
    ·have:=V c b;omega
    ·omega
   ·intro c b
    rcases c3 c b with b|b|b
    ·exact g c b
    ·have:=V c b;exact⟨oM,λy=>by have:=v c y;omega⟩
    ·exact⟨oM,λy=>by have:=v c y;omega⟩
   ·simp;omega
  ·refine⟨ai.keep a2,?_⟩
   obtain⟨J,R,K,v,h5,T,ln,lc,G,f,n,j,g,o,h9⟩:=I.af a2;have b6:=o.length;refine⟨J,R,K,v,h5,T,ln,lc,G,f++[d],n,?_,g,o.snoc ⟨t,tn,u,rfl,hr,P,a1⟩,by simp;omega⟩;have a7:(f++[d]).filter Pr=f.filter Pr:=by rw [List.filter_append];simp [hf]
   rw [a7];exact j
 ·intro f0 Rx hR _ h4 hy w6 f1 f2
  refine Calls.mono (Th (R:=f0) a0 X b5 c9 oM b7 hR (λs pre vs A m f3 i hN=>(hy s pre vs A m f3 i hN).mono ?_) f1 f2) ?_
  ·rintro c A' (e|⟨-,x,e,-⟩)
   ·exact e
   ·exact e.elim
  ·rintro _ A' ⟨C,rfl,f4,s,h,a8,hT⟩
   exact⟨⟨C,rfl⟩,.inl ⟨f4,s,h,a8,hT⟩⟩
 ·rintro s h A m ⟨L',f5,f6⟩ hm
  obtain⟨J,R,K,v,h5,k,z,N,G,f,n,j,g,o,h9⟩:=m;obtain rfl:=sx.unique o f5;have a9:(f.filter Pr).Perm (S.l.filter Pr):=f6.filter _;refine⟨_,_,_,ae n rfl,PC.ok (KS j (by rw [a9.length_eq];exact Xx (List.length_filter_le ..) hl)) ?_⟩;rintro _ h6 ⟨rfl,l',M,b0,b1,b2⟩;have b3:=j.self;have a6:¬aI k=some l.heap.size:=λd=>by have:=(g _ (b3 _ d)).1;omega
  have f7:¬aI k=some w9.heap.size:=λd=>by have:=(g _ (b3 _ d)).1;omega
  refine⟨rfl,_,_,_,ae (b2.get n a6) rfl,b2.get hm f7,λi0 ⟨c5,i1⟩=>Ok.mk ?_⟩;have c6:=List.filter_sublist (p:=Pr) (l:=S.l);obtain rfl:l'=S.l.filter Pr:=NF b0 (X.Rz.sublist c6) (M.trans a9) (((M.trans a9).map aO).nodup_iff.2 (X.ids.sublist (c6.map _)));refine⟨k,z,N,G,rfl,b1.keep c5 λc b d=>by have:=(g c b).1;omega,?_,λc b=>by have:=(g c b).1;omega⟩;exact((Z.new J λc b=>.inr oM).new b2 λc b=>.inr (by have:=(g c (b3 c b)).1;omega)).new c5 λc b=>.inr oM
end
end Go.Proofs.YtfchlbaidamodaaGreatDoor
namespace Go.ax
variable{u:List Int}{a:Nat}{f:Nat->Prop}{d:Option Addr}{j:Type}{g:TypeId}{b:World}
theorem Row.uv {D:Nat->Prop} (c:Row aP 8 b D d a u):Ints b d a u:=by
 have o:=c.len;refine⟨o,c.d_,λj p=>?_,λi j e=>?_⟩
 ·obtain⟨i,e,rfl⟩:=List.getElem_of_mem p
  obtain⟨k,l,q,h,f,m,n⟩:=c.mh (i:=i) oM;rw [Qq e]at f;rw [XJ f];exact m
 ·have s:=(Qv.1 e).1
  obtain⟨k,l,t,h,r,v,w,x⟩:=c.el i j e;obtain⟨y,z,q,g,f,m,n⟩:=c.mh (i:=i) oM;rw [e]at f;rw [h]at g;cases g
  exact⟨k,l,h,r,by rw [n,XJ f]⟩
theorem Own.take {d:World} {e:TypeId} {k:Nat} {f:Option Addr} {b g m:Nat} {cs:List Value} (h:Own d e k f b g cs) (i:m<=b):Own d e k f m g (cs.take (m*k)):=by
 have j:=h.length;have l:m*k<=b*k:=Q0 _ i;refine⟨⟨by rw [Qy,j];omega,?_⟩⟩;rcases h.row.2 with⟨a,rfl⟩|⟨n,o,c,a,p,q,u,r,s,t⟩
 ·obtain rfl:m=0:=oM
  exact .inl ⟨a,rfl⟩
 ·simp only [XX]at a
  refine .inr ⟨n,o,c,by rw [a.1,a.2.2],p,q,oM,r,s,?_⟩;rw [<-t,List.take_take,X2 l]
theorem aV.take {e:kM j} {h a m:Nat} {i:List j} (c:aV e g f b d h a i) (k:m<=h):aV e g f b d m a (i.take m):=by
 obtain⟨cs,D,l,n,o⟩:=c.body;exact⟨⟨_,D,l.take k,n.take m,o⟩,c.self,c.aF⟩
end Go.ax
namespace Go.Proofs.YtfchlbaidamodaaGreatDoor
open Go.ax
variable{e:Int}{u:List Int}{a c:Nat}{d:Option Addr}
section
variable {w w' w1:World} {p:Nat} {F T:Nat->Prop} {S:aq} {q:Tf}
theorem sD (e:cV w p F S) (a:S.l.length<=20000000):Calls ZQ 41 #[.pointer (some ⟨p,0,none⟩)] w (Ok (qD fZ 59 w S.l)):=by
 refine xS (PC.ok (DS e a (Pr:=λ_=>true) kR λi b c d D w1 j k l m=>?_) ?_)
 ·exact uI (PA.mk λn f o q=>Ok.mk ⟨rfl,f⟩)
 ·rintro _ r ⟨b,c,d,G,rfl,a,g,h⟩
  rw [List.filter_eq_self.2 sM]at a;exact⟨_,_,_,rfl,Ok.mk ⟨b,c,d,G,rfl,a,g,h⟩⟩
theorem zN (q:cV w p F S) (r:S.l.length<=20000000) {D:Nat->Prop} (s:Row aP 8 w D d a u) :
  Calls ZQ 55 #[.pointer (some ⟨p,0,none⟩),.slice d a c,QH e] w (Ok (qD fZ 59 w (S.missing u e))):=by
 refine qw (PA.mk λw1 i H t=>PC.ok (DS (q.af i) r (Pr:=λb=>decide (max 0 (fH u b.origin)<b.seq)) kR λb k g l I J v K L M=>?_) ?_)
 ·refine nK (PA.mk λm n N h=>λx y=>⟨no,id,?_⟩)
  have j:ai m x:=y.keep;have h:=j.get h id;have o:=v.then (n.then j);refine⟨_,ae h rfl,_,_,_,ae (o.get t id) rfl,_,ae h rfl,PC.ok (oD (s.uv.af (i.then o))) ?_⟩;rintro _ _ ⟨rfl,rfl⟩;refine⟨_,rfl,aj.refl _,Ok.mk ⟨?_,n.then j⟩⟩
  congr 1
  rw [decide_eq_decide];split<;>omega
 ·rintro _ m ⟨k,g,l,G,rfl,f,z,A⟩
  have O:=f.len dC;have P:=f.jx;have B:(if e>0 then e else 0)=max 0 e:=by split<;>omega
  refine⟨_,_,_,rfl,?_⟩;rw [B];refine⟨by split<;>omega,by split<;>omega,Ok.mk ⟨k,_,l,G,rfl,?_,i.then z,λC E=>by have:=A C E;omega⟩⟩;have:=f.take (m:=Int.toNat (if max 0 e<(g:Int)then max 0 e else(g:Int))) (by split<;>omega);unfold aq.missing;have b:(List.filter (λb=>decide (max 0 (fH u b.origin)<b.seq)) S.l).take (Int.toNat (if max 0 e<(g:Int)then max 0 e else(g:Int)))=(List.filter (λb=>decide (max 0 (fH u b.origin)<b.seq)) S.l).take (max 0 e).toNat:=by
   split
   ·rfl
   ·rw [Qz oM,Qz oM]
  rw [<-b];exact this
theorem zQ {b:Type} (p:b->Bool):∀a:List b,a.find? p=(a.filter p).head?
 |[]=>rfl
 |x::a=>by
  rw [List.find?_cons,List.filter_cons]
  cases p x
  ·exact zQ p a
  ·rfl
theorem QM (H:cV w p F S) (s:S.l.length<=20000000) {key:Int}:
  Calls ZQ 83 #[.pointer (some ⟨p,0,none⟩),QH key] w (Ok λI w'=>∃t u J G,I= .tuple #[kK ((S.keyed key).getD sY) t u J,.bool (S.keyed key).isSome]/\Row aP 8 w' G t u ((S.keyed key).getD sY).aK/\(∀a,G a->w.heap.size<=a/\a<w'.heap.size)/\ai w w'):=by
 refine tF (PA.mk λw1 n s1 v=>PA.mk λw2 k s2 K=>PC.ok (DS ((H.af n).af k) s (Pr:=λb=>key !=0&&b.key==key) kR λb L M N D' O P hr x hm=>?_) ?_)
 ·refine qm (PA.mk λy e z g=>?_)
  have A:=(k.then P).then e;refine⟨_,ae (A.get v id) rfl,al.dw (λQ=>⟨_,ae g rfl,_,ae (A.get v id) rfl,Ok.mk ⟨?_,e⟩⟩) (λx=>Ok.mk ⟨?_,e⟩)⟩
  ·rw [show(key !=0)=true by simpa using Q];rfl
  ·rw [x];rfl
 ·rintro _ O ⟨L,M,N,G,rfl,c,o,B⟩
  have l:=c.len dC;have C:=o.get K id;have E:S.keyed key=(S.l.filter λb=>key !=0&&b.key==key).head? :=zQ _ _;refine⟨_,_,_,rfl,al.dX (λR=>?_) (λR=>?_)⟩
  ·have:(S.l.filter λb=>key !=0&&b.key==key)=[]:=QW oM
   rw [E,this];refine aD (bg sY none 0 0) C rfl λy e z g=>aw (bg sY none 0 0) g (Ok.mk ⟨none,0,0,λ_=>False,rfl,Row.nil _ _,λa d=>d.elim,((n.then k).then o).new e λa d=>.inr oM⟩)
  ·cases m:S.l.filter λb=>key !=0&&b.key==key with
   |nil=>rw [m]at l;simp at l;omega
   |cons f T=>
    rw [m]at c l;have a0:(f::T).length<=20000000:=by rw [<-m];exact Xx (List.length_filter_le ..) s
    have U:=c.row (bytes:=96) dC (by unfold aQ;omega);obtain⟨a,q,es,V,d,a1,W,h,i,j,rfl,X,a3⟩:=U.el 0 f rfl;rw [E,m];refine⟨a,q,V,oM,by simp at l;omega,?_⟩;have Y:q+Int.toNat 0*10=q:=rfl;rw [Y];refine br (es:=aE f h i j) (k:=10) (bg f h i j) rfl (λZ r=>?_) (aD (bg f h i j) C rfl λy e z g=>aw (bg f h i j) g (Ok.mk ⟨h,i,j,G,rfl,?_,?_,?_⟩))
    ·have:=W Z r
     simpa using this
    ·exact X.keep e λa d b=>by have:=B a d;omega
    ·intro a d;have:=B a d;have:=c.aF a d;omega
    ·exact((n.then k).then o).new e λa d=>.inr oM
end
end Go.Proofs.YtfchlbaidamodaaGreatDoor
namespace Go.Proofs.YtfchlbaidamodaaGreatDoor
open Go.ax
variable{e m:Int}{u:List Int}{a c:Nat}{d:Option Addr}{j:Type}
theorem VD (d:a+c<4611686018427387904):IntKind.wrap .i64 (iA .u64 (IntKind.wrap .u64 (IntKind.wrap .i64 ((a:Int)+(c:Int)))) 1)=(((a+c)/2:Nat):Int):=by
 rw [wrap_i64 (x:=(a:Int)+c) (by unfold aN;omega)];have b:IntKind.wrap .u64 ((a:Int)+(c:Int))=((a+c:Nat):Int):=by
  unfold IntKind.wrap;simp [IntKind.signed,IntKind.bits];omega
 rw [b,show(1:Int)=((1:Nat):Int)from rfl,O_ dC,wrap_i64 (by unfold aN;omega)]
def posOf {a:Type} (b:a->Bool) (c:List a):Nat:=(c.takeWhile b).length
theorem Bp (a:j->Bool) (b:List j):posOf a b<=b.length:=(List.takeWhile_sublist a).length_le
theorem Bq {e:Type} {p:e->Bool}:∀{l:List e} {i:Nat},i<=l.length->(∀a x,a<i->l[a]? =some x->p x=true)->(∀x,l[i]? =some x->p x=false)->posOf p l=i
 |[],i,b,_,_=>by simp at b;subst b;rfl
 |x::l,0,_,_,g=>by
  have:=g x rfl;simp [posOf,this]
 |x::l,i+1,b,f,h=>by
  have j:=f 0 x oM rfl;have:=Bq (p:=p) (l:=l) (i:=i) (by simpa using b) (λa c k d=>f (a+1) c oM (by simpa using d)) (λc d=>h c (by simpa using d));unfold posOf at this⊢;rw [List.takeWhile_cons,j];simp [this]
section
variable {w w':World} {D:Nat->Prop}
theorem VE {w:World}:Calls ZQ 312 #[QH e] w (Ok λa w'=>a= .bool false/\w=w'):=um (Ok.mk ⟨sM,rfl⟩)
theorem Rv {w:World}:Calls ZQ 311 #[QH e,QH m] w (Ok λa w'=>a= .bool (decide (e<m))/\w=w'):=by
 refine Br (PC.ok isNaN ?_);rintro _ _ ⟨rfl,rfl⟩;exact⟨_,rfl,al.ff rfl (Ok.mk ⟨rfl,rfl⟩)⟩
abbrev xG (a:List Int):Prop:=a.Pairwise (·<·)
theorem uo (t:Row aP 8 w D d a u) (H:xG u):
  Calls ZQ 279 #[.slice d a c,QH e] w (Ok λI w'=>I= .tuple #[QH (posOf (λb=>decide (b<e)) u:Nat),.bool (decide (e∈u))]/\w=w'):=by
 have O:=t.len;have J:=t.d_;unfold aQ at J;have A:∀{i l:Nat} {b n:Int},u[i]? =some b->u[l]? =some n->i<=l->b<=n:=λ{i l b n} j o P=>by
  obtain⟨p,rfl⟩:=Qv.1 j;obtain⟨q,rfl⟩:=Qv.1 o;rcases Nat.lt_or_ge i l with h|h
  ·exact Int.le_of_lt (List.pairwise_iff_getElem.1 H i l p q h)
  ·obtain rfl:i=l:=oM
   exact Int.le_refl _
 refine jy ⟨λF i l w'=>∃f k:Nat,i=f/\l=k/\F=k-f/\f<=k/\k<=a/\(∀g b,g<f->u[g]? =some b->b<e)/\(∀g b,k<=g->u[g]? =some b->e<=b)/\w=w',
  ⟨_,0,a,rfl,rfl,rfl,oM,oM,λg b m=>oM,λg b m j=>by have:=(Qv.1 j).1;omega,rfl⟩,?_⟩
 rintro F _ _ _ _ ⟨f,k,rfl,rfl,rfl,Q,K,p,q,rfl⟩;refine al.dec (λR=>?_) (λS=>?_)
 ·rw [VD oM]
  obtain⟨v,x,b,y,j,-,z⟩:=t.mh (i:=(f+k)/2) oM;refine⟨v,x,y,oM,oM,b,by rw [Qx];exact z,PC.ok Rv ?_⟩;rintro _ _ ⟨rfl,rfl⟩;refine⟨_,rfl,al.dec (λL=>⟨_,?_,(f+k)/2+1,k,an oM,rfl,rfl,oM,K,λg n m o=>?_,q,rfl⟩) (λL=>⟨_,?_,f,(f+k)/2,rfl,rfl,rfl,oM,oM,p,λg n m o=>?_,rfl⟩)⟩
  ·omega
  ·have:=A o j oM;omega
  ·omega
  ·have:=A j o m;omega
 ·obtain rfl:f=k:=oM
  have M:posOf (λb=>decide (b<e)) u=f:=Bq oM (λg b m j=>by simpa using p g b m j) (λb j=>by have:=q f b (Q4 _) j;simp;omega);rw [M];have B:e∈u↔u[f]? =some e:=by
   constructor
   ·intro r
    obtain⟨g,m,rfl⟩:=List.getElem_of_mem r;have s:u[g]? =some u[g]:=Qq m;rcases Nat.lt_or_ge g f with h|h
    ·have:=p g _ h s;omega
    ·have C:f<u.length:=oM
     have T:=q f _ (Q4 _) (Qq C);have U:=A (Qq C) s h;rw [Qq C];congr 1;omega
   ·exact QZ
  refine al.dec (λN=>?_) (λN=>?_)
  ·obtain⟨v,x,b,y,j,-,z⟩:=t.mh (i:=f) oM
   refine⟨v,x,y,oM,oM,b,z,al.dX (λE=>Ok.mk ⟨?_,rfl⟩) (λE=>⟨v,x,y,oM,oM,b,z,PC.ok VE ?_⟩)⟩
   ·rw [decide_eq_true (B.2 (E▸j))]
   ·rintro _ _ ⟨rfl,rfl⟩
    refine⟨_,rfl,al.ff rfl (Ok.mk ⟨?_,rfl⟩)⟩;rw [Xv];intro r;have:=B.1 r;rw [j]at this;exact E (XJ this)
  ·refine Ok.mk ⟨?_,rfl⟩
   rw [Xv];intro r;have:=(Qv.1 (B.1 r)).1;omega
end
theorem IT {b:Int}:∀{a:List Int},xG a->b∉a->qN b a=a.take (posOf (λy=>decide (y<b)) a)++b::a.drop (posOf (λy=>decide (y<b)) a)
 |[],_,_=>rfl
 |y::a,e,c=>by
  obtain⟨g,f⟩:=List.pairwise_cons.1 e;simp only [Q2,not_or]at c;unfold qN posOf
  by_cases d:b<y
  ·rw [if_pos d,List.takeWhile_cons,Xv oM];rfl
  ·rw [if_neg d,if_neg c.1,List.takeWhile_cons,decide_eq_true (show y<b by omega),IT f c.2];rfl
theorem vF {c:Int}:∀{a:List Int},c∈a->xG a->qN c a=a
 |y::a,b,d=>by
  obtain⟨e,f⟩:=List.pairwise_cons.1 d;unfold qN;rcases Q2.1 b with rfl|b
  ·rw [if_neg oM,if_pos rfl]
  ·have:=e c b
   rw [if_neg oM,if_neg oM,vF b f]
theorem IU {c a:Int}:∀{b:List Int},a∈qN c b↔a=c\/a∈b
 |[]=>by simp [qN]
 |y::b=>by
  unfold qN;split
  ·simp
  ·split
   ·rename_i h;subst h;simp
   ·simp only [Q2,IU]
    constructor
    ·rintro(h|h|h)<;>simp [h]
    ·rintro(h|h|h)<;>simp [h]
theorem Fu {f:Int}:∀{b:List Int},xG b->xG (qN f b)
 |[],_=>List.pairwise_singleton ..
 |y::b,c=>by
  obtain⟨e,g⟩:=List.pairwise_cons.1 c;unfold qN;split
  ·rename_i h
   exact List.pairwise_cons.2 ⟨λd a=>by
    rcases Q2.1 a with rfl|a
    ·exact h
    ·have:=e d a;omega,c⟩
  ·split
   ·exact c
   ·refine List.pairwise_cons.2 ⟨λd a=>?_,Fu g⟩
    rcases IU.1 a with rfl|a
    ·omega
    ·exact e d a
theorem NR {b:Int}:∀{a:List Int},xG a->b∈a->(a.filter λy=>y !=b)=a.eraseIdx (posOf (λy=>decide (y<b)) a)/\posOf (λy=>decide (y<b)) a<a.length
 |y::a,g,d=>by
  obtain⟨f,h⟩:=List.pairwise_cons.1 g;rcases Q2.1 d with rfl|d
  ·have e:posOf (λy=>decide (y<b)) (b::a)=0:=by simp [posOf]
   rw [e];refine⟨?_,sM⟩;rw [List.filter_cons_of_neg sM,List.eraseIdx_zero,List.tail_cons];refine List.filter_eq_self.2 λc i=>?_;have:=f c i;simp;omega
  ·have j:=f b d
   obtain⟨k,l⟩:=NR h d;have e:posOf (λc=>decide (c<b)) (y::a)=posOf (λc=>decide (c<b)) a+1:=by simp [posOf,j]
   rw [e,List.filter_cons_of_pos (by simp;omega),List.eraseIdx_cons_succ,k];exact⟨rfl,by simp;exact l⟩
theorem IV (a:e∉u):(u.filter λb=>b !=e)=u:=List.filter_eq_self.2 λd c=>by
 simp only [bne_iff_ne,ne_eq];rintro rfl;exact a c
end Go.Proofs.YtfchlbaidamodaaGreatDoor
namespace Go.ax
open Go
variable{s:Ending->World->Prop}{E a c i l:Nat}{f:Nat->Prop}{Q W:Operand}{d p:Option Addr}{j:Type}{g q:TypeId}{o t:Value->World->Prop}{b:World}{y:World->Prop}
theorem By {m:Program} {k bytes:Nat} {i:j->List Value} {n:j->Prop} {hl hone} (u:jP m g q k bytes) (I:0<bytes) {l:List j} {D:Nat->Prop} (h:Row (flat k i n hl hone) bytes b D d a l) (v:∀e,D e->e<b.heap.size)
  (w:∀x y,qD (flat k i n hl hone) q b l x y->s (.returned x) y):
  aH m (do eqGuard .eql g Q W (.slice d a c) (.slice none 0 0);binOp .eql g (.slice d a c) (.slice none 0 0)) b (λJ p=>∃(z:Bool),J= .bool z/\al z (s (.returned (.slice none 0 0)) p) (PA p (.cells #[] q) λK=>
   aH m (Builtin.append_ #[g,g] g #[.slice (some ⟨p.heap.size,0,none⟩) 0 0,.slice d a c]) K (λL M=>∃(A:Option Addr) (B:Nat) (C:Nat),L= .slice A B C/\s (.returned (.slice A B C)) M) o)) t:=by
 have E:=h.len;have f:=h.d_;refine kZ u.under ⟨_,rfl,al.mk (λr=>?_) (λr=>PA.mk λN F a0 O=>?_)⟩
 ·have:l=[]:=by
   cases d with
   |none=>
    cases l with
    |nil=>rfl
    |cons Q a1=>obtain⟨e,P,es,R,_⟩:=h.el 0 Q rfl;cases R
   |some S=>cases r
  subst this;exact w _ _ ⟨none,0,0,λ_=>False,rfl,aV.nil b,aj.refl _,λ_ h=>h.elim⟩
 ·cases d with
  |none=>cases r
  |some S=>
   have T:aV (flat k i n hl hone) q (·=b.heap.size) N (some ⟨b.heap.size,0,none⟩) 0 0 []:=
    ⟨⟨[],λ_=>False,Own.xF (cur:= #[]) O sM (Qj _),rfl,λ_ h=>h.elim⟩,λe f=>by simpa [aI]using f.symm,λe f=>oM⟩
   have U:a<=maxLen:=by
    unfold aQ at f;unfold maxLen;have:a*1<=a*bytes:=Nat.mul_le_mul_left _ I;omega
   refine lH T u (D:=D) (h.af F) (λe f=>⟨by have:=v e f;omega,by have:=v e f;simp only [aI];intro q;cases q;omega⟩) (by rw [List.length_nil,Xz,<-E];exact f) (by rw [List.length_nil,Xz,<-E];exact U) λH V w2 F' X Y _ Z=>?_;refine⟨_,_,_,rfl,w _ _ ⟨H,_,V,λe=>aI H=some e,rfl,by have h:=X.alone;rw [List.nil_append]at h;exact h,F.new Y λe f=>.inr ?_,λe f=>?_⟩⟩
   ·simp only [aI,Q1]at f;omega
   ·rcases Z e f with h|h<;>omega
structure Bx (α:Type) where
 x:α
 a:Option Addr
 n:Nat
 c:Nat
structure fv (α β:Type) where
 k:Nat
 ci:kM β
 ib:Nat
 inner:α->List β
 hd:α->Option Addr->Nat->Nat->List Value
 ok:α->Prop
 hl:∀x a n c,(hd x a n c).length=k
 h1:∀x a n c,∀u∈hd x a n c,u.oneCell'=true
 o:Nat
 ho:o<k
 fz:∀x a n c a' n' c',(hd x a n c).set o (.slice a' n' c')=hd x a' n' c'
section
variable {α β:Type} (N:fv α β)
def fv.k_:kM (Bx α):=flat N.k (λa=>N.hd a.x a.a a.n a.c) (λ_=>True) (λa=>N.hl ..) (λa=>N.h1 a.x a.a a.n a.c)
def fv.Pe:kM α where
 k:=N.k
 rep:=λj D e cs=>∃a b c,cs=N.hd e a b c/\Row N.ci N.ib j D a b (N.inner e)/\N.ok e
 keep:=λ⟨a,b,c,d,f,g⟩ k h=>⟨a,b,c,d,f.keep k h,g⟩
 mono:=λ⟨a,b,c,d,f,g⟩ h=>⟨a,b,c,d,f.mono h,g⟩
 len:=λ⟨a,b,c,d,_,_⟩=>by rw [d];exact N.hl ..
 one:=λ⟨a,b,c,d,_,_⟩ l i=>by rw [d]at i;exact N.h1 _ _ _ _ l i
variable {N} {w w':World} {D:Nat->Prop}
def fv.In (N:fv α β) (w:World) (D:Nat->Prop) (a:Bx α):Prop:=Row N.ci N.ib w D a.a a.n (N.inner a.x)/\N.ok a.x
theorem fv.In.keep {S:Nat->Prop} {a:Bx α} (b:N.In w D a) (c:aj S w w') (d:∀a,D a->¬S a):N.In w' D a:=⟨b.1.keep c d,b.2⟩
theorem fv.In.mono {a:Bx α} (b:N.In w D a) (c:∀a,D a->f a):N.In w f a:=⟨b.1.mono c,b.2⟩
theorem fv.bl:∀{b:List α} {cs:List Value},bT N.Pe w D b cs->∃a:List (Bx α),a.map (·.x)=b/\bT N.k_ w D a cs/\∀c∈a,N.In w D c
 |[],_,e=>⟨[],rfl,e,sM⟩
 |x::b,_,⟨f,g,h,⟨i,j,k,l,m,n⟩,o⟩=>by
  obtain⟨a,p,q,r⟩:=fv.bl o;refine⟨⟨x,i,j,k⟩::a,by simp [p],⟨f,g,h,⟨l,trivial⟩,q⟩,λc d=>?_⟩;rcases Q2.1 d with rfl|d
  ·exact⟨m,n⟩
  ·exact r c d
theorem fv.SM {d:Nat->Prop}:∀{a:List (Bx α)} {cs:List Value},bT N.k_ w d a cs->(∀b∈a,N.In w D b)->bT N.Pe w D (a.map (·.x)) cs
 |[],_,e,_=>e
 |b::a,_,⟨f,g,h,⟨i,_⟩,j⟩,c=>⟨f,g,h,⟨b.a,b.n,b.c,i,c b (QV ..)⟩,fv.SM j λk l=>c k (QJ _ l)⟩
theorem fv.boxes {bytes:Nat} {e:List α} (f:Row N.Pe bytes w D d a e):∃b:List (Bx α),b.map (·.x)=e/\Row N.k_ bytes w D d a b/\∀j∈b,N.In w D j:=by
 obtain⟨cs,o,p⟩:=f.bl;obtain⟨b,k,q,r⟩:=fv.bl o;have g:b.length=e.length:=by rw [<-k];simp
 have s:0<N.Pe.k:=Nat.lt_of_le_of_lt (Qj _) N.ho;refine⟨b,k,⟨by rw [g];exact f.len,f.d_,λC j h=>?_⟩,r⟩;have t:e≠[]:=by rintro rfl;rw [List.length_nil]at g;rw [QW g]at h;simp at h
 obtain⟨u,i,v,x,y,z⟩:=p t s;obtain⟨l,A,m⟩:=q.at h;refine⟨u,i,l,v,x,y,λn B=>?_,m⟩;have E:=N.k_.len m;have c:=A n B;rw [Qq (show n<l.length by omega)]at c⊢;rw [Nat.add_assoc];exact z _ _ c
theorem fv.unbox {h:List (Bx α)} (k:aV N.k_ g f w d a c h) (e:∀b∈h,N.In w D b) (i:∀b,D b->b<w.heap.size/\aI d≠some b):aV N.Pe g (λb=>aI d=some b\/D b) w d a c (h.map (·.x)):=by
 obtain⟨cs,m,j,l,n⟩:=k.body;refine⟨⟨cs,D,j,fv.SM l e,λb e=>⟨.inr e,(i b e).2⟩⟩,λb e=>.inl e,λb e=>?_⟩;rcases e with e|e
 ·exact j.lt e
 ·exact(i b e).1
theorem fv.set {h:List (Bx α)} (n:aV N.k_ g f w d a c h) {b:Bx α} (o:h[i]? =some b) {m e:Nat} (q:d=some ⟨m,e,none⟩)
  (k:∀j,aV N.k_ g f j d a c (h.set i ⟨b.x,p,l,E⟩)->aj (λb=>aI d=some b) w j->j.heap.size=w.heap.size->y j):PS w ⟨m,e+i*N.k+N.o,none⟩ (.slice p l E) y:=
 aV.set (x':=⟨b.x,p,l,E⟩) n o N.ho (N.fz ..).symm q k
end
end Go.ax
namespace Go.Proofs.YtfchlbaidamodaaGreatDoor
open Go.ax
def kO.Ok (a:kO):Prop:=aN a.ck/\aN a.qF/\aN a.lU/\aN a.least
def oz (a:kO):List Value:=[QH a.ck,QH a.qF,QH a.lU,QH a.least]
def gC:kM kO:=flat 4 oz kO.Ok (λ_=>rfl) (λb c a=>by simp [oz]at a;rcases a with rfl|rfl|rfl|rfl<;>rfl)
def eg (a:bD) (b:Option Addr) (c d:Nat):List Value:=[QH a.kind,QH a.eV,.bool a.floor,.slice b c d]
def pT:kM bD where
 k:=4
 rep:=λj D e cs=>∃a b c,cs=eg e a b c/\Row gC 32 j D a b e.bH/\aN e.kind/\aN e.eV
 keep:=λ⟨a,b,c,d,f,g⟩ k h=>⟨a,b,c,d,f.keep k h,g⟩
 mono:=λ⟨a,b,c,d,f,g⟩ h=>⟨a,b,c,d,f.mono h,g⟩
 len:=λ⟨a,b,c,d,_,_⟩=>by rw [d];rfl
 one:=λ⟨a,b,c,d,_,_⟩ l i=>by
  rw [d]at i;simp [eg]at i;rcases i with rfl|rfl|rfl|rfl<;>rfl
def lv:kM (List bD) where
 k:=1
 rep:=λh D i cs=>∃a b c,cs=[.slice a b c]/\Row pT 48 h D a b i
 keep:=λ⟨a,b,c,d,e⟩ j f=>⟨a,b,c,d,e.keep j f⟩
 mono:=λ⟨a,b,c,d,e⟩ f=>⟨a,b,c,d,e.mono f⟩
 len:=λ⟨a,b,c,d,_⟩=>by rw [d];rfl
 one:=λ⟨a,b,c,d,_⟩ k g=>by rw [d]at g;simp at g;subst g;rfl
def jO.Ok (a:jO):Prop:=aN a.bd/\aN a.field/\aN a.group/\aN a.GO/\aN a.make
def oy (a:jO):List Value:=[QH a.bd,QH a.field,QH a.group,QH a.GO,QH a.make]
def wH:kM jO:=flat 5 oy jO.Ok (λ_=>rfl) (λb c a=>by simp [oy]at a;rcases a with rfl|rfl|rfl|rfl|rfl<;>rfl)
theorem Ms:jP ZQ 121 125 4 32:=⟨kR,kR,dC⟩
theorem RX:jP ZQ 126 123 4 48:=⟨kR,kR,dC⟩
theorem NO:jP ZQ 22 130 1 24:=⟨kR,kR,dC⟩
theorem Mh:jP ZQ 23 128 5 40:=⟨kR,kR,dC⟩
theorem Lp (a:kO):jg ZQ 125 (oz a)=true:=kR
theorem fD (a:bD) (b:Option Addr) (c d:Nat):jg ZQ 123 (eg a b c d)=true:=kR
theorem Ku (a:bD) (b:Option Addr) (c d:Nat):TF (fe ZQ 123) (.agg (eg a b c d).toArray)=true:=kR
theorem qH (a:jO):jg ZQ 128 (oy a)=true:=kR
def X_:bD:=⟨0,0,false,[]⟩
structure bh (w:World) (D:Nat->Prop) (d:aR) (ta:Option Addr) (tn:Nat) (pa:Option Addr) (pn:Nat):Prop where
 bd:Row lv 24 w D ta tn d.types
 Bk:Row wH 40 w D pa pn d.projs
variable{r:Array Value}{z:FuncId}{F e m:Int}{g3:List kO}{a c:Nat}{b6:bD}
section
variable {w w':World} {D D' S:Nat->Prop} {d:aR} {ta pa:Option Addr} {tn tc pn pc:Nat}
theorem bh.keep (a:bh w D d ta tn pa pn) (b:aj S w w') (c:∀e,D e->¬S e):bh w' D d ta tn pa pn:=⟨a.bd.keep b c,a.Bk.keep b c⟩
theorem bh.af (a:bh w D d ta tn pa pn) (b:ai w w'):bh w' D d ta tn pa pn:=a.keep b λ_ _ a=>a
theorem bh.mono (a:bh w D d ta tn pa pn) (b:∀c,D c->D' c):bh w D' d ta tn pa pn:=⟨a.bd.mono b,a.Bk.mono b⟩
structure eM (w:World):Prop where
 kinds:∀i,i<6->w.cell? ⟨1,i,none⟩=some (QH (rO i))
 Ya:∀i,i<5->w.cell? ⟨0,i,none⟩=some (QH (([0,2,14,6,6]:List Int).getD i 0))
 lt:1<w.heap.size/\0<w.heap.size
theorem eM.af (a:eM w) (c:ai w w'):eM w':=
 ⟨λb d=>(c.cell (a:=⟨1,b,none⟩) a.lt.1 id).trans (a.kinds b d),λb d=>(c.cell (a:=⟨0,b,none⟩) a.lt.2 id).trans (a.Ya b d),
  Qk a.lt.1 c.size,Qk a.lt.2 c.size⟩
theorem bO :within e m F=true↔m<=e/\e<=F:=by simp [within]
theorem cK :Calls ZQ 125 #[QH e,QH m,QH F] w (Ok λa w'=>a= .bool (within e m F)/\w=w'):=by
 refine Ap (al.dec (λb=>Ok.mk ⟨?_,rfl⟩) (λb=>Ok.mk ⟨?_,rfl⟩))
 ·simp [within];omega
 ·simp [within];omega
theorem uh {e:Option Addr} (h:Row gC 32 w D e a g3) (g:∀b,D b->b<w.heap.size):
  Calls ZQ 130 #[.slice e a c] w (Ok (qD gC 125 w g3)):=by
 have x:=h.len;have d:=h.d_;refine iN (kZ Ms.under ⟨_,rfl,al.mk (λf=>?_) (λf=>PA.mk λk i y l=>?_)⟩)
 ·have:g3=[]:=by
   cases e with
   |none=>
    cases g3 with
    |nil=>rfl
    |cons m z=>obtain⟨b,n,A,o,_⟩:=h.el 0 m rfl;cases o
   |some p=>cases f
  subst this;exact Ok.mk ⟨none,0,0,λ_=>False,rfl,aV.nil w,aj.refl _,λ_ h=>h.elim⟩
 ·cases e with
  |none=>cases f
  |some p=>
   have q:aV gC 125 (·=w.heap.size) k (some ⟨w.heap.size,0,none⟩) 0 0 []:=
    ⟨⟨[],λ_=>False,Own.xF (cur:= #[]) l rfl (Qj _),rfl,λ_ h=>h.elim⟩,λb d=>by simpa [aI]using d.symm,λb d=>oM⟩
   refine lH q Ms (D:=D) (h.af i) (λb d=>⟨by have:=g b d;omega,by have:=g b d;simp only [aI];intro r;cases r;omega⟩) (by simp;omega) (by unfold aQ at d;unfold maxLen;simp;omega) λj s B C t u _ v=>?_;refine⟨_,_,_,rfl,Ok.mk ⟨j,_,s,λb=>aI j=some b,rfl,by have h:=t.alone;rw [List.nil_append]at h;exact h,i.new u λb d=>.inr ?_,λb d=>?_⟩⟩
   ·simp only [aI,Q1]at d;omega
   ·rcases v b d with h|h<;>omega
theorem KK {p:kO->Bool} {o:Option Addr} (j:Row gC 32 w D o a g3) (u:enters ZQ z=true)
  (v:∀e f,ai w f->Calls ZQ z (#[]++ #[.agg (oz e).toArray]++r) f (Ok λg q=>g= .bool (p e)/\ai f q)):
  Calls ZQ 129 #[.slice o a c,.func (.func z) #[] r] w (Ok λg w'=>g= .bool (g3.any p)/\ai w w'):=by
 have F:=j.len;have x:=j.d_;unfold aQ at x;refine fO (PC.ok (φ:=λg w'=>(∃d:Int,g= QH d/\(0<=d↔g3.any p=true))/\ai w w') (gF ⟨λe d w'=>∃b:Nat,d=b/\b<=a/\e=a-b/\(g3.take b).any p=false/\ai w w',
  ⟨_,0,rfl,Qj _,rfl,sM,aj.refl _⟩,?_⟩) ?_)
 ·rintro e d _ f ⟨b,rfl,H,rfl,k,h⟩
  refine al.dec (λy=>?_) (λy=>?_)
  ·obtain⟨A,l,m,I,rfl,_,_,s,B,rfl,_⟩:=(j.af h).sS (i:=b) oM
   refine⟨A,l,rfl,oM,oM,br (Lp m) rfl B ⟨z,_,_,rfl,u,PC.ok (v m f h) ?_⟩⟩;rintro _ q ⟨rfl,t⟩;refine⟨_,rfl,al.mk (λn=>?_) (λn=>?_)⟩
   ·exact Ok.mk ⟨⟨_,rfl,λ_=>List.any_eq_true.2 ⟨m,QZ s,n⟩,λ_=>oM⟩,h.then t⟩
   ·refine⟨_,oM,b+1,an oM,oM,rfl,?_,h.then t⟩
    rw [Qw,s,List.any_append,k];simp [n]
  ·rw [Qz oM]at k
   exact Ok.mk ⟨⟨_,rfl,λi=>oM,λi=>by rw [k]at i;cases i⟩,h⟩
 ·rintro _ w' ⟨⟨d,rfl,C⟩,E⟩
  exact⟨_,rfl,Ok.mk ⟨by cases i:g3.any p<;>simp [i]at C⊢<;>omega,E⟩⟩
theorem aR.rJ (a:d.Ed e m=some b6):0<=e/\e<d.types.length/\∃b,d.types[e.toNat]? =some b/\d.at e=b/\0<=m/\m<b.length/\b[m.toNat]? =some b6:=by
 unfold aR.Ed at a;split at a
 ·rename_i c
  simp only [QK,bO]at c;have f:e.toNat<d.types.length:=oM
  have g:d.at e=d.types[e.toNat]:=by unfold aR.at;rw [if_pos (bO.2 c.1)];simp [f]
  rw [g]at c a;exact⟨oM,oM,_,by simp [f],g,oM,oM,a⟩
 ·cases a
theorem px (p:bh w D d ta tn pa pn) (z:∀a,D a->a<w.heap.size):
  Calls ZQ 71 #[.agg #[.slice ta tn tc,.slice pa pn pc],QH e,QH m] w (Ok λA w'=>ai w w'/\match d.Ed e m with
   |none=>A= .tuple #[.agg (eg X_ none 0 0).toArray,.bool false]
   |some f=>∃B C E F,A= .tuple #[.agg (eg f B C E).toArray,.bool true]/\aV gC 125 F w' B C E f.bH/\(∀a,F a->w.heap.size<=a)):=by
 have q:=p.bd.len;have b:=p.bd.d_;unfold aQ at b;have c:within e 0 ((tn:Int)-1)=false->d.Ed e m=none:=λH=>by unfold aR.Ed;rw [q]at H;rw [if_neg (by simp [H])]
 refine BR (PA.mk λw1 V s1 r=>PA.mk λw2 l s2 s=>⟨_,_,_,ae (l.get r id) rfl,PC.ok cK ?_⟩);rintro _ _ ⟨rfl,rfl⟩;rw [wrap_i64 (by unfold aN;omega)];have g:=V.then l;refine⟨_,rfl,al.not (al.mk (λi=>?_) (λi=>?_))⟩
 rotate_left
 ·refine aD (cs:=eg X_ none 0 0) (fD _ _ _ _) s rfl λI h J j=>aw (fD _ _ _ _) j (Ok.mk ⟨g.new h λa b=>.inr oM,?_⟩)
  rw [c i]
 have W:=bO.1 i;refine⟨_,_,_,ae (l.get r id) rfl,?_⟩;obtain⟨a,k,X,es,rfl,a8,a9,Y,Z,b0,n1,c1,rfl,t⟩:=((p.af g).bd).at (i:=e) oM oM;have K:=t.len;have a0:=t.d_;unfold aQ at a0;have L:d.at e=X:=by
  unfold aR.at;rw [if_pos (by rw [<-q];exact i),QQ,Y];rfl
 have u:=Z 0 dC;simp only [lv,Nat.mul_one,Nat.add_zero]at u;refine⟨a,k,rfl,oM,oM,_,_,_,u,PC.ok cK ?_⟩;rintro _ _ ⟨rfl,rfl⟩;rw [wrap_i64 (by unfold aN;omega)];refine⟨_,rfl,al.not (al.mk (λn=>?_) (λn=>?_))⟩
 rotate_left
 ·refine aD (cs:=eg X_ none 0 0) (fD _ _ _ _) s rfl λI h J j=>aw (fD _ _ _ _) j (Ok.mk ⟨g.new h λa b=>.inr oM,?_⟩)
  rw [show d.Ed e m=none by unfold aR.Ed;rw [L,<-K,if_neg (by simp [n])]]
 have a1:=bO.1 n;refine⟨_,_,_,ae (l.get r id) rfl,a,k,rfl,oM,oM,_,_,_,u,?_⟩;obtain⟨b2,a2,f,b1,rfl,b3,b4,a3,a4,M,N,O,rfl,hM,b5,b6⟩:=t.at (i:=m) oM oM;have a5:d.Ed e m=some f:=by unfold aR.Ed;rw [L,<-K,<-q,if_pos (by simp [i,n])];exact a3
 refine⟨b2,a2,rfl,oM,oM,br (fD f M N O) rfl a4 (PA.mk λI h J j=>aD (fD f M N O) j rfl λw4 v s4 P=>⟨_,_,_,ae P rfl,PC.ok (uh ((hM.af h).keep v λa b Q=>by have:=z a b;have:=g.size;omega) λa b=>by have:=z a b;have:=g.size;omega) ?_⟩)⟩;rintro _ w5 ⟨R,S,T,F5,rfl,a6,o,x⟩;have z5:=o.size;refine⟨_,_,_,rfl,PS.mk (o.get P id) (by simp [eg]) λw6 y s6 g6=>aw (cs:=eg f R S T) (fD _ _ _ _) g6 (aD (fD _ _ _ _) (y.get (o.get (v.get (h.get s id) oM) id) oM) rfl λw7 U s7 g7=>aw (fD _ _ _ _) g7 (Ok.mk ⟨?_,?_⟩))⟩
 ·have a7:ai w w6:=((((g.then h).new v λa b=>.inr oM).then o)).new y λa b=>.inr oM
  exact a7.new U λa b=>.inr oM
 ·rw [a5]
  exact⟨R,S,T,F5,rfl,(a6.keep y λa b Q=>by have:=x a b;omega).keep U λa b Q=>by have:=x a b;omega,λa b=>by have:=x a b;have:=g.size;omega⟩
end
variable{V:Int}{i l:Nat}{a9 d p:Option Addr}{N n:ah}
section
variable {w w':World} {D E:Nat->Prop}
theorem wx (j:Row aP 8 w E p i N.aK):Calls ZQ 305 #[kK n d a c,kK N p i l] w (Ok λk w'=>k= .bool (Ck n N)/\ai w w'):=by
 refine BZ (PA.mk λs m t b=>PA.mk λo g u e=>λq r=>⟨no,?_⟩);have f:ai o q:=r.keep;have b:=f.get (g.get b id) id;have e:=f.get e id;have h:=(m.then g).then f;refine⟨_,_,_,ae e rfl,_,ae b rfl,id,_,ae b rfl,PC.ok (oD (j.uv.af h)) ?_⟩;rintro _ _ ⟨rfl,rfl⟩;exact⟨_,rfl,aj.refl _,Ok.mk ⟨rfl,h⟩⟩
theorem Jq (m:Row aP 8 w D d a n.aK) (o:Row aP 8 w E p i N.aK):Calls ZQ 266 #[kK n d a c,kK N p i l] w (Ok λq w'=>q= .bool (wy n N)/\ai w w'):=by
 refine EB (PA.mk λu r v b=>PA.mk λx k y g=>?_);have b:=k.get b id;have e:=r.then k;refine⟨_,_,ae b rfl,ae b rfl,_,_,ae g rfl,ae g rfl,NN.neq ⟨_,rfl,?_⟩⟩;have s:(!(n.origin==N.origin&&n.seq==N.seq))=(aO n !=aO N):=rfl;rw [s];refine al.mk (λh=>aw (bg n d a c) b (aw (bg N p i l) g (PC.ok (wx (o.af e)) ?_))) (λh=>Ok.mk ⟨by unfold wy;rw [h];rfl,e⟩);rintro _ z ⟨rfl,f⟩;refine⟨_,rfl,al.not (al.mk (λj=>Ok.mk ⟨by unfold wy;rw [h,j];rfl,e.then f⟩) (λj=>aw (bg N p i l) (f.get g id) (aw (bg n d a c) (f.get b id) (PC.ok (wx (m.af (e.then f))) ?_))))⟩;rintro _ A ⟨rfl,t⟩;exact⟨_,rfl,Ok.mk ⟨by unfold wy;rw [h,j];rfl,(e.then f).then t⟩⟩
theorem mq:Le ZQ 385 3:=⟨kR,kR,⟨"op", "arg",kR,dC,dC⟩,kR,kR,kR⟩
abbrev Zi (a:bD) (b:Option Addr) (c d:Nat):Value:=.agg (eg a b c d).toArray
theorem yv :Calls ZQ 265 #[Zi b6 d a c,QH e,QH m,QH F,QH V] w (Ok λy w'=>y= .bool (fl b6 (e,m) (F,V))/\ai w w'):=by
 refine uR (PA.mk λP E T H=>PA.mk λQ z U I=>PA.mk λW q X J=>PS.mk (q.get I id) sM λY r Z K=>PS.mk K sM λw5 s s5 L=>PS.mk (s.get (r.get J oM) oM) sM λw6 t s6 M=>PS.mk M sM λu v s7 N=>?_);have R:ai w u:=(((((E.then z).then q).new r λj A=>.inr oM).new s λj A=>.inr oM).new t λj A=>.inr oM).new v λj A=>.inr oM;have S:=v.get (t.get (s.get (r.get (q.get (z.get H id) id) oM) oM) oM) oM;have f:u.heap[P.heap.size]? =some (.cells #[QH e,QH m] 385 (0,0)):=v.get (t.get L oM) oM;have g:u.heap[Q.heap.size]? =some (.cells #[QH F,QH V] 385 (0,0)):=N
 clear H I J K L M N E z q r s t v
 have b:∀{j:Bool},fl b6 (e,m) (F,V)=j->Ok (λy w'=>y= .bool (fl b6 (e,m) (F,V))/\ai w w') (.returned (.bool j)) u:=λ{j} k=>Ok.mk ⟨by rw [k],R⟩;have O:(((e,m):Int×Int) !=(F,V))= !(e==F&&m==V):=rfl;refine⟨_,ae S rfl,al.dX (λh=>?_) (λh=>al.dX (λo=>?_) (λo=>al.dX (λB=>?_) (λB=>b ?_)))⟩
 ·refine⟨_,ae f rfl,al.dX (λi=>⟨_,ae g rfl,al.dX (λl=>⟨_,_,ae f rfl,ae f rfl,_,_,ae g rfl,ae g rfl,mq.neq ⟨_,rfl,b ?_⟩⟩) (λl=>b ?_)⟩) (λi=>b ?_)⟩
  ·unfold fl;rw [if_pos h,O,show e=2 from i,show F=2 from l];rfl
  ·unfold fl;rw [if_pos h,show e=2 from i,show(F==2)=false by simpa using l];rfl
  ·unfold fl;rw [if_pos h,show(e==2)=false by simpa using i];rfl
 ·refine⟨_,ae f rfl,al.dX (λi=>⟨_,ae g rfl,al.dX (λl=>⟨_,_,ae f rfl,ae f rfl,_,_,ae g rfl,ae g rfl,mq.neq ⟨_,rfl,b ?_⟩⟩) (λl=>b ?_)⟩) (λi=>b ?_)⟩
  ·unfold fl;rw [if_neg h,if_pos o,O,show e=5 from i,show F=5 from l];rfl
  ·unfold fl;rw [if_neg h,if_pos o,show e=5 from i,show(F==5)=false by simpa using l];rfl
  ·unfold fl;rw [if_neg h,if_pos o,show(e==5)=false by simpa using i];rfl
 ·have p:fl b6 (e,m) (F,V)=((e==3&&m==V)&&(F==4&&V==m)||(e==4&&m==V)&&(F==3&&V==m)):=by
   unfold fl;rw [if_neg h,if_neg o,if_pos B];rfl
  refine⟨_,_,ae f rfl,ae f rfl,mq.eql ⟨_,rfl,al.mk (λx=>⟨_,_,ae g rfl,ae g rfl,mq.eql ⟨_,rfl,al.mk (λC=>b ?_) (λC=>?_)⟩⟩) (λx=>?_)⟩⟩
  ·rw [p,x,C];rfl
  ·have k:((e==3&&m==V)&&(F==4&&V==m))=false:=by rw [x,C];rfl
   exact⟨_,_,ae f rfl,ae f rfl,mq.eql ⟨_,rfl,al.mk (λn=>⟨_,_,ae g rfl,ae g rfl,mq.eql ⟨_,rfl,b (by rw [p,k,n];rfl)⟩⟩) (λn=>b (by rw [p,k,n];rfl))⟩⟩
  ·have k:((e==3&&m==V)&&(F==4&&V==m))=false:=by rw [x];rfl
   exact⟨_,_,ae f rfl,ae f rfl,mq.eql ⟨_,rfl,al.mk (λn=>⟨_,_,ae g rfl,ae g rfl,mq.eql ⟨_,rfl,b (by rw [p,k,n];rfl)⟩⟩) (λn=>b (by rw [p,k,n];rfl))⟩⟩
 ·unfold fl;rw [if_neg h,if_neg o,if_neg B]
theorem Cm {f:bD} {j s k t:Nat} (x:Row aP 8 w D p j n.aK) (y:Row aP 8 w E a9 k N.aK):
  Calls ZQ 203 #[Zi f d a c,kK n p j s,kK N a9 k t] w (Ok λz w'=>z= .bool (mU f n N)/\ai w w'):=by
 refine yi (PA.mk λI A J B=>PA.mk λK u L C=>PA.mk λF l M h=>?_);have m:=l.get (u.get B id) id;have i:=l.get C id;have g:=(A.then u).then l;refine⟨λv w'=>v=(f.eV==2||f.eV==3&&decide (N.arg<n.arg))/\F=w',?_,?_⟩
 ·refine⟨_,ae m rfl,al.dX (λb=>⟨by rw [show f.eV=2 from b];rfl,rfl⟩) (λb=>⟨_,ae m rfl,al.dX (λo=>⟨_,ae i rfl,_,ae h rfl,?_,rfl⟩) (λo=>⟨?_,rfl⟩)⟩)⟩
  ·rw [show f.eV=3 from o];rfl
  ·rw [show(f.eV==2)=false by simpa using b,show(f.eV==3)=false by simpa using o];rfl
 ·rintro v _ _ ⟨q,rfl⟩
  refine al.mk (λb=>?_) (λb=>Ok.mk ⟨by unfold mU;rw [<-q,b];rfl,g⟩);refine aw (fD f d a c) m ⟨_,ae i rfl,_,ae i rfl,_,ae h rfl,_,ae h rfl,PC.ok yv ?_⟩;rintro _ O ⟨rfl,e⟩;refine⟨_,rfl,al.mk (λr=>aw (bg n p j s) (e.get i id) (aw (bg N a9 k t) (e.get h id) (PC.ok (Jq (x.af (g.then e)) (y.af (g.then e))) ?_))) (λr=>Ok.mk ⟨by unfold mU;rw [<-q,b,r];rfl,g.then e⟩)⟩;rintro _ P ⟨rfl,H⟩;exact⟨_,rfl,Ok.mk ⟨by unfold mU;rw [<-q,b,r];rfl,(g.then e).then H⟩⟩
end
def lx:fv du Int where
 k:=2
 ci:=aP
 ib:=8
 inner:=(·.set)
 hd:=λa b c d=>[QH a.n,.slice b c d]
 ok:=λa=>aN a.n/\xG a.set/\a.set.length<=64
 hl:=λ_ _ _ _=>rfl
 h1:=λa b c d f e=>by simp at e;rcases e with rfl|rfl<;>rfl
 o:=1
 ho:=dC
 fz:=λ_ _ _ _ _ _ _=>rfl
abbrev fL:kM du:=lx.Pe
theorem RA:jP ZQ 40 84 2 32:=⟨kR,kR,dC⟩
abbrev TL (a:Int):Nat:=if a=1 then 211 else if a=3 then 216 else if a=5 then 219 else 214
abbrev Yq (a:Int):Nat:=if a=1 then 212 else if a=2 then 215 else if a=3 then 217 else if a=4 then 218 else 220
def qQ (a:Int):Value:=.agg #[.func (.func (TL a)) #[] #[],.func (.func (Yq a)) #[] #[]]
theorem Bt:nu ZQ 259 3 257 (.agg #[.nilFunc,.nilFunc]):=⟨kR,kR⟩
theorem GZ:jh ZQ 3 (Value.int .i64):=Xc kR
variable{b0:List du}
section
variable {w w':World} {D E:Nat->Prop}
theorem Bu:Calls ZQ 154 #[] w (Ok λd w'=>∃c,d= .map (some c)/\cx w' c (Value.int .i64) [((1:Int),qQ 1),(2,qQ 2),(3,qQ 3),(4,qQ 4),(5,qQ 5)]/\ai w w'):=by
 refine G_ (PA.mk λq e r f=>?_);refine jz (k:=(1:Int)) Bt GZ (cx.new f) λs g h t=>jz (k:=(2:Int)) Bt GZ g λu i j v=>jz (k:=(3:Int)) Bt GZ i λx k l y=>jz (k:=(4:Int)) Bt GZ k λz m n A=>jz (k:=(5:Int)) Bt GZ m λB o p C=>Ok.mk ⟨_,rfl,o,?_⟩;exact((((e.new h λa b=>.inr oM).new j λa b=>.inr oM).new l λa b=>.inr oM).new n λa b=>.inr oM).new p λa b=>.inr oM
theorem NS (a:1<=e) (b:e<=5):ay [((1:Int),qQ 1),(2,qQ 2),(3,qQ 3),(4,qQ 4),(5,qQ 5)] e=some (qQ e):=by
 have:e=1\/e=2\/e=3\/e=4\/e=5:=oM
 rcases this with rfl|rfl|rfl|rfl|rfl<;>rfl
def Xd (a:bD) (b:Option Addr) (c d:Nat) (e:Option Addr) (f g:Nat) (h arg:Int):List Value:=[QH a.kind,QH a.eV,.bool a.floor,.slice b c d,.slice e f g,QH h,QH arg]
abbrev Bv (a:bD) (b:Option Addr) (c d:Nat) (e:Option Addr) (f g:Nat) (h arg:Int):Value:=.agg (Xd a b c d e f g h arg).toArray
theorem vI (a:bD) (b:Option Addr) (c d:Nat) (e:Option Addr) (f g:Nat) (h arg:Int):jg ZQ 262 (Xd a b c d e f g h arg)=true:=kR
variable {f:bD} {ma ca:Option Addr} {mn mc cn cc i:Nat} {arg:Int}
theorem iH (d:ca=some ⟨a,c,none⟩) (h:i<cn):Calls ZQ 213 #[Bv f ma mn mc ca cn cc (i:Int) arg] w (Ok λe w'=>e= .pointer (some ⟨a,c+i*2,none⟩)/\ai w w'):=
 Ad (PA.mk λj g k b=>⟨_,_,_,ae b rfl,_,ae b rfl,a,c,d,oM,oM,Ok.mk ⟨rfl,g⟩⟩)
def RB (g:List bD) (e:List du) (a d arg:Int):Bool:=
 let f:=g.getD a.toNat ⟨0,0,false,[]⟩
 let b:=e.getD a.toNat ⟨0,[]⟩
 if d=1 then(arg==0||NT b.n arg)&& !(f.floor&&decide (pH (b.n+arg)<0))
 else if d=3 then decide (arg∈b.set)||decide (b.set.length<64)
 else if d=5 then(let c:=f.bH.getD arg.toNat ⟨0,0,0,0⟩;b.n==c.ck&&(decide (c.lU<0)||decide (c.least<=(e.getD c.lU.toNat ⟨0,[]⟩).n)))
 else true
theorem Ha (b:List bD) (c:List du) (a d arg:Int):xL b c a d arg=if RB b c a d arg then 0 else 10:=rfl
theorem ni {bytes:Nat} (g:Row fL bytes w D ca cn b0) (h:i<cn):∃a b c d e,ca=some ⟨a,b,none⟩/\a<w.heap.size/\D a/\w.cell? ⟨a,b+i*2,none⟩=some (QH (b0.getD i ⟨0,[]⟩).n)/\w.cell? ⟨a,b+i*2+1,none⟩=some (.slice c d e)/\Row aP 8 w D c d (b0.getD i ⟨0,[]⟩).set/\aN (b0.getD i ⟨0,[]⟩).n/\xG (b0.getD i ⟨0,[]⟩).set/\(b0.getD i ⟨0,[]⟩).set.length<=64:=by
 have j:=g.len;obtain⟨a,b,q,l,m,n,k,c,d,e,rfl,o,f⟩:=g.el i b0[i] (by simp [j▸h]);have p:b0.getD i ⟨0,[]⟩=b0[i]:=by simp [QQ,j▸h]
 rw [p];exact⟨a,b,c,d,e,l,m,n,by have:=k 0 dC;simpa [lx,fv.Pe]using this,by have:=k 1 dC;simpa [lx,fv.Pe]using this,o,f.1,f.2.1,f.2.2⟩
theorem RC :Calls ZQ 278 #[QH e,QH m] w (Ok λa w'=>a= .bool (NT e m)/\w=w'):=Ln (Ok.mk ⟨rfl,rfl⟩)
theorem I_ {bytes:Nat} (m:Row fL bytes w D ca cn b0) (j:i<cn):
  Calls ZQ 211 #[Bv f ma mn mc ca cn cc (i:Int) arg] w (Ok λn w'=>n= .bool ((arg==0||NT (b0.getD i ⟨0,[]⟩).n arg)&& !(f.floor&&decide (pH ((b0.getD i ⟨0,[]⟩).n+arg)<0)))/\ai w w'):=by
 refine Ek (PA.mk λt k u l=>aw (vI ..) l ?_);obtain⟨o,p,v,x,y,q,r,z,s,c,-⟩:=ni (m.af k) j;refine PC.ok (iH q j) ?_;rintro _ A ⟨rfl,g⟩;have b:=g.get l id;have d:=k.then g;refine⟨_,rfl,_,_,rfl,_,(g.cell (a:=⟨o,p+i*2,none⟩) r id).trans s,_,ae b rfl,al.dX (λe=>⟨_,ae b rfl,al.mk (λa=>⟨_,ae b rfl,Ok.mk ⟨?_,d⟩⟩) (λa=>Ok.mk ⟨?_,d⟩)⟩) (λe=>⟨_,ae b rfl,PC.ok RC ?_⟩)⟩
 ·rw [show(arg==0)=true by simpa using e,a];rfl
 ·rw [show(arg==0)=true by simpa using e,a];rfl
 ·rintro _ _ ⟨rfl,rfl⟩
  have h:(arg==0)=false:=by simpa using e
  refine⟨_,rfl,al.mk (λc=>⟨_,ae b rfl,al.mk (λa=>⟨_,ae b rfl,Ok.mk ⟨?_,d⟩⟩) (λa=>Ok.mk ⟨?_,d⟩)⟩) (λc=>Ok.mk ⟨?_,d⟩)⟩
  ·rw [h,c,a];rfl
  ·rw [h,c,a];rfl
  ·rw [h,c];rfl
theorem Ja {bytes:Nat} (o:Row fL bytes w D ca cn b0) (b:i<cn):
  Calls ZQ 216 #[Bv f ma mn mc ca cn cc (i:Int) arg] w (Ok λp w'=>p= .bool (decide (arg∈(b0.getD i ⟨0,[]⟩).set)||decide ((b0.getD i ⟨0,[]⟩).set.length<64))/\ai w w'):=by
 refine El (PA.mk λq r B s=>λt u=>⟨no,?_⟩);have e:ai q t:=u.keep;have c:=e.get s id;have d:=r.then e;obtain⟨g,h,C,E,F,j,k,H,I,v,l,-,x,-⟩:=ni (o.af d) b;refine aw (vI ..) c ⟨id,_,ae c rfl,PC.ok (iH j b) ?_⟩;rintro _ J ⟨rfl,a⟩;have m:=(a.cell (a:=⟨g,h+i*2+1,none⟩) k id).trans v;refine⟨_,rfl,ai.keep a,_,_,rfl,_,_,_,m,PC.ok (uo (l.af a) x) ?_⟩;rintro _ _ ⟨rfl,rfl⟩;refine⟨_,_,rfl,aj.refl _,al.mk (λy=>Ok.mk ⟨by rw [y];rfl,d.then a⟩) (λz=>aw (vI ..) (a.get c id) (PC.ok (iH j b) ?_))⟩;rintro _ K ⟨rfl,n⟩;have A:=l.len;refine⟨_,rfl,_,_,rfl,_,_,_,(n.cell (a:=⟨g,h+i*2+1,none⟩) (Qk k a.size) id).trans m,Ok.mk ⟨?_,(d.then a).then n⟩⟩;rw [z,A]
 congr 1
 rw [Bool.false_or,decide_eq_decide];omega
theorem Hb {bytes:Nat} (o:Row fL bytes w D ca cn b0) (p:i<cn) (q:Row gC 32 w E ma mn f.bH) (h0:0<=arg) (h1:arg<(mn:Int)) (r:((f.bH.getD arg.toNat ⟨0,0,0,0⟩).lU)<(cn:Int)):
  Calls ZQ 219 #[Bv f ma mn mc ca cn cc (i:Int) arg] w (Ok λF w'=>F= .bool (let a:=f.bH.getD arg.toNat ⟨0,0,0,0⟩;(b0.getD i ⟨0,[]⟩).n==a.ck&&(decide (a.lU<0)||decide (a.least<=(b0.getD a.lU.toNat ⟨0,[]⟩).n)))/\ai w w'):=by
 refine Bw (PA.mk λH s s1 h=>?_);have a0:=q.len;obtain⟨b,rfl⟩:∃b:Nat,arg=b:=⟨arg.toNat,oM⟩
 have t:b<f.bH.length:=oM
 obtain⟨I,J,es,K,a1,-,u,rfl,-⟩:=(q.af s).el b f.bH[b] (by simp [t]);have L:f.bH.getD b ⟨0,0,0,0⟩=f.bH[b]:=by simp [QQ,t]
 simp only [Qx,L]at r⊢;generalize f.bH[b]=a at u r;refine⟨_,_,_,ae h rfl,_,ae h rfl,I,J,K,oM,oM,br (es:=oz a) (k:=4) (Lp a) rfl (λM N=>u M N) (PA.mk λw2 O s2 P=>aD (Lp a) P rfl λv Q s3 R=>λS T=>⟨no,?_⟩)⟩;have x:ai H v:=O.new Q λy z=>.inr oM;have j:ai v S:=T.keep;have A:=(s.then x).then j;have B:=j.get (x.get h id) id;have c:=j.get R id;obtain⟨y,U,a2,a3,a4,V,z,a5,W,hs,-⟩:=ni (o.af A) p;refine aw (vI ..) B ⟨id,_,ae c rfl,PC.ok (iH V p) ?_⟩;rintro _ w5 ⟨rfl,d⟩;have c:=d.get c id;have e:=A.then d;refine⟨_,rfl,ai.keep d,_,_,rfl,_,(d.cell (a:=⟨y,U+i*2,none⟩) z id).trans W,al.dX (λg=>⟨_,ae c rfl,al.dec (λk=>Ok.mk ⟨?_,e⟩) (λk=>?_)⟩) (λg=>Ok.mk ⟨?_,e⟩)⟩
 ·rw [show((b0.getD i ⟨0,[]⟩).n==a.ck)=true by simpa using g,decide_eq_true k];rfl
 ·obtain⟨l,C⟩:∃l:Nat,a.lU=l:=⟨a.lU.toNat,oM⟩
  obtain⟨X,Y,a',n',c',m,Z,-,n,-⟩:=ni (o.af e) (i:=l) oM;refine⟨_,_,_,ae (d.get B id) rfl,_,ae c rfl,X,Y,m,oM,oM,_,by rw [C,Qx];exact n,_,ae c rfl,Ok.mk ⟨?_,e⟩⟩;rw [show((b0.getD i ⟨0,[]⟩).n==a.ck)=true by simpa using g,Xv k,C,Qx];rfl
 ·rw [show((b0.getD i ⟨0,[]⟩).n==a.ck)=false by simpa using g];rfl
end
end Go.Proofs.YtfchlbaidamodaaGreatDoor

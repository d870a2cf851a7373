import Derived.Test.YthnilpgpacdmnaaGreatDoorK17
import Derived.Test.YthnilpgpacdmnaaGreatDoorYCodeR
namespace Go.Proofs.YthnilpgpacdmnaaGreatDoor
open Go.au
set_option linter.unusedVariables false
set_option maxRecDepth 20000
variable{U r:Array Value}{b2 u:List Int}{a1:List Value}{a:Nat}{f:Nat->Prop}{F:Nat×Nat}{d:Option Addr}{h:Program}{j:Type}{A g q:TypeId}{o s:Value->World->Prop}{b:World}{N m:aj}{B:aw}
theorem dQ {c:jk j} {p n:Nat} {t:List j} {bytes:Nat} {x:j} (m:aO c g f b d p n t) (K:ix h q g c.k bytes)
  (O:b.heap[a]? =some (.cells r g F)) {D:Nat->Prop} (B:c.rep b D x r.toList) (u:∀e,D e->e<b.heap.size/\aF d≠some e) (i:(t.length+1)*bytes<=aI) (P:t.length+1<=maxLen)
  (C:∀v l H w,aO c g w H v (p+1) l (t++[x])->ak (λI=>aF d=some I) b H->(∀e,w e->f e\/D e\/b.heap.size<=e)->o (.slice v (p+1) l) H):
  aE h (Builtin.append_ #[q,q] A #[.slice d p n,.slice (some ⟨a,0,none⟩) 1 1]) b o s:=by
 have L:=m.len K.pos;obtain⟨cs,Q,R,S,y⟩:=m.body;have V:=c.len B;refine ym K (news:=r.toList) R O (by rw [Qz oM]) oM (c.one B) (by rw [L];exact i) (by rw [L];exact P) λv T z M N E=>?_;have J:ak (λI=>aF d=some I) b z:=(N.mono λ_ _ m=>m.symm)
 let w:Nat->Prop:=λe=>f e\/D e\/(b.heap.size<=e/\e<z.heap.size)
 have W:b.heap.size<=z.heap.size:=N.size;refine C v T z w ⟨⟨_,λe=>Q e\/D e,M,bu.append ((S.af J λe i=>(y e i).2).mono λe i=>.inl i) (bu.one (c.mono (c.af B J λe i=>(u e i).2) λe i=>.inr i)),?_⟩,?_,?_⟩ J ?_
 ·intro e i
  have X:e<b.heap.size:=i.elim (λk=>m.aC e (y e k).1) λk=>(u e k).1;refine⟨i.elim (λk=>.inl (y e k).1) λk=>.inr (.inl k),?_⟩;rcases E with E|E
  ·rw [E];exact i.elim (λk=>(y e k).2) λk=>(u e k).2
  ·rw [E];intro U;cases U;omega
 ·intro e i
  rcases E with E|E
  ·exact .inl (m.self e (E▸i))
  ·have:=M.lt i
   rw [E]at i;cases i;exact .inr (.inr ⟨oM,this⟩)
 ·rintro e (i|i|i)
  ·have:=m.aC e i;omega
  ·have:=(u e i).1;omega
  ·exact i.2
 ·rintro e (i|i|i)
  ·exact .inl i
  ·exact .inr (.inl i)
  ·exact .inr (.inr i.1)
theorem Kf {D k:Nat->Prop} (f:Row aG 8 b D d a u) (g:Row aG 8 b k d a b2):u=b2:=by
 have p:=f.len;have q:=g.len;apply List.ext_getElem oM;intro i l m;obtain⟨r,s,t,n,h,-,o⟩:=f.kp (i:=i) oM;obtain⟨v,w,x,c,j,-,e⟩:=g.kp (i:=i) oM;rw [n]at c;cases c
 rw [o]at e;cases e
 rw [Qq l]at h;rw [Qq m]at j;rw [XJ h,XJ j]
theorem _root_.Go.au.eN.VC {g h k:Type} {i:h->k->Prop} {l:g} {m:h}:∀{j d:List (g×h)} {c:List (g×k)},eN i (j++(l,m)::d) c->∃e b f,c=e++(l,b)::f/\i m b/\eN i (j++d) (e++f)
 |[],d,(n,b)::c,a=>⟨[],b,c,by rw [a.1];rfl,a.2.1,a.2.2⟩
 |(r,s)::j,d,(n,o)::c,a=>by
  obtain⟨e,b,f,rfl,p,q⟩:=Go.au.eN.VC a.2.2;exact⟨(n,o)::e,b,f,rfl,p,a.1,a.2.1,q⟩
section
def Bg (d:World) (D:Nat->Prop) (e:aw) (f:List Value) (a:aj):Prop:=∃b c g,f=[ji a b c g]/\Row aG 8 d D b c a.aN/\a.Ok/\a∈e.l
def qh {b c:Type} (d:b->c->Prop):List b->List c->Prop
 |[],[]=>True
 |a::e,f::g=>d a f/\qh d e g
 |_,_=>False
theorem qh.snoc {a b:Type} {c:a->b->Prop} {d:a} {e:b} (f:c d e):∀{g:List a} {h:List b},qh c g h->qh c (g++[d]) (h++[e])
 |[],[],_=>⟨f,trivial⟩
 |_::_,_::_,i=>⟨i.1,qh.snoc f i.2⟩
theorem qh.length {a b:Type} {e:a->b->Prop}:∀{c:List a} {d:List b},qh e c d->c.length=d.length
 |[],[],_=>rfl
 |_::_,_::_,f=>by simp [qh.length f.2]
theorem Bg.unique {D:Nat->Prop} (c:Bg b D B a1 m) (d:Bg b D B a1 N):m=N:=by
 obtain⟨g,h,i,rfl,e,-,-⟩:=c;obtain⟨j,k,l,a,f,-,-⟩:=d;simp only [aB,List.cons.injEq,Value.agg.injEq,Array.mk.injEq,Value.int.injEq,XX,and_true,true_and]at a;obtain⟨n,o,p,⟨rfl,rfl,rfl⟩,q,r,s,t,u,v⟩:=a;have:=Kf e f
 cases m;cases N;simp_all
theorem qh.unique {b:World} {D:Nat->Prop} {c:aw}:∀{a:List (List Value)} {d e:List aj},qh (Bg b D c) a d->qh (Bg b D c) a e->d=e
 |[],[],[],_,_=>rfl
 |_::_,_::_,_::_,f,g=>by rw [f.1.unique g.1,qh.unique f.2 g.2]
variable {w w9 w1 A B:World} {p bo:Nat} {F:Nat->Prop} {S:aw} {q:Pb} {Pr:aj->Bool} {s:World×(Nat->Prop)} {pre:List (List Value)}
structure SJ (w9:World) (bo:Nat) (D:Nat->Prop) (S:aw) (Pr:aj->Bool) (s:World×(Nat->Prop)) (pre:List (List Value)) (A:World):Prop where
 af:ak (·=bo) w9 A
 own:ak (dv s.2) s.1 A
 out:∀b,s.2 b->b≠w9.heap.size/\b≠w9.heap.size+1/\b≠bo
 aC:∀b,s.2 b->b<A.heap.size
 dt:w9.heap.size+2<=A.heap.size
 nC:∃a n c G L,A.heap[bo]? =some (.cells #[.slice a n c] 40 (0,0))/\aO f_ 60 G A a n c (L.filter Pr)/\(∀b,G b->w9.heap.size+2<=b/\¬s.2 b)/\qh (Bg w9 D S) pre L/\L.length<=S.l.length
theorem SJ.ah (b:SJ w9 bo q.D S Pr s pre A) (a:ai A B):SJ w9 bo q.D S Pr s pre B:=by
 obtain⟨c,d,e,f,g,h,i,j,G,k,l,m,n,o⟩:=b;exact⟨c.ah a,d.ah a,e,λp r=>Qk (f p r) a.size,Xx g a.size,h,i,j,G,k,a.get l id,m.ah a,n,o⟩
theorem SJ.dZ (u:bo<w9.heap.size) (d:SJ w9 bo q.D S Pr s pre A) (g:oS (w9.heap.size+1) A B):SJ w9 bo q.D S Pr s pre B:=by
 obtain⟨h,i,e,j,v,k,l,m,G,n,o,p,f,r⟩:=d;obtain⟨c,w⟩:=g;exact⟨h.new c λa b=>.inr oM,i.trans c (λ_ _ d=>d) λa _ b t=>(e a t).2.1 b,e,λa b=>by have:=j a b;omega,oM,k,l,m,G,n,c.get o oM,p.af c λa b x=>by have:=(f a b).1;omega,f,r⟩
theorem SJ.re (a:SJ w9 bo q.D S Pr s pre A):SJ w9 bo q.D S Pr (A,s.2) pre A:=⟨a.af,ak.refl _,a.out,a.aC,a.dt,a.nC⟩
theorem Pd {R:World->Prop} (c1:bo<w9.heap.size) (hS:S.OK) (g:qg w9 p F S q) (w:∃e a3,w9.heap[a]? =some (.cells #[.map (some q.r)] e a3)) (x:a≠bo) (y:¬F bo)
  (z:∀A B,R A->ak (mL w9) A B->R B)
  (hy:∀s pre o A,SJ w9 bo q.D S Pr s pre A->R A->sd [ji qC none 0 0] o->(pre.length<S.l.length/\∃e,Bg w9 q.D S o e)->iX Tryz.prog (w9.heap.size+1) o A λb C=>b=true/\SJ w9 bo q.D S Pr s (pre++[o]) C/\R C)
  (r:SJ w9 bo q.D S Pr (w9,no) [] w1) (a7:R w1):
  Calls Tryz.prog 200 #[.func (.yield (w9.heap.size+1)) #[] #[],.pointer (some ⟨a,0,none⟩)] w1 (Ok λa4 h=>R h/\∃s m,SJ w9 bo q.D S Pr s m h/\∃t,qh (Bg w9 q.D S) m t/\t.Perm S.l):=by
 obtain⟨e2,f2,w⟩:=w;have c2:=g.map.lt;have a8:qg w1 p F S q:=g.af r.af λb c e=>y (e▸c);have hD:∀b,q.D b->b<w9.heap.size/\b≠bo:=λb c=>⟨g.aC b (g.sub b (.inr (.inr (.inr c)))),λe=>y (e▸g.sub b (.inr (.inr (.inr c))))⟩
 have c3:=r.dt;have c4:q.r≠bo:=λe=>y (e▸g.sub _ (.inr (.inl rfl)));refine cY ⟨_,ae (r.af.get w x) rfl,mapRange O_ a8.map λO b0 u s6=>?_⟩;obtain⟨j1,j2,j3,jd,j5,ja,jn,jc,G0,L0,j4,P,Q,j8⟩:=r;have b1:SJ w9 bo q.D S Pr (O,λb=>b=w1.heap.size\/b=q.r) [] O:=by
  refine⟨j1.ah u,ak.refl _,λb c=>by rcases c with rfl|rfl<;>omega,λb c=>by rcases c with rfl|rfl<;>omega,oM,ja,jn,jc,G0,L0,u.get j4 id,P.ah u,λb c=>⟨(Q b c).1,λe=>?_⟩,j8⟩;rcases e with rfl|rfl
  ·have:=P.aC _ c;omega
  ·have:=(Q _ c).1;omega
 refine⟨λT h=>∃pre left d l,T=left.length/\cE h w1.heap.size q.r Dy q.l left/\eN (Ra w9 q.D) left d/\qh (Bg w9 q.D S) pre l/\(l++d.map (·.2)).Perm S.l/\SJ w9 bo q.D S Pr (h,λb=>b=w1.heap.size\/b=q.r) pre h/\R h,
  ⟨_,[],q.l,q.L,[],rfl,b0,g.rel,trivial,by simpa using g.TY,b1,z _ _ a7 (ai.af u)⟩,?_⟩
 rintro T _ c5 ⟨pre,left,d,l,rfl,hr,U,E,H,V,W⟩;refine mf hr (λh0=>.inl ⟨rfl,?_⟩) (λc6 a4 l1 l2 I a6 a9 b2 v c7=>.inr ⟨_,_,rfl,?_⟩)
 ·subst h0
  obtain rfl:d=[]:=by
   have:=U.length;simp at this;exact QW this.symm
  exact Ok.mk ⟨W,_,pre,V,l,E,by simpa using H⟩
 subst a6;obtain⟨X,f,Y,rfl,⟨i,j,k,rfl,Z,a0⟩,b3⟩:=U.VC;have a1:f∈S.l:=H.mem_iff.1 sM;have a2:((l++[f])++(X++Y).map (·.2)).Perm S.l:=by
  refine List.Perm.trans ?_ H;simp only [Q3,QY,XQ,List.singleton_append];exact List.Perm.append_left _ List.perm_middle.symm
 have b4:pre.length<S.l.length:=by
  have J:=a2.length_eq;have x:=E.length;simp at J;omega
 have b5:SJ w9 bo q.D S Pr (I,λb=>b=w1.heap.size\/b=q.r) pre I:=by
  obtain⟨J,x,h3,hd,h5,i,j,k,G,t,h4,h6,h7,h8⟩:=V;exact⟨J.new v λb c=>.inr oM,ak.refl _,h3,λb c=>by have:=hd b c;omega,oM,i,j,k,G,t,v.get h4 (λe=>(h3 _ (.inl rfl)).2.2 e.symm),h6.af v λb c e=>(h7 b c).2 (.inl e),h7,h8⟩
 have b6:=z _ _ W (v.mono λb _ c=>(⟨oM,oM⟩:mL w9 b));refine pt b2 ⟨_,_,_,_,_,_,_,_,_,_,_,_,_,rfl,PA.mk λc8 K c9 b7=>az (aV f i j k) b7 rfl λa5 L d0 b8=>ar (aV f i j k) b8 ⟨_,rfl,(hy _ pre _ a5 ((b5.ah (K.new L λb c=>.inr oM)).re) ?_ ?_ ⟨b4,f,i,j,k,rfl,Z,a0,a1⟩).mono ?_⟩⟩
 ·exact z _ _ b6 (ai.af (K.new L λb c=>.inr oM))
 ·exact λφ M=>M f.origin f.seq f.ax i j k f.aT f.agg f.field f.op f.arg f.key
 ·rintro _ C ⟨rfl,n,b9⟩
  have c0:ai I a5:=K.new L λb c=>.inr oM;refine al.ff rfl ⟨_,?_,pre++[_],l1++l2,X++Y,l++[f],rfl,(a9.ah c0).af n.own (λN=>N (.inl rfl)) (λN=>N (.inr rfl)),b3,E.snoc ⟨i,j,k,rfl,Z,a0,a1⟩,a2,n.re,b9⟩;simp
theorem Bh (e:cj w p F S) (hl:S.l.length<=20000000) (hg:enters Tryz.prog a=true)
  (hp:∀d k z N D w1,ai w w1->Row aG 8 w1 D k z d.aN->d.Ok->d∈S.l->Calls Tryz.prog a (r++ #[ji d k z N]++U) w1 (Ok λC E=>C= .bool (Pr d)/\ai w1 E)):
  Calls Tryz.prog 77 #[.pointer (some ⟨p,0,none⟩),.func (.func a) r U] w (Ok (oy f_ 60 w (S.l.filter Pr))):=by
 have eR:=e;obtain⟨X,q,e⟩:=e;refine tQ (PA.mk λl k3 s3 g3=>PA.mk λO k4 s4 g4=>?_);have b4:=k3.then k4;have c7:=e.ah b4;refine⟨p,0,rfl,_,ae c7.at' rfl,PC.ok (φ:=λC E=>C= .func (.func 200) #[] #[.pointer (some ⟨O.heap.size,0,none⟩)]/\(∃d c8,E.heap[O.heap.size]? =some (.cells #[.map (some q.r)] d c8))/\ai O E/\E.heap.size=O.heap.size+1)
  (dw (PA.mk λw5 H s5 g5=>Ok.mk ⟨rfl,⟨_,_,g5⟩,H,s5⟩)) ?_⟩
 rintro _ w9 ⟨rfl,c9,Y,s9⟩;have Z:=b4.then Y;have b5:=e.ah Z;have hw:=e.aC;have b6:=ay e.at';have d0:=Y.get (k4.get g3 id) id;have d1:=Y.get g4 id;have b7:¬F l.heap.size:=λhf=>by have:=hw _ hf;omega
 have a0:l.heap.size<w9.heap.size:=oM
 refine⟨_,rfl,200,_,rfl,kR,World×(Nat->Prop),(w9,no),SJ w9 l.heap.size q.D S Pr,λ_ _ _=>False,
  λpre vs=>pre.length<S.l.length/\∃d,Bg w9 q.D S vs d,λh=>∃f,qh (Bg w9 q.D S) h f/\f.Perm S.l,?_,λs pre A B m i=>m.dZ a0 i,λ_ _ _ _ e _=>e,?_,?_,?_,trivial⟩
 ·intro w6 k6 s6
  exact⟨ai.af k6,ai.af k6,λc b=>b.elim,λc b=>b.elim,oM,none,0,0,λ_=>False,[],k6.get d1 id,aO.nil _,λc b=>b.elim,trivial,Qj _⟩
 ·rintro s pre A m f8 t1 t2 t3 t tn u t4 t5 t6 t7 t8 t9 ⟨f9,d,k,z,N,he,hr,P,a1⟩
  simp only [aB,List.cons.injEq,Value.agg.injEq,Array.mk.injEq,Value.int.injEq,XX,and_true,true_and]at he;obtain⟨rfl,rfl,rfl,⟨rfl,rfl,rfl⟩,rfl,rfl,rfl,rfl,rfl,rfl⟩:=he;refine PA.mk λg0 d2 g1 d3=>az (aV d t tn u) d3 rfl λd4 d5 g2 d6=>?_;have k2:ai A d4:=d2.new d5 λc b=>.inr oM;refine⟨ai.af k2,λb8 i=>?_⟩;have I:=(m.ah k2).dZ a0 i;have b9:=i.1.get d6 oM;have g6:=i.2;have c0:∀c,q.D c->c<w9.heap.size/\c≠l.heap.size:=λc b=>⟨b5.aC c (e.sub c (.inr (.inr (.inr b)))),λd=>b7 (d▸e.sub c (.inr (.inr (.inr b))))⟩
  have c1:=hr.af I.af λc b=>(c0 c b).2;have d7:ai w b8:=Z.new I.af λc b=>.inr oM;refine⟨_,ae (I.af.get d0 oM) rfl,ar (aV d t tn u) b9 ⟨a,r,U,rfl,hg,PC.ok (hp d t tn u _ b8 d7 c1 P a1) ?_⟩⟩;rintro _ d8 ⟨rfl,a2⟩;refine⟨_,rfl,al.mk (λi=>λc2 d9=>?_) (λhf=>?_)⟩
  ·have e0:ai d8 c2:=d9.af
   have Q:=a2.then e0;have e1:=I.ah Q;obtain⟨J,R,K,v,h5,T,ln,lc,G,f,n,j,g,o,h9⟩:=e1;have e2:=c1.ah Q;have b6:=o.length;refine⟨no,id,_,_,_,ae n rfl,ar (aV d t tn u) (Q.get b9 id) (PC.ok (lD e2 λc b=>by have:=(c0 c b).1;omega) ?_)⟩;rintro _ g7 ⟨e3,cn,cc,G2,rfl,e4,V,a3⟩;have g8:=a3.size;refine⟨_,_,_,_,_,_,_,_,_,_,_,_,rfl,ai.af a3,PA.mk λg9 a4 h0 e5=>⟨ai.af a4,?_⟩⟩;have kk:=a3.then a4;refine dQ (c:=f_) (j.ah kk) FM e5 (D:=G2) (x:=d) ⟨e3,cn,cc,rfl,e4.ah a4,P⟩ (λc b=>⟨by have:=V c b;omega,λd=>by have:=V c b;have:=j.aC _ (j.self _ d);omega⟩) ?_ ?_ λa' L h1 F' e6 a5 c3=>⟨_,_,_,rfl,?_⟩
   ·have:=List.length_filter_le Pr f;unfold aI;omega
   ·have:=List.length_filter_le Pr f;unfold maxLen;omega
   have W:=j.self;have a6:¬aF T=some l.heap.size:=λd=>by have:=(g _ (W _ d)).1;omega
   have e7:=a5.get (kk.get n id) a6;refine PS.mk e7 sM λe8 c4 i0 e9=>?_;have H:ak (λc=>aF T=some c\/c=l.heap.size) c2 e8:=((ai.af kk).then (a5.mono λc _ b=>.inl b)).then (c4.mono λc _ b=>.inr b);have i1:=a5.size;refine⟨(ai.af Q).trans H (λ_ _ e=>e) λc _ b=>?_,?_⟩
   ·rcases b with b|rfl
    ·have:=(g _ (W _ b)).1;exact⟨oM,oM⟩
    ·exact⟨oM,oM⟩
   refine⟨J.new H ?_,R.trans H (λ_ _ e=>e) λc _ b y=>?_,K,λc b=>by have:=v c b;omega,oM,a',ln+1,L,F',f++[d],?_,?_,?_,o.snoc ⟨t,tn,u,rfl,hr,P,a1⟩,?_⟩
   ·rintro c (b|b)
    ·exact .inr (by have:=(g _ (W _ b)).1;omega)
    ·exact .inl b
   ·rcases b with b|b
    ·exact(g _ (W _ b)).2 y
    ·exact(K c y).2.2 b
   ·rw [e9];rfl
   ·have a7:(f++[d]).filter Pr=f.filter Pr++[d]:=by rw [List.filter_append];simp [i]
    rw [a7];refine e6.af c4 λc b d=>?_;rcases c3 c b with b|b|b
    ·have:=(g c b).1;omega
    ·have:=V c b;omega
    ·omega
   ·intro c b
    rcases c3 c b with b|b|b
    ·exact g c b
    ·have:=V c b;exact⟨oM,λy=>by have:=v c y;omega⟩
    ·exact⟨oM,λy=>by have:=v c y;omega⟩
   ·simp;omega
  ·refine⟨ai.af a2,?_⟩
   obtain⟨J,R,K,v,h5,T,ln,lc,G,f,n,j,g,o,h9⟩:=I.ah a2;have b6:=o.length;refine⟨J,R,K,v,h5,T,ln,lc,G,f++[d],n,?_,g,o.snoc ⟨t,tn,u,rfl,hr,P,a1⟩,by simp;omega⟩;have a7:(f++[d]).filter Pr=f.filter Pr:=by rw [List.filter_append];simp [hf]
   rw [a7];exact j
 ·intro f0 Rx hR _ i2 hy w6 f1 f2
  refine Calls.mono (Pd (R:=f0) a0 X b5 c9 oM b7 hR (λs pre vs A m f3 i hN=>(hy s pre vs A m f3 i hN).mono ?_) f1 f2) ?_
  ·rintro c A' (e|⟨-,x,e,-⟩)
   ·exact e
   ·exact e.elim
  ·rintro _ A' ⟨C,rfl,f4,s,h,a8,hT⟩
   exact⟨⟨C,rfl⟩,.inl ⟨f4,s,h,a8,hT⟩⟩
 ·rintro s h A m ⟨L',f5,f6⟩ hm
  obtain⟨J,R,K,v,h5,k,z,N,G,f,n,j,g,o,h9⟩:=m;obtain rfl:=qh.unique o f5;have a9:(f.filter Pr).Perm (S.l.filter Pr):=f6.filter _;refine⟨_,_,_,ae n rfl,PC.ok (HY j (by rw [a9.length_eq];exact Xx (List.length_filter_le ..) hl)) ?_⟩;rintro _ i3 ⟨rfl,l',M,b0,b1,b2⟩;have b3:=j.self;have a6:¬aF k=some l.heap.size:=λd=>by have:=(g _ (b3 _ d)).1;omega
  have f7:¬aF k=some w9.heap.size:=λd=>by have:=(g _ (b3 _ d)).1;omega
  refine⟨rfl,_,_,_,ae (b2.get n a6) rfl,b2.get hm f7,λi4 ⟨c5,i5⟩=>Ok.mk ?_⟩;have c6:=List.filter_sublist (p:=Pr) (l:=S.l);obtain rfl:l'=S.l.filter Pr:=Kg b0 (X.Ns.sublist c6) (M.trans a9) (((M.trans a9).map aR).nodup_iff.2 (X.ids.sublist (c6.map _)));refine⟨k,z,N,G,rfl,b1.af c5 λc b d=>by have:=(g c b).1;omega,?_,λc b=>by have:=(g c b).1;omega⟩;exact((Z.new J λc b=>.inr oM).new b2 λc b=>.inr (by have:=(g c (b3 c b)).1;omega)).new c5 λc b=>.inr oM
end
end Go.Proofs.YthnilpgpacdmnaaGreatDoor
namespace Go.au
variable{u:List Int}{a:Nat}{f:Nat->Prop}{d:Option Addr}{j:Type}{g:TypeId}{b:World}
theorem Row.r_ {D:Nat->Prop} (c:Row aG 8 b D d a u):Ints b d a u:=by
 have o:=c.len;refine⟨o,c.dt,λj p=>?_,λi j e=>?_⟩
 ·obtain⟨i,e,rfl⟩:=List.getElem_of_mem p
  obtain⟨k,l,q,h,f,m,n⟩:=c.kp (i:=i) oM;rw [Qq e]at f;rw [XJ f];exact m
 ·have s:=(Qv.1 e).1
  obtain⟨k,l,t,h,r,v,w,x⟩:=c.el i j e;obtain⟨y,z,q,g,f,m,n⟩:=c.kp (i:=i) oM;rw [e]at f;rw [h]at g;cases g
  exact⟨k,l,h,r,by rw [n,XJ f]⟩
theorem Own.take {d:World} {e:TypeId} {k:Nat} {f:Option Addr} {b g m:Nat} {cs:List Value} (h:Own d e k f b g cs) (i:m<=b):Own d e k f m g (cs.take (m*k)):=by
 have j:=h.length;have l:m*k<=b*k:=Q0 _ i;refine⟨⟨by rw [Qy,j];omega,?_⟩⟩;rcases h.row.2 with⟨a,rfl⟩|⟨n,o,c,a,p,q,u,r,s,t⟩
 ·obtain rfl:m=0:=oM
  exact .inl ⟨a,rfl⟩
 ·simp only [XX]at a
  refine .inr ⟨n,o,c,by rw [a.1,a.2.2],p,q,oM,r,s,?_⟩;rw [<-t,List.take_take,X2 l]
theorem aO.take {e:jk j} {h a m:Nat} {i:List j} (c:aO e g f b d h a i) (k:m<=h):aO e g f b d m a (i.take m):=by
 obtain⟨cs,D,l,n,o⟩:=c.body;exact⟨⟨_,D,l.take k,n.take m,o⟩,c.self,c.aC⟩
end Go.au
namespace Go.Proofs.YthnilpgpacdmnaaGreatDoor
open Go.au
set_option linter.unusedVariables false
set_option maxRecDepth 20000
variable{e:Int}{u:List Int}{a c:Nat}{d:Option Addr}
section
variable {w w' w1:World} {p:Nat} {F T:Nat->Prop} {S:aw} {q:Pb}
theorem qj (e:cj w p F S) (a:S.l.length<=20000000):Calls Tryz.prog 37 #[.pointer (some ⟨p,0,none⟩)] w (Ok (oy f_ 60 w S.l)):=by
 refine vl (PC.ok (Bh e a (Pr:=λ_=>true) kR λi b c d D w1 j k l m=>?_) ?_)
 ·exact sk (PA.mk λn f o q=>Ok.mk ⟨rfl,f⟩)
 ·rintro _ r ⟨b,c,d,G,rfl,a,g,h⟩
  rw [List.filter_eq_self.2 sM]at a;exact⟨_,_,_,rfl,Ok.mk ⟨b,c,d,G,rfl,a,g,h⟩⟩
theorem xg (q:cj w p F S) (r:S.l.length<=20000000) {D:Nat->Prop} (s:Row aG 8 w D d a u) :
  Calls Tryz.prog 67 #[.pointer (some ⟨p,0,none⟩),.slice d a c,.int .i64 e] w (Ok (oy f_ 60 w (S.missing u e))):=by
 refine ox (PA.mk λw1 i H t=>PC.ok (Bh (q.ah i) r (Pr:=λb=>decide (max 0 (eJ u b.origin)<b.seq)) kR λb k g l I J v K L M=>?_) ?_)
 ·refine lV (PA.mk λm n N h=>λx y=>⟨no,id,?_⟩)
  have j:ai m x:=y.af;have h:=j.get h id;have o:=v.then (n.then j);refine⟨_,ae h rfl,_,_,_,ae (o.get t id) rfl,_,ae h rfl,PC.ok (mJ (s.r_.ah (i.then o))) ?_⟩;rintro _ _ ⟨rfl,rfl⟩;refine⟨_,rfl,ak.refl _,Ok.mk ⟨?_,n.then j⟩⟩
  congr 1
  rw [decide_eq_decide];split<;>omega
 ·rintro _ m ⟨k,g,l,G,rfl,f,z,A⟩
  have O:=f.len dC;have P:=f.jD;have B:(if e>0 then e else 0)=max 0 e:=by split<;>omega
  refine⟨_,_,_,rfl,?_⟩;rw [B];refine⟨by split<;>omega,by split<;>omega,Ok.mk ⟨k,_,l,G,rfl,?_,i.then z,λC E=>by have:=A C E;omega⟩⟩;have:=f.take (m:=Int.toNat (if max 0 e<(g:Int)then max 0 e else(g:Int))) (by split<;>omega);unfold aw.missing;have b:(List.filter (λb=>decide (max 0 (eJ u b.origin)<b.seq)) S.l).take (Int.toNat (if max 0 e<(g:Int)then max 0 e else(g:Int)))=(List.filter (λb=>decide (max 0 (eJ u b.origin)<b.seq)) S.l).take (max 0 e).toNat:=by
   split
   ·rfl
   ·rw [Qz oM,Qz oM]
  rw [<-b];exact this
theorem xi {b:Type} (p:b->Bool):∀a:List b,a.find? p=(a.filter p).head?
 |[]=>rfl
 |x::a=>by
  rw [List.find?_cons,List.filter_cons]
  cases p x
  ·exact xi p a
  ·rfl
theorem MP (H:cj w p F S) (s:S.l.length<=20000000) {key:Int}:
  Calls Tryz.prog 83 #[.pointer (some ⟨p,0,none⟩),.int .i64 key] w (Ok λI w'=>∃t u J G,I= .tuple #[ji ((S.keyed key).getD qC) t u J,.bool (S.keyed key).isSome]/\Row aG 8 w' G t u ((S.keyed key).getD qC).aN/\(∀a,G a->w.heap.size<=a/\a<w'.heap.size)/\ai w w'):=by
 refine qZ (PA.mk λw1 n s1 v=>PA.mk λw2 k s2 K=>PC.ok (Bh ((H.ah n).ah k) s (Pr:=λb=>key !=0&&b.key==key) kR λb L M N D' O P hr x hm=>?_) ?_)
 ·refine oq (PA.mk λy e z g=>?_)
  have A:=(k.then P).then e;refine⟨_,ae (A.get v id) rfl,al.df (λQ=>⟨_,ae g rfl,_,ae (A.get v id) rfl,Ok.mk ⟨?_,e⟩⟩) (λx=>Ok.mk ⟨?_,e⟩)⟩
  ·rw [show(key !=0)=true by simpa using Q];rfl
  ·rw [x];rfl
 ·rintro _ O ⟨L,M,N,G,rfl,c,o,B⟩
  have l:=c.len dC;have C:=o.get K id;have E:S.keyed key=(S.l.filter λb=>key !=0&&b.key==key).head? :=xi _ _;refine⟨_,_,_,rfl,al.dJ (λR=>?_) (λR=>?_)⟩
  ·have:(S.l.filter λb=>key !=0&&b.key==key)=[]:=QW oM
   rw [E,this];refine az (aV qC none 0 0) C rfl λy e z g=>ar (aV qC none 0 0) g (Ok.mk ⟨none,0,0,λ_=>False,rfl,Row.nil _ _,λa d=>d.elim,((n.then k).then o).new e λa d=>.inr oM⟩)
  ·cases m:S.l.filter λb=>key !=0&&b.key==key with
   |nil=>rw [m]at l;simp at l;omega
   |cons f T=>
    rw [m]at c l;have a0:(f::T).length<=20000000:=by rw [<-m];exact Xx (List.length_filter_le ..) s
    have U:=c.row (bytes:=96) dC (by unfold aI;omega);obtain⟨a,q,es,V,d,a1,W,h,i,j,rfl,X,a3⟩:=U.el 0 f rfl;rw [E,m];refine⟨a,q,V,oM,by simp at l;omega,?_⟩;have Y:q+Int.toNat 0*10=q:=rfl;rw [Y];refine bq (es:=aB f h i j) (k:=10) (aV f h i j) rfl (λZ r=>?_) (az (aV f h i j) C rfl λy e z g=>ar (aV f h i j) g (Ok.mk ⟨h,i,j,G,rfl,?_,?_,?_⟩))
    ·have:=W Z r
     simpa using this
    ·exact X.af e λa d b=>by have:=B a d;omega
    ·intro a d;have:=B a d;have:=c.aC a d;omega
    ·exact((n.then k).then o).new e λa d=>.inr oM
end
end Go.Proofs.YthnilpgpacdmnaaGreatDoor
namespace Go.Proofs.YthnilpgpacdmnaaGreatDoor
open Go.au
set_option linter.unusedVariables false
set_option maxRecDepth 20000
variable{e n:Int}{u:List Int}{a c:Nat}{d:Option Addr}{j:Type}
theorem RT (d:a+c<4611686018427387904):IntKind.wrap .i64 (fU .u64 (IntKind.wrap .u64 (IntKind.wrap .i64 ((a:Int)+(c:Int)))) 1)=(((a+c)/2:Nat):Int):=by
 rw [wrap_i64 (x:=(a:Int)+c) (by unfold aK;omega)];have b:IntKind.wrap .u64 ((a:Int)+(c:Int))=((a+c:Nat):Int):=by
  unfold IntKind.wrap;simp [IntKind.signed,IntKind.bits];omega
 rw [b,show(1:Int)=((1:Nat):Int)from rfl,Lt dC,wrap_i64 (by unfold aK;omega)]
def posOf {a:Type} (b:a->Bool) (c:List a):Nat:=(c.takeWhile b).length
theorem yL (a:j->Bool) (b:List j):posOf a b<=b.length:=(List.takeWhile_sublist a).length_le
theorem yM {e:Type} {p:e->Bool}:∀{l:List e} {i:Nat},i<=l.length->(∀a x,a<i->l[a]? =some x->p x=true)->(∀x,l[i]? =some x->p x=false)->posOf p l=i
 |[],i,b,_,_=>by simp at b;subst b;rfl
 |x::l,0,_,_,g=>by
  have:=g x rfl;simp [posOf,this]
 |x::l,i+1,b,f,h=>by
  have j:=f 0 x oM rfl;have:=yM (p:=p) (l:=l) (i:=i) (by simpa using b) (λa c k d=>f (a+1) c oM (by simpa using d)) (λc d=>h c (by simpa using d));unfold posOf at this⊢;rw [List.takeWhile_cons,j];simp [this]
section
variable {w w':World} {D:Nat->Prop}
theorem RU {w:World}:Calls Tryz.prog 309 #[.int .i64 e] w (Ok λa w'=>a= .bool false/\w=w'):=rW (Ok.mk ⟨sM,rfl⟩)
theorem Np {w:World}:Calls Tryz.prog 308 #[.int .i64 e,.int .i64 n] w (Ok λa w'=>a= .bool (decide (e<n))/\w=w'):=by
 refine yN (PC.ok isNaN ?_);rintro _ _ ⟨rfl,rfl⟩;exact⟨_,rfl,al.ff rfl (Ok.mk ⟨rfl,rfl⟩)⟩
abbrev uZ (a:List Int):Prop:=a.Pairwise (·<·)
theorem rX (t:Row aG 8 w D d a u) (H:uZ u):
  Calls Tryz.prog 277 #[.slice d a c,.int .i64 e] w (Ok λI w'=>I= .tuple #[.int .i64 (posOf (λb=>decide (b<e)) u:Nat),.bool (decide (e∈u))]/\w=w'):=by
 have O:=t.len;have J:=t.dt;unfold aI at J;have A:∀{i l:Nat} {b n:Int},u[i]? =some b->u[l]? =some n->i<=l->b<=n:=λ{i l b n} j o P=>by
  obtain⟨p,rfl⟩:=Qv.1 j;obtain⟨q,rfl⟩:=Qv.1 o;rcases Nat.lt_or_ge i l with h|h
  ·exact Int.le_of_lt (List.pairwise_iff_getElem.1 H i l p q h)
  ·obtain rfl:i=l:=oM
   exact Int.le_refl _
 refine ie ⟨λF i l w'=>∃f k:Nat,i=f/\l=k/\F=k-f/\f<=k/\k<=a/\(∀g b,g<f->u[g]? =some b->b<e)/\(∀g b,k<=g->u[g]? =some b->e<=b)/\w=w',
  ⟨_,0,a,rfl,rfl,rfl,oM,oM,λg b m=>oM,λg b m j=>by have:=(Qv.1 j).1;omega,rfl⟩,?_⟩
 rintro F _ _ _ _ ⟨f,k,rfl,rfl,rfl,Q,K,p,q,rfl⟩;refine al.dec (λR=>?_) (λS=>?_)
 ·rw [RT oM]
  obtain⟨v,x,b,y,j,-,z⟩:=t.kp (i:=(f+k)/2) oM;refine⟨v,x,y,oM,oM,b,by rw [Qx];exact z,PC.ok Np ?_⟩;rintro _ _ ⟨rfl,rfl⟩;refine⟨_,rfl,al.dec (λL=>⟨_,?_,(f+k)/2+1,k,aq oM,rfl,rfl,oM,K,λg n m o=>?_,q,rfl⟩) (λL=>⟨_,?_,f,(f+k)/2,rfl,rfl,rfl,oM,oM,p,λg n m o=>?_,rfl⟩)⟩
  ·omega
  ·have:=A o j oM;omega
  ·omega
  ·have:=A j o m;omega
 ·obtain rfl:f=k:=oM
  have M:posOf (λb=>decide (b<e)) u=f:=yM oM (λg b m j=>by simpa using p g b m j) (λb j=>by have:=q f b (Q4 _) j;simp;omega);rw [M];have B:e∈u↔u[f]? =some e:=by
   constructor
   ·intro r
    obtain⟨g,m,rfl⟩:=List.getElem_of_mem r;have s:u[g]? =some u[g]:=Qq m;rcases Nat.lt_or_ge g f with h|h
    ·have:=p g _ h s;omega
    ·have C:f<u.length:=oM
     have T:=q f _ (Q4 _) (Qq C);have U:=A (Qq C) s h;rw [Qq C];congr 1;omega
   ·exact QZ
  refine al.dec (λN=>?_) (λN=>?_)
  ·obtain⟨v,x,b,y,j,-,z⟩:=t.kp (i:=f) oM
   refine⟨v,x,y,oM,oM,b,z,al.dJ (λE=>Ok.mk ⟨?_,rfl⟩) (λE=>⟨v,x,y,oM,oM,b,z,PC.ok RU ?_⟩)⟩
   ·rw [decide_eq_true (B.2 (E▸j))]
   ·rintro _ _ ⟨rfl,rfl⟩
    refine⟨_,rfl,al.ff rfl (Ok.mk ⟨?_,rfl⟩)⟩;rw [Xv];intro r;have:=B.1 r;rw [j]at this;exact E (XJ this)
  ·refine Ok.mk ⟨?_,rfl⟩
   rw [Xv];intro r;have:=(Qv.1 (B.1 r)).1;omega
end
theorem F_ {b:Int}:∀{a:List Int},uZ a->b∉a->oI b a=a.take (posOf (λy=>decide (y<b)) a)++b::a.drop (posOf (λy=>decide (y<b)) a)
 |[],_,_=>rfl
 |y::a,e,c=>by
  obtain⟨g,f⟩:=List.pairwise_cons.1 e;simp only [Q2,not_or]at c;unfold oI posOf
  by_cases d:b<y
  ·rw [if_pos d,List.takeWhile_cons,Xv oM];rfl
  ·rw [if_neg d,if_neg c.1,List.takeWhile_cons,decide_eq_true (show y<b by omega),F_ f c.2];rfl
theorem th {c:Int}:∀{a:List Int},c∈a->uZ a->oI c a=a
 |y::a,b,d=>by
  obtain⟨e,f⟩:=List.pairwise_cons.1 d;unfold oI;rcases Q2.1 b with rfl|b
  ·rw [if_neg oM,if_pos rfl]
  ·have:=e c b
   rw [if_neg oM,if_neg oM,th b f]
theorem Gb {c a:Int}:∀{b:List Int},a∈oI c b↔a=c\/a∈b
 |[]=>by simp [oI]
 |y::b=>by
  unfold oI;split
  ·simp
  ·split
   ·rename_i h;subst h;simp
   ·simp only [Q2,Gb]
    constructor
    ·rintro(h|h|h)<;>simp [h]
    ·rintro(h|h|h)<;>simp [h]
theorem Cw {f:Int}:∀{b:List Int},uZ b->uZ (oI f b)
 |[],_=>List.pairwise_singleton ..
 |y::b,c=>by
  obtain⟨e,g⟩:=List.pairwise_cons.1 c;unfold oI;split
  ·rename_i h
   exact List.pairwise_cons.2 ⟨λd a=>by
    rcases Q2.1 a with rfl|a
    ·exact h
    ·have:=e d a;omega,c⟩
  ·split
   ·exact c
   ·refine List.pairwise_cons.2 ⟨λd a=>?_,Cw g⟩
    rcases Gb.1 a with rfl|a
    ·omega
    ·exact e d a
theorem Kr {b:Int}:∀{a:List Int},uZ a->b∈a->(a.filter λy=>y !=b)=a.eraseIdx (posOf (λy=>decide (y<b)) a)/\posOf (λy=>decide (y<b)) a<a.length
 |y::a,g,d=>by
  obtain⟨f,h⟩:=List.pairwise_cons.1 g;rcases Q2.1 d with rfl|d
  ·have e:posOf (λy=>decide (y<b)) (b::a)=0:=by simp [posOf]
   rw [e];refine⟨?_,sM⟩;rw [List.filter_cons_of_neg sM,List.eraseIdx_zero,List.tail_cons];refine List.filter_eq_self.2 λc i=>?_;have:=f c i;simp;omega
  ·have j:=f b d
   obtain⟨k,l⟩:=Kr h d;have e:posOf (λc=>decide (c<b)) (y::a)=posOf (λc=>decide (c<b)) a+1:=by simp [posOf,j]
   rw [e,List.filter_cons_of_pos (by simp;omega),List.eraseIdx_cons_succ,k];exact⟨rfl,by simp;exact l⟩
theorem Gc (a:e∉u):(u.filter λb=>b !=e)=u:=List.filter_eq_self.2 λd c=>by
 simp only [bne_iff_ne,ne_eq];rintro rfl;exact a c
end Go.Proofs.YthnilpgpacdmnaaGreatDoor
namespace Go.au
open Go
set_option linter.unusedVariables false
variable{t:Ending->World->Prop}{C a c i l:Nat}{f:Nat->Prop}{Q W:Operand}{d p:Option Addr}{j:Type}{g q:TypeId}{o s:Value->World->Prop}{b:World}{y:World->Prop}
theorem yT {m:Program} {k bytes:Nat} {i:j->List Value} {n:j->Prop} {hl hone} (u:ix m g q k bytes) (I:0<bytes) {l:List j} {D:Nat->Prop} (h:Row (flat k i n hl hone) bytes b D d a l) (v:∀e,D e->e<b.heap.size)
  (w:∀x y,oy (flat k i n hl hone) q b l x y->t (.returned x) y):
  aE m (do eqGuard .eql g Q W (.slice d a c) (.slice none 0 0);binOp .eql g (.slice d a c) (.slice none 0 0)) b (λJ p=>∃(z:Bool),J= .bool z/\al z (t (.returned (.slice none 0 0)) p) (PA p (.cells #[] q) λK=>
   aE m (Builtin.append_ #[g,g] g #[.slice (some ⟨p.heap.size,0,none⟩) 0 0,.slice d a c]) K (λL M=>∃(A:Option Addr) (B:Nat) (C:Nat),L= .slice A B C/\t (.returned (.slice A B C)) M) o)) s:=by
 have E:=h.len;have f:=h.dt;refine js u.under ⟨_,rfl,al.mk (λr=>?_) (λr=>PA.mk λN F a0 O=>?_)⟩
 ·have:l=[]:=by
   cases d with
   |none=>
    cases l with
    |nil=>rfl
    |cons Q a1=>obtain⟨e,P,es,R,_⟩:=h.el 0 Q rfl;cases R
   |some S=>cases r
  subst this;exact w _ _ ⟨none,0,0,λ_=>False,rfl,aO.nil b,ak.refl _,λ_ h=>h.elim⟩
 ·cases d with
  |none=>cases r
  |some S=>
   have T:aO (flat k i n hl hone) q (·=b.heap.size) N (some ⟨b.heap.size,0,none⟩) 0 0 []:=
    ⟨⟨[],λ_=>False,Own.yJ (cur:= #[]) O sM (Qj _),rfl,λ_ h=>h.elim⟩,λe f=>by simpa [aF]using f.symm,λe f=>oM⟩
   have U:a<=maxLen:=by
    unfold aI at f;unfold maxLen;have:a*1<=a*bytes:=Nat.mul_le_mul_left _ I;omega
   refine jM T u (D:=D) (h.ah F) (λe f=>⟨by have:=v e f;omega,by have:=v e f;simp only [aF];intro q;cases q;omega⟩) (by rw [List.length_nil,Xz,<-E];exact f) (by rw [List.length_nil,Xz,<-E];exact U) λH V w2 F' X Y _ Z=>?_;refine⟨_,_,_,rfl,w _ _ ⟨H,_,V,λe=>aF H=some e,rfl,by have h:=X.alone;rw [List.nil_append]at h;exact h,F.new Y λe f=>.inr ?_,λe f=>?_⟩⟩
   ·simp only [aF,Q1]at f;omega
   ·rcases Z e f with h|h<;>omega
structure Bx (α:Type) where
 x:α
 a:Option Addr
 n:Nat
 c:Nat
structure eg (α β:Type) where
 k:Nat
 ci:jk β
 ib:Nat
 inner:α->List β
 hd:α->Option Addr->Nat->Nat->List Value
 ok:α->Prop
 hl:∀x a n c,(hd x a n c).length=k
 h1:∀x a n c,∀u∈hd x a n c,u.oneCell'=true
 o:Nat
 ho:o<k
 eR:∀x a n c a' n' c',(hd x a n c).set o (.slice a' n' c')=hd x a' n' c'
section
variable {α β:Type} (N:eg α β)
def eg.jt:jk (Bx α):=flat N.k (λa=>N.hd a.x a.a a.n a.c) (λ_=>True) (λa=>N.hl ..) (λa=>N.h1 a.x a.a a.n a.c)
def eg.Lz:jk α where
 k:=N.k
 rep:=λj D e cs=>∃a b c,cs=N.hd e a b c/\Row N.ci N.ib j D a b (N.inner e)/\N.ok e
 af:=λ⟨a,b,c,d,f,g⟩ k h=>⟨a,b,c,d,f.af k h,g⟩
 mono:=λ⟨a,b,c,d,f,g⟩ h=>⟨a,b,c,d,f.mono h,g⟩
 len:=λ⟨a,b,c,d,_,_⟩=>by rw [d];exact N.hl ..
 one:=λ⟨a,b,c,d,_,_⟩ l i=>by rw [d]at i;exact N.h1 _ _ _ _ l i
variable {N} {w w':World} {D:Nat->Prop}
def eg.In (N:eg α β) (w:World) (D:Nat->Prop) (a:Bx α):Prop:=Row N.ci N.ib w D a.a a.n (N.inner a.x)/\N.ok a.x
theorem eg.In.af {S:Nat->Prop} {a:Bx α} (b:N.In w D a) (c:ak S w w') (d:∀a,D a->¬S a):N.In w' D a:=⟨b.1.af c d,b.2⟩
theorem eg.In.mono {a:Bx α} (b:N.In w D a) (c:∀a,D a->f a):N.In w f a:=⟨b.1.mono c,b.2⟩
theorem eg.bR:∀{b:List α} {cs:List Value},bu N.Lz w D b cs->∃a:List (Bx α),a.map (·.x)=b/\bu N.jt w D a cs/\∀c∈a,N.In w D c
 |[],_,e=>⟨[],rfl,e,sM⟩
 |x::b,_,⟨f,g,h,⟨i,j,k,l,m,n⟩,o⟩=>by
  obtain⟨a,p,q,r⟩:=eg.bR o;refine⟨⟨x,i,j,k⟩::a,by simp [p],⟨f,g,h,⟨l,trivial⟩,q⟩,λc d=>?_⟩;rcases Q2.1 d with rfl|d
  ·exact⟨m,n⟩
  ·exact r c d
theorem eg.OJ {d:Nat->Prop}:∀{a:List (Bx α)} {cs:List Value},bu N.jt w d a cs->(∀b∈a,N.In w D b)->bu N.Lz w D (a.map (·.x)) cs
 |[],_,e,_=>e
 |b::a,_,⟨f,g,h,⟨i,_⟩,j⟩,c=>⟨f,g,h,⟨b.a,b.n,b.c,i,c b (QV ..)⟩,eg.OJ j λk l=>c k (QJ _ l)⟩
theorem eg.boxes {bytes:Nat} {e:List α} (f:Row N.Lz bytes w D d a e):∃b:List (Bx α),b.map (·.x)=e/\Row N.jt bytes w D d a b/\∀j∈b,N.In w D j:=by
 obtain⟨cs,o,p⟩:=f.bR;obtain⟨b,k,q,r⟩:=eg.bR o;have g:b.length=e.length:=by rw [<-k];simp
 have s:0<N.Lz.k:=Nat.lt_of_le_of_lt (Qj _) N.ho;refine⟨b,k,⟨by rw [g];exact f.len,f.dt,λC j h=>?_⟩,r⟩;have t:e≠[]:=by rintro rfl;rw [List.length_nil]at g;rw [QW g]at h;simp at h
 obtain⟨u,i,v,x,y,z⟩:=p t s;obtain⟨l,A,m⟩:=q.at h;refine⟨u,i,l,v,x,y,λn B=>?_,m⟩;have E:=N.jt.len m;have c:=A n B;rw [Qq (show n<l.length by omega)]at c⊢;rw [Nat.add_assoc];exact z _ _ c
theorem eg.unbox {h:List (Bx α)} (k:aO N.jt g f w d a c h) (e:∀b∈h,N.In w D b) (i:∀b,D b->b<w.heap.size/\aF d≠some b):aO N.Lz g (λb=>aF d=some b\/D b) w d a c (h.map (·.x)):=by
 obtain⟨cs,m,j,l,n⟩:=k.body;refine⟨⟨cs,D,j,eg.OJ l e,λb e=>⟨.inr e,(i b e).2⟩⟩,λb e=>.inl e,λb e=>?_⟩;rcases e with e|e
 ·exact j.lt e
 ·exact(i b e).1
theorem eg.set {h:List (Bx α)} (n:aO N.jt g f w d a c h) {b:Bx α} (o:h[i]? =some b) {m e:Nat} (q:d=some ⟨m,e,none⟩)
  (k:∀j,aO N.jt g f j d a c (h.set i ⟨b.x,p,l,C⟩)->ak (λb=>aF d=some b) w j->j.heap.size=w.heap.size->y j):PS w ⟨m,e+i*N.k+N.o,none⟩ (.slice p l C) y:=
 aO.set (x':=⟨b.x,p,l,C⟩) n o N.ho (N.eR ..).symm q k
end
end Go.au
namespace Go.Proofs.YthnilpgpacdmnaaGreatDoor
open Go.au
set_option linter.unusedVariables false
set_option maxRecDepth 20000
def jo.Ok (a:jo):Prop:=aK a.bD/\aK a.oA/\aK a.jY/\aK a.least
def mE (a:jo):List Value:=[.int .i64 a.bD,.int .i64 a.oA,.int .i64 a.jY,.int .i64 a.least]
def fp:jk jo:=flat 4 mE jo.Ok (λ_=>rfl) (λb c a=>by simp [mE]at a;rcases a with rfl|rfl|rfl|rfl<;>rfl)
def di (a:a_) (b:Option Addr) (c d:Nat):List Value:=[.int .i64 a.kind,.int .i64 a.dK,.bool a.floor,.slice b c d]
def nQ:jk a_ where
 k:=4
 rep:=λj D e cs=>∃a b c,cs=di e a b c/\Row fp 32 j D a b e.bh/\aK e.kind/\aK e.dK
 af:=λ⟨a,b,c,d,f,g⟩ k h=>⟨a,b,c,d,f.af k h,g⟩
 mono:=λ⟨a,b,c,d,f,g⟩ h=>⟨a,b,c,d,f.mono h,g⟩
 len:=λ⟨a,b,c,d,_,_⟩=>by rw [d];rfl
 one:=λ⟨a,b,c,d,_,_⟩ l i=>by
  rw [d]at i;simp [di]at i;rcases i with rfl|rfl|rfl|rfl<;>rfl
def jE:jk (List a_) where
 k:=1
 rep:=λh D i cs=>∃a b c,cs=[.slice a b c]/\Row nQ 48 h D a b i
 af:=λ⟨a,b,c,d,e⟩ j f=>⟨a,b,c,d,e.af j f⟩
 mono:=λ⟨a,b,c,d,e⟩ f=>⟨a,b,c,d,e.mono f⟩
 len:=λ⟨a,b,c,d,_⟩=>by rw [d];rfl
 one:=λ⟨a,b,c,d,_⟩ k g=>by rw [d]at g;simp at g;subst g;rfl
def iw.Ok (a:iw):Prop:=aK a.aT/\aK a.field/\aK a.group/\aK a.DG/\aK a.make
def mD (a:iw):List Value:=[.int .i64 a.aT,.int .i64 a.field,.int .i64 a.group,.int .i64 a.DG,.int .i64 a.make]
def t_:jk iw:=flat 5 mD iw.Ok (λ_=>rfl) (λb c a=>by simp [mD]at a;rcases a with rfl|rfl|rfl|rfl|rfl<;>rfl)
theorem Jp:ix Tryz.prog 108 182 4 32:=⟨kR,kR,dC⟩
theorem NR:ix Tryz.prog 105 110 4 48:=⟨kR,kR,dC⟩
theorem Ko:ix Tryz.prog 22 107 1 24:=⟨kR,kR,dC⟩
theorem Jd:ix Tryz.prog 23 119 5 40:=⟨kR,kR,dC⟩
theorem Iu (a:jo):gP Tryz.prog 182 (mE a)=true:=kR
theorem eD (a:a_) (b:Option Addr) (c d:Nat):gP Tryz.prog 110 (di a b c d)=true:=kR
theorem Hz (a:a_) (b:Option Addr) (c d:Nat):Pw (dT Tryz.prog 110) (.agg (di a b c d).toArray)=true:=kR
theorem oC (a:iw):gP Tryz.prog 119 (mD a)=true:=kR
def TW:a_:=⟨0,0,false,[]⟩
structure aW (w:World) (D:Nat->Prop) (d:aM) (ta:Option Addr) (tn:Nat) (pa:Option Addr) (pn:Nat):Prop where
 aT:Row jE 24 w D ta tn d.types
 yF:Row t_ 40 w D pa pn d.projs
variable{r:Array Value}{z:FuncId}{E e n:Int}{g2:List jo}{a c:Nat}{b5:a_}
section
variable {w w':World} {D D' S:Nat->Prop} {d:aM} {ta pa:Option Addr} {tn tc pn pc:Nat}
theorem aW.af (a:aW w D d ta tn pa pn) (b:ak S w w') (c:∀e,D e->¬S e):aW w' D d ta tn pa pn:=⟨a.aT.af b c,a.yF.af b c⟩
theorem aW.ah (a:aW w D d ta tn pa pn) (b:ai w w'):aW w' D d ta tn pa pn:=a.af b λ_ _ a=>a
theorem aW.mono (a:aW w D d ta tn pa pn) (b:∀c,D c->D' c):aW w D' d ta tn pa pn:=⟨a.aT.mono b,a.yF.mono b⟩
structure eu (w:World):Prop where
 kinds:∀i,i<6->w.cell? ⟨1,i,none⟩=some (.int .i64 (pK i))
 TX:∀i,i<5->w.cell? ⟨0,i,none⟩=some (.int .i64 (([0,2,14,6,6]:List Int).getD i 0))
 lt:1<w.heap.size/\0<w.heap.size
theorem eu.ah (a:eu w) (c:ai w w'):eu w':=
 ⟨λb d=>(c.cell (a:=⟨1,b,none⟩) a.lt.1 id).trans (a.kinds b d),λb d=>(c.cell (a:=⟨0,b,none⟩) a.lt.2 id).trans (a.TX b d),
  Qk a.lt.1 c.size,Qk a.lt.2 c.size⟩
theorem bj :within e n E=true↔n<=e/\e<=E:=by simp [within]
theorem bU :Calls Tryz.prog 99 #[.int .i64 e,.int .i64 n,.int .i64 E] w (Ok λa w'=>a= .bool (within e n E)/\w=w'):=by
 refine xI (al.dec (λb=>Ok.mk ⟨?_,rfl⟩) (λb=>Ok.mk ⟨?_,rfl⟩))
 ·simp [within];omega
 ·simp [within];omega
theorem rR {e:Option Addr} (h:Row fp 32 w D e a g2) (g:∀b,D b->b<w.heap.size):
  Calls Tryz.prog 104 #[.slice e a c] w (Ok (oy fp 182 w g2)):=by
 have x:=h.len;have d:=h.dt;refine gl (js Jp.under ⟨_,rfl,al.mk (λf=>?_) (λf=>PA.mk λk i y l=>?_)⟩)
 ·have:g2=[]:=by
   cases e with
   |none=>
    cases g2 with
    |nil=>rfl
    |cons m z=>obtain⟨b,n,A,o,_⟩:=h.el 0 m rfl;cases o
   |some p=>cases f
  subst this;exact Ok.mk ⟨none,0,0,λ_=>False,rfl,aO.nil w,ak.refl _,λ_ h=>h.elim⟩
 ·cases e with
  |none=>cases f
  |some p=>
   have q:aO fp 182 (·=w.heap.size) k (some ⟨w.heap.size,0,none⟩) 0 0 []:=
    ⟨⟨[],λ_=>False,Own.yJ (cur:= #[]) l rfl (Qj _),rfl,λ_ h=>h.elim⟩,λb d=>by simpa [aF]using d.symm,λb d=>oM⟩
   refine jM q Jp (D:=D) (h.ah i) (λb d=>⟨by have:=g b d;omega,by have:=g b d;simp only [aF];intro r;cases r;omega⟩) (by simp;omega) (by unfold aI at d;unfold maxLen;simp;omega) λj s B C t u _ v=>?_;refine⟨_,_,_,rfl,Ok.mk ⟨j,_,s,λb=>aF j=some b,rfl,by have h:=t.alone;rw [List.nil_append]at h;exact h,i.new u λb d=>.inr ?_,λb d=>?_⟩⟩
   ·simp only [aF,Q1]at d;omega
   ·rcases v b d with h|h<;>omega
theorem HO {p:jo->Bool} {o:Option Addr} (j:Row fp 32 w D o a g2) (u:enters Tryz.prog z=true)
  (v:∀e f,ai w f->Calls Tryz.prog z (#[]++ #[.agg (mE e).toArray]++r) f (Ok λg q=>g= .bool (p e)/\ai f q)):
  Calls Tryz.prog 103 #[.slice o a c,.func (.func z) #[] r] w (Ok λg w'=>g= .bool (g2.any p)/\ai w w'):=by
 have F:=j.len;have x:=j.dt;unfold aI at x;refine eT (PC.ok (φ:=λg w'=>(∃d:Int,g= .int .i64 d/\(0<=d↔g2.any p=true))/\ai w w') (ft ⟨λe d w'=>∃b:Nat,d=b/\b<=a/\e=a-b/\(g2.take b).any p=false/\ai w w',
  ⟨_,0,rfl,Qj _,rfl,sM,ak.refl _⟩,?_⟩) ?_)
 ·rintro e d _ f ⟨b,rfl,H,rfl,k,h⟩
  refine al.dec (λy=>?_) (λy=>?_)
  ·obtain⟨A,l,m,I,rfl,_,_,s,B,rfl,_⟩:=(j.ah h).vO (i:=b) oM
   refine⟨A,l,rfl,oM,oM,bq (Iu m) rfl B ⟨z,_,_,rfl,u,PC.ok (v m f h) ?_⟩⟩;rintro _ q ⟨rfl,t⟩;refine⟨_,rfl,al.mk (λn=>?_) (λn=>?_)⟩
   ·exact Ok.mk ⟨⟨_,rfl,λ_=>List.any_eq_true.2 ⟨m,QZ s,n⟩,λ_=>oM⟩,h.then t⟩
   ·refine⟨_,oM,b+1,aq oM,oM,rfl,?_,h.then t⟩
    rw [Qw,s,List.any_append,k];simp [n]
  ·rw [Qz oM]at k
   exact Ok.mk ⟨⟨_,rfl,λi=>oM,λi=>by rw [k]at i;cases i⟩,h⟩
 ·rintro _ w' ⟨⟨d,rfl,C⟩,E⟩
  exact⟨_,rfl,Ok.mk ⟨by cases i:g2.any p<;>simp [i]at C⊢<;>omega,E⟩⟩
theorem aM.pG (a:d.Br e n=some b5):0<=e/\e<d.types.length/\∃b,d.types[e.toNat]? =some b/\d.at e=b/\0<=n/\n<b.length/\b[n.toNat]? =some b5:=by
 unfold aM.Br at a;split at a
 ·rename_i c
  simp only [QK,bj]at c;have f:e.toNat<d.types.length:=oM
  have g:d.at e=d.types[e.toNat]:=by unfold aM.at;rw [if_pos (bj.2 c.1)];simp [f]
  rw [g]at c a;exact⟨oM,oM,_,by simp [f],g,oM,oM,a⟩
 ·cases a
theorem nw (p:aW w D d ta tn pa pn) (z:∀a,D a->a<w.heap.size):
  Calls Tryz.prog 53 #[.agg #[.slice ta tn tc,.slice pa pn pc],.int .i64 e,.int .i64 n] w (Ok λA w'=>ai w w'/\match d.Br e n with
   |none=>A= .tuple #[.agg (di TW none 0 0).toArray,.bool false]
   |some f=>∃B C E F,A= .tuple #[.agg (di f B C E).toArray,.bool true]/\aO fp 182 F w' B C E f.bh/\(∀a,F a->w.heap.size<=a)):=by
 have q:=p.aT.len;have b:=p.aT.dt;unfold aI at b;have c:within e 0 ((tn:Int)-1)=false->d.Br e n=none:=λH=>by unfold aM.Br;rw [q]at H;rw [if_neg (by simp [H])]
 refine zl (PA.mk λw1 V s1 r=>PA.mk λw2 l s2 s=>⟨_,_,_,ae (l.get r id) rfl,PC.ok bU ?_⟩);rintro _ _ ⟨rfl,rfl⟩;rw [wrap_i64 (by unfold aK;omega)];have g:=V.then l;refine⟨_,rfl,al.not (al.mk (λi=>?_) (λi=>?_))⟩
 rotate_left
 ·refine az (cs:=di TW none 0 0) (eD _ _ _ _) s rfl λI h J j=>ar (eD _ _ _ _) j (Ok.mk ⟨g.new h λa b=>.inr oM,?_⟩)
  rw [c i]
 have W:=bj.1 i;refine⟨_,_,_,ae (l.get r id) rfl,?_⟩;obtain⟨a,k,X,es,rfl,a8,a9,Y,Z,b0,n1,c1,rfl,t⟩:=((p.ah g).aT).at (i:=e) oM oM;have K:=t.len;have a0:=t.dt;unfold aI at a0;have L:d.at e=X:=by
  unfold aM.at;rw [if_pos (by rw [<-q];exact i),QQ,Y];rfl
 have u:=Z 0 dC;simp only [jE,Nat.mul_one,Nat.add_zero]at u;refine⟨a,k,rfl,oM,oM,_,_,_,u,PC.ok bU ?_⟩;rintro _ _ ⟨rfl,rfl⟩;rw [wrap_i64 (by unfold aK;omega)];refine⟨_,rfl,al.not (al.mk (λm=>?_) (λm=>?_))⟩
 rotate_left
 ·refine az (cs:=di TW none 0 0) (eD _ _ _ _) s rfl λI h J j=>ar (eD _ _ _ _) j (Ok.mk ⟨g.new h λa b=>.inr oM,?_⟩)
  rw [show d.Br e n=none by unfold aM.Br;rw [L,<-K,if_neg (by simp [m])]]
 have a1:=bj.1 m;refine⟨_,_,_,ae (l.get r id) rfl,a,k,rfl,oM,oM,_,_,_,u,?_⟩;obtain⟨b2,a2,f,b1,rfl,b3,b4,a3,a4,M,N,O,rfl,hM,b5,b6⟩:=t.at (i:=n) oM oM;have a5:d.Br e n=some f:=by unfold aM.Br;rw [L,<-K,<-q,if_pos (by simp [i,m])];exact a3
 refine⟨b2,a2,rfl,oM,oM,bq (eD f M N O) rfl a4 (PA.mk λI h J j=>az (eD f M N O) j rfl λw4 v s4 P=>⟨_,_,_,ae P rfl,PC.ok (rR ((hM.ah h).af v λa b Q=>by have:=z a b;have:=g.size;omega) λa b=>by have:=z a b;have:=g.size;omega) ?_⟩)⟩;rintro _ w5 ⟨R,S,T,F5,rfl,a6,o,x⟩;have z5:=o.size;refine⟨_,_,_,rfl,PS.mk (o.get P id) (by simp [di]) λw6 y s6 g6=>ar (cs:=di f R S T) (eD _ _ _ _) g6 (az (eD _ _ _ _) (y.get (o.get (v.get (h.get s id) oM) id) oM) rfl λw7 U s7 g7=>ar (eD _ _ _ _) g7 (Ok.mk ⟨?_,?_⟩))⟩
 ·have a7:ai w w6:=((((g.then h).new v λa b=>.inr oM).then o)).new y λa b=>.inr oM
  exact a7.new U λa b=>.inr oM
 ·rw [a5]
  exact⟨R,S,T,F5,rfl,(a6.af y λa b Q=>by have:=x a b;omega).af U λa b Q=>by have:=x a b;omega,λa b=>by have:=x a b;have:=g.size;omega⟩
end
variable{C b4 i l:Nat}{a9 d p:Option Addr}{N m:aj}
section
variable {w w':World} {D E:Nat->Prop}
theorem tT (j:Row aG 8 w E p i N.aN):Calls Tryz.prog 307 #[ji m d a c,ji N p i l] w (Ok λk w'=>k= .bool (zO m N)/\ai w w'):=by
 refine zy (PA.mk λs n t b=>PA.mk λo g u e=>λq r=>⟨no,?_⟩);have f:ai o q:=r.af;have b:=f.get (g.get b id) id;have e:=f.get e id;have h:=(n.then g).then f;refine⟨_,_,_,ae e rfl,_,ae b rfl,id,_,ae b rfl,PC.ok (mJ (j.r_.ah h)) ?_⟩;rintro _ _ ⟨rfl,rfl⟩;exact⟨_,rfl,ak.refl _,Ok.mk ⟨rfl,h⟩⟩
theorem GC (n:Row aG 8 w D d a m.aN) (o:Row aG 8 w E p i N.aN):Calls Tryz.prog 275 #[ji m d a c,ji N p i l] w (Ok λq w'=>q= .bool (tU m N)/\ai w w'):=by
 refine BN (PA.mk λu r v b=>PA.mk λx k y g=>?_);have b:=k.get b id;have e:=r.then k;refine⟨_,_,ae b rfl,ae b rfl,_,_,ae g rfl,ae g rfl,Kn.neq ⟨_,rfl,?_⟩⟩;have s:(!(m.origin==N.origin&&m.seq==N.seq))=(aR m !=aR N):=rfl;rw [s];refine al.mk (λh=>ar (aV m d a c) b (ar (aV N p i l) g (PC.ok (tT (o.ah e)) ?_))) (λh=>Ok.mk ⟨by unfold tU;rw [h];rfl,e⟩);rintro _ z ⟨rfl,f⟩;refine⟨_,rfl,al.not (al.mk (λj=>Ok.mk ⟨by unfold tU;rw [h,j];rfl,e.then f⟩) (λj=>ar (aV N p i l) (f.get g id) (ar (aV m d a c) (f.get b id) (PC.ok (tT (n.ah (e.then f))) ?_))))⟩;rintro _ A ⟨rfl,t⟩;exact⟨_,rfl,Ok.mk ⟨by unfold tU;rw [h,j];rfl,(e.then f).then t⟩⟩
theorem ky:Im Tryz.prog 386 3:=⟨kR,kR,⟨"op", "arg",kR,dC,dC⟩,kR,kR,kR⟩
abbrev Vv (a:a_) (b:Option Addr) (c d:Nat):Value:=.agg (di a b c d).toArray
theorem vQ {e f g h:Int}:Calls Tryz.prog 274 #[Vv b5 d a c,.int .i64 e,.int .i64 f,.int .i64 g,.int .i64 h] w (Ok λA w'=>A= .bool (dV b5 (e,f) (g,h))/\ai w w'):=by
 refine sD (PA.mk λQ H U I=>PA.mk λR B V J=>PA.mk λW s X K=>PS.mk (s.get J id) sM λY t Z L=>PS.mk L sM λw5 u s5 M=>PS.mk (u.get (t.get K oM) oM) sM λw6 v s6 N=>PS.mk N sM λx y s7 O=>?_);have S:ai w x:=(((((H.then B).then s).new t λm C=>.inr oM).new u λm C=>.inr oM).new v λm C=>.inr oM).new y λm C=>.inr oM;have T:=y.get (v.get (u.get (t.get (s.get (B.get I id) id) oM) oM) oM) oM;have i:x.heap[Q.heap.size]? =some (.cells #[.int .i64 e,.int .i64 f] 386 (0,0)):=y.get (v.get M oM) oM;have j:x.heap[R.heap.size]? =some (.cells #[.int .i64 g,.int .i64 h] 386 (0,0)):=O
 clear I J K L M N O H B s t u v y
 have b:∀{m:Bool},dV b5 (e,f) (g,h)=m->Ok (λA w'=>A= .bool (dV b5 (e,f) (g,h))/\ai w w') (.returned (.bool m)) x:=λ{m} n=>Ok.mk ⟨by rw [n],S⟩;have P:(((e,f):Int×Int) !=(g,h))= !(e==g&&f==h):=rfl;refine⟨_,ae T rfl,al.dJ (λk=>?_) (λk=>al.dJ (λq=>?_) (λq=>al.dJ (λE=>?_) (λE=>b ?_)))⟩
 ·refine⟨_,ae i rfl,al.dJ (λl=>⟨_,ae j rfl,al.dJ (λo=>⟨_,_,ae i rfl,ae i rfl,_,_,ae j rfl,ae j rfl,ky.neq ⟨_,rfl,b ?_⟩⟩) (λo=>b ?_)⟩) (λl=>b ?_)⟩
  ·unfold dV;rw [if_pos k,P,show e=2 from l,show g=2 from o];rfl
  ·unfold dV;rw [if_pos k,show e=2 from l,show(g==2)=false by simpa using o];rfl
  ·unfold dV;rw [if_pos k,show(e==2)=false by simpa using l];rfl
 ·refine⟨_,ae i rfl,al.dJ (λl=>⟨_,ae j rfl,al.dJ (λo=>⟨_,_,ae i rfl,ae i rfl,_,_,ae j rfl,ae j rfl,ky.neq ⟨_,rfl,b ?_⟩⟩) (λo=>b ?_)⟩) (λl=>b ?_)⟩
  ·unfold dV;rw [if_neg k,if_pos q,P,show e=5 from l,show g=5 from o];rfl
  ·unfold dV;rw [if_neg k,if_pos q,show e=5 from l,show(g==5)=false by simpa using o];rfl
  ·unfold dV;rw [if_neg k,if_pos q,show(e==5)=false by simpa using l];rfl
 ·have r:dV b5 (e,f) (g,h)=((e==3&&f==h)&&(g==4&&h==f)||(e==4&&f==h)&&(g==3&&h==f)):=by
   unfold dV;rw [if_neg k,if_neg q,if_pos E];rfl
  refine⟨_,_,ae i rfl,ae i rfl,ky.eql ⟨_,rfl,al.mk (λz=>⟨_,_,ae j rfl,ae j rfl,ky.eql ⟨_,rfl,al.mk (λF=>b ?_) (λF=>?_)⟩⟩) (λz=>?_)⟩⟩
  ·rw [r,z,F];rfl
  ·have n:((e==3&&f==h)&&(g==4&&h==f))=false:=by rw [z,F];rfl
   exact⟨_,_,ae i rfl,ae i rfl,ky.eql ⟨_,rfl,al.mk (λp=>⟨_,_,ae j rfl,ae j rfl,ky.eql ⟨_,rfl,b (by rw [r,n,p];rfl)⟩⟩) (λp=>b (by rw [r,n,p];rfl))⟩⟩
  ·have n:((e==3&&f==h)&&(g==4&&h==f))=false:=by rw [z];rfl
   exact⟨_,_,ae i rfl,ae i rfl,ky.eql ⟨_,rfl,al.mk (λp=>⟨_,_,ae j rfl,ae j rfl,ky.eql ⟨_,rfl,b (by rw [r,n,p];rfl)⟩⟩) (λp=>b (by rw [r,n,p];rfl))⟩⟩
 ·unfold dV;rw [if_neg k,if_neg q,if_neg E]
theorem zP {f:a_} (u:Row aG 8 w D p i m.aN) (v:Row aG 8 w E a9 C N.aN):
  Calls Tryz.prog 205 #[Vv f d a c,ji m p i l,ji N a9 C b4] w (Ok λx w'=>x= .bool (lg f m N)/\ai w w'):=by
 refine vD (PA.mk λH y I z=>PA.mk λJ s K A=>PA.mk λB k L h=>?_);have n:=k.get (s.get z id) id;have j:=k.get A id;have g:=(y.then s).then k;refine⟨λt w'=>t=(f.dK==2||f.dK==3&&decide (N.arg<m.arg))/\B=w',?_,?_⟩
 ·refine⟨_,ae n rfl,al.dJ (λb=>⟨by rw [show f.dK=2 from b];rfl,rfl⟩) (λb=>⟨_,ae n rfl,al.dJ (λo=>⟨_,ae j rfl,_,ae h rfl,?_,rfl⟩) (λo=>⟨?_,rfl⟩)⟩)⟩
  ·rw [show f.dK=3 from o];rfl
  ·rw [show(f.dK==2)=false by simpa using b,show(f.dK==3)=false by simpa using o];rfl
 ·rintro t _ _ ⟨q,rfl⟩
  refine al.mk (λb=>?_) (λb=>Ok.mk ⟨by unfold lg;rw [<-q,b];rfl,g⟩);refine ar (eD f d a c) n ⟨_,ae j rfl,_,ae j rfl,_,ae h rfl,_,ae h rfl,PC.ok vQ ?_⟩;rintro _ M ⟨rfl,e⟩;refine⟨_,rfl,al.mk (λr=>ar (aV m p i l) (e.get j id) (ar (aV N a9 C b4) (e.get h id) (PC.ok (GC (u.ah (g.then e)) (v.ah (g.then e))) ?_))) (λr=>Ok.mk ⟨by unfold lg;rw [<-q,b,r];rfl,g.then e⟩)⟩;rintro _ O ⟨rfl,F⟩;exact⟨_,rfl,Ok.mk ⟨by unfold lg;rw [<-q,b,r];rfl,(g.then e).then F⟩⟩
end
def jF:eg cH Int where
 k:=2
 ci:=aG
 ib:=8
 inner:=(·.set)
 hd:=λa b c d=>[.int .i64 a.n,.slice b c d]
 ok:=λa=>aK a.n/\uZ a.set/\a.set.length<=64
 hl:=λ_ _ _ _=>rfl
 h1:=λa b c d f e=>by simp at e;rcases e with rfl|rfl<;>rfl
 o:=1
 ho:=dC
 eR:=λ_ _ _ _ _ _ _=>rfl
abbrev eP:jk cH:=jF.Lz
theorem Nt:ix Tryz.prog 49 69 2 32:=⟨kR,kR,dC⟩
abbrev PE (a:Int):Nat:=if a=1 then 208 else if a=3 then 213 else if a=5 then 216 else 211
abbrev Uk (a:Int):Nat:=if a=1 then 209 else if a=2 then 212 else if a=3 then 214 else if a=4 then 215 else 217
def oL (a:Int):Value:=.agg #[.func (.func (PE a)) #[] #[],.func (.func (Uk a)) #[] #[]]
theorem yP:lJ Tryz.prog 253 3 251 (.agg #[.nilFunc,.nilFunc]):=⟨kR,kR⟩
theorem DS:gQ Tryz.prog 3 (Value.int .i64):=Tk kR
variable{b6:List cH}
section
variable {w w':World} {D E:Nat->Prop}
theorem yQ:Calls Tryz.prog 150 #[] w (Ok λd w'=>∃c,d= .map (some c)/\bG w' c (Value.int .i64) [((1:Int),oL 1),(2,oL 2),(3,oL 3),(4,oL 4),(5,oL 5)]/\ai w w'):=by
 refine DT (PA.mk λq e r f=>?_);refine ij (k:=(1:Int)) yP DS (bG.new f) λs g h t=>ij (k:=(2:Int)) yP DS g λu i j v=>ij (k:=(3:Int)) yP DS i λx k l y=>ij (k:=(4:Int)) yP DS k λz m n A=>ij (k:=(5:Int)) yP DS m λB o p C=>Ok.mk ⟨_,rfl,o,?_⟩;exact((((e.new h λa b=>.inr oM).new j λa b=>.inr oM).new l λa b=>.inr oM).new n λa b=>.inr oM).new p λa b=>.inr oM
theorem Ks (a:1<=e) (b:e<=5):aD [((1:Int),oL 1),(2,oL 2),(3,oL 3),(4,oL 4),(5,oL 5)] e=some (oL e):=by
 have:e=1\/e=2\/e=3\/e=4\/e=5:=oM
 rcases this with rfl|rfl|rfl|rfl|rfl<;>rfl
def Tl (a:a_) (b:Option Addr) (c d:Nat) (e:Option Addr) (f g:Nat) (h arg:Int):List Value:=[.int .i64 a.kind,.int .i64 a.dK,.bool a.floor,.slice b c d,.slice e f g,.int .i64 h,.int .i64 arg]
abbrev yR (a:a_) (b:Option Addr) (c d:Nat) (e:Option Addr) (f g:Nat) (h arg:Int):Value:=.agg (Tl a b c d e f g h arg).toArray
theorem tl (a:a_) (b:Option Addr) (c d:Nat) (e:Option Addr) (f g:Nat) (h arg:Int):gP Tryz.prog 256 (Tl a b c d e f g h arg)=true:=kR
variable {f:a_} {ma ca:Option Addr} {mn mc cn cc i:Nat} {arg:Int}
theorem gh (d:ca=some ⟨a,c,none⟩) (h:i<cn):Calls Tryz.prog 210 #[yR f ma mn mc ca cn cc (i:Int) arg] w (Ok λe w'=>e= .pointer (some ⟨a,c+i*2,none⟩)/\ai w w'):=
 xv (PA.mk λj g k b=>⟨_,_,_,ae b rfl,_,ae b rfl,a,c,d,oM,oM,Ok.mk ⟨rfl,g⟩⟩)
def Nu (g:List a_) (e:List cH) (a d arg:Int):Bool:=
 let f:=g.getD a.toNat ⟨0,0,false,[]⟩
 let b:=e.getD a.toNat ⟨0,[]⟩
 if d=1 then(arg==0||Kt b.n arg)&& !(f.floor&&decide (nE (b.n+arg)<0))
 else if d=3 then decide (arg∈b.set)||decide (b.set.length<64)
 else if d=5 then(let c:=f.bh.getD arg.toNat ⟨0,0,0,0⟩;b.n==c.bD&&(decide (c.jY<0)||decide (c.least<=(e.getD c.jY.toNat ⟨0,[]⟩).n)))
 else true
theorem DU (b:List a_) (c:List cH) (a d arg:Int):ve b c a d arg=if Nu b c a d arg then 0 else 10:=rfl
theorem lE {bytes:Nat} (g:Row eP bytes w D ca cn b6) (h:i<cn):∃a b c d e,ca=some ⟨a,b,none⟩/\a<w.heap.size/\D a/\w.cell? ⟨a,b+i*2,none⟩=some (.int .i64 (b6.getD i ⟨0,[]⟩).n)/\w.cell? ⟨a,b+i*2+1,none⟩=some (.slice c d e)/\Row aG 8 w D c d (b6.getD i ⟨0,[]⟩).set/\aK (b6.getD i ⟨0,[]⟩).n/\uZ (b6.getD i ⟨0,[]⟩).set/\(b6.getD i ⟨0,[]⟩).set.length<=64:=by
 have j:=g.len;obtain⟨a,b,q,l,m,n,k,c,d,e,rfl,o,f⟩:=g.el i b6[i] (by simp [j▸h]);have p:b6.getD i ⟨0,[]⟩=b6[i]:=by simp [QQ,j▸h]
 rw [p];exact⟨a,b,c,d,e,l,m,n,by have:=k 0 dC;simpa [jF,eg.Lz]using this,by have:=k 1 dC;simpa [jF,eg.Lz]using this,o,f.1,f.2.1,f.2.2⟩
theorem Nv :Calls Tryz.prog 276 #[.int .i64 e,.int .i64 n] w (Ok λa w'=>a= .bool (Kt e n)/\w=w'):=It (Ok.mk ⟨rfl,rfl⟩)
theorem Gj {bytes:Nat} (m:Row eP bytes w D ca cn b6) (j:i<cn):
  Calls Tryz.prog 208 #[yR f ma mn mc ca cn cc (i:Int) arg] w (Ok λn w'=>n= .bool ((arg==0||Kt (b6.getD i ⟨0,[]⟩).n arg)&& !(f.floor&&decide (nE ((b6.getD i ⟨0,[]⟩).n+arg)<0)))/\ai w w'):=by
 refine Bw (PA.mk λt k u l=>ar (tl ..) l ?_);obtain⟨o,p,v,x,y,q,r,z,s,c,-⟩:=lE (m.ah k) j;refine PC.ok (gh q j) ?_;rintro _ A ⟨rfl,g⟩;have b:=g.get l id;have d:=k.then g;refine⟨_,rfl,_,_,rfl,_,(g.cell (a:=⟨o,p+i*2,none⟩) r id).trans s,_,ae b rfl,al.dJ (λe=>⟨_,ae b rfl,al.mk (λa=>⟨_,ae b rfl,Ok.mk ⟨?_,d⟩⟩) (λa=>Ok.mk ⟨?_,d⟩)⟩) (λe=>⟨_,ae b rfl,PC.ok Nv ?_⟩)⟩
 ·rw [show(arg==0)=true by simpa using e,a];rfl
 ·rw [show(arg==0)=true by simpa using e,a];rfl
 ·rintro _ _ ⟨rfl,rfl⟩
  have h:(arg==0)=false:=by simpa using e
  refine⟨_,rfl,al.mk (λc=>⟨_,ae b rfl,al.mk (λa=>⟨_,ae b rfl,Ok.mk ⟨?_,d⟩⟩) (λa=>Ok.mk ⟨?_,d⟩)⟩) (λc=>Ok.mk ⟨?_,d⟩)⟩
  ·rw [h,c,a];rfl
  ·rw [h,c,a];rfl
  ·rw [h,c];rfl
theorem Gk {bytes:Nat} (o:Row eP bytes w D ca cn b6) (b:i<cn):
  Calls Tryz.prog 213 #[yR f ma mn mc ca cn cc (i:Int) arg] w (Ok λp w'=>p= .bool (decide (arg∈(b6.getD i ⟨0,[]⟩).set)||decide ((b6.getD i ⟨0,[]⟩).set.length<64))/\ai w w'):=by
 refine By (PA.mk λq r B s=>λt u=>⟨no,?_⟩);have e:ai q t:=u.af;have c:=e.get s id;have d:=r.then e;obtain⟨g,h,C,E,F,j,k,H,I,v,l,-,x,-⟩:=lE (o.ah d) b;refine ar (tl ..) c ⟨id,_,ae c rfl,PC.ok (gh j b) ?_⟩;rintro _ J ⟨rfl,a⟩;have m:=(a.cell (a:=⟨g,h+i*2+1,none⟩) k id).trans v;refine⟨_,rfl,ai.af a,_,_,rfl,_,_,_,m,PC.ok (rX (l.ah a) x) ?_⟩;rintro _ _ ⟨rfl,rfl⟩;refine⟨_,_,rfl,ak.refl _,al.mk (λy=>Ok.mk ⟨by rw [y];rfl,d.then a⟩) (λz=>ar (tl ..) (a.get c id) (PC.ok (gh j b) ?_))⟩;rintro _ K ⟨rfl,n⟩;have A:=l.len;refine⟨_,rfl,_,_,rfl,_,_,_,(n.cell (a:=⟨g,h+i*2+1,none⟩) (Qk k a.size) id).trans m,Ok.mk ⟨?_,(d.then a).then n⟩⟩;rw [z,A]
 congr 1
 rw [Bool.false_or,decide_eq_decide];omega
theorem DV {bytes:Nat} (o:Row eP bytes w D ca cn b6) (p:i<cn) (q:Row fp 32 w E ma mn f.bh) (h0:0<=arg) (h1:arg<(mn:Int)) (r:((f.bh.getD arg.toNat ⟨0,0,0,0⟩).jY)<(cn:Int)):
  Calls Tryz.prog 216 #[yR f ma mn mc ca cn cc (i:Int) arg] w (Ok λF w'=>F= .bool (let a:=f.bh.getD arg.toNat ⟨0,0,0,0⟩;(b6.getD i ⟨0,[]⟩).n==a.bD&&(decide (a.jY<0)||decide (a.least<=(b6.getD a.jY.toNat ⟨0,[]⟩).n)))/\ai w w'):=by
 refine yS (PA.mk λH s s1 h=>?_);have a0:=q.len;obtain⟨b,rfl⟩:∃b:Nat,arg=b:=⟨arg.toNat,oM⟩
 have t:b<f.bh.length:=oM
 obtain⟨I,J,es,K,a1,-,u,rfl,-⟩:=(q.ah s).el b f.bh[b] (by simp [t]);have L:f.bh.getD b ⟨0,0,0,0⟩=f.bh[b]:=by simp [QQ,t]
 simp only [Qx,L]at r⊢;generalize f.bh[b]=a at u r;refine⟨_,_,_,ae h rfl,_,ae h rfl,I,J,K,oM,oM,bq (es:=mE a) (k:=4) (Iu a) rfl (λM N=>u M N) (PA.mk λw2 O s2 P=>az (Iu a) P rfl λv Q s3 R=>λS T=>⟨no,?_⟩)⟩;have x:ai H v:=O.new Q λy z=>.inr oM;have j:ai v S:=T.af;have A:=(s.then x).then j;have B:=j.get (x.get h id) id;have c:=j.get R id;obtain⟨y,U,a2,a3,a4,V,z,a5,W,hs,-⟩:=lE (o.ah A) p;refine ar (tl ..) B ⟨id,_,ae c rfl,PC.ok (gh V p) ?_⟩;rintro _ w5 ⟨rfl,d⟩;have c:=d.get c id;have e:=A.then d;refine⟨_,rfl,ai.af d,_,_,rfl,_,(d.cell (a:=⟨y,U+i*2,none⟩) z id).trans W,al.dJ (λg=>⟨_,ae c rfl,al.dec (λk=>Ok.mk ⟨?_,e⟩) (λk=>?_)⟩) (λg=>Ok.mk ⟨?_,e⟩)⟩
 ·rw [show((b6.getD i ⟨0,[]⟩).n==a.bD)=true by simpa using g,decide_eq_true k];rfl
 ·obtain⟨l,C⟩:∃l:Nat,a.jY=l:=⟨a.jY.toNat,oM⟩
  obtain⟨X,Y,a',n',c',m,Z,-,n,-⟩:=lE (o.ah e) (i:=l) oM;refine⟨_,_,_,ae (d.get B id) rfl,_,ae c rfl,X,Y,m,oM,oM,_,by rw [C,Qx];exact n,_,ae c rfl,Ok.mk ⟨?_,e⟩⟩;rw [show((b6.getD i ⟨0,[]⟩).n==a.bD)=true by simpa using g,Xv k,C,Qx];rfl
 ·rw [show((b6.getD i ⟨0,[]⟩).n==a.bD)=false by simpa using g];rfl
end
end Go.Proofs.YthnilpgpacdmnaaGreatDoor

import Derived.Test.YtjgjkeponbeekaaGreatDoorKa17
import Derived.Test.YtjgjkeponbeekaaGreatDoorYaCodeR
set_option linter.all false
set_option maxHeartbeats 4000000
set_option maxRecDepth 20000
namespace Go.Proofs.YtjgjkeponbeekaaGreatDoor
open Go.ar
variable{V n:Array Value}{a8 t:List Int}{a2:List Value}{a:Nat}{f:Nat->Prop}{d:Option Addr}{h:Program}{j:Type}{B g q:TypeId}{p u:Value->World->Prop}{b:World}{N o:aj}{F:aw}
def eV{c:jo j}{r o:Nat}{s:List j}{bytes:Nat}{N:Nat×Nat}{x:j}(m:aO c g f b d r o s)(J:jC h q g c.k bytes)(O:b.heap[a]? =some (.cells n g N)){D:Nat->Prop}(A:c.rep b D x n.toList)(t:∀e,D e->e<b.heap.size/\aF d≠some e)(i:(s.length+1)*bytes<=aK)(P:s.length+1<=maxLen)(C:∀v l F w,aO c g w F v (r+1) l (s++[x])->ak (λH=>aF d=some H) b F->(∀e,w e->f e\/D e\/b.heap.size<=e)->p (.slice v (r+1) l) F):
  aG h (Builtin.append_ #[q,q] B #[.slice d r o,.slice (ZX a) 1 1]) b p u:=by
 have K:=m.len J.pos;obtain⟨cs,Q,R,S,y⟩:=m.body;have V:=c.len A;refine yT J (news:=n.toList) R O (by rw[Qz oM]) oM (c.one A) (by rw[K];exact i) (by rw[K];exact P) λv T z L M E=>?_;have I:ak (λH=>aF d=some H) b z:=(M.mono λ_ _ m=>m.symm)
 let w:Nat->Prop:=λe=>f e\/D e\/(b.heap.size<=e/\e<z.heap.size)
 have W:b.heap.size<=z.heap.size:=M.size;refine C v T z w ⟨⟨_,λe=>Q e\/D e,L,bu.append ((S.af I λe i=>(y e i).2).mono λe i=>.inl i) (bu.one (c.mono (c.af A I λe i=>(t e i).2) λe i=>.inr i)),?_⟩,?_,?_⟩ I ?_
 ·intro e i
  have X:e<b.heap.size:=i.elim (λk=>m.aB e (y e k).1) λk=>(t e k).1;refine⟨i.elim (λk=>.inl (y e k).1) λk=>.inr (.inl k),?_⟩;rcases E with E|E
  ·rw[E];exact i.elim (λk=>(y e k).2) λk=>(t e k).2
  ·rw[E];intro U;cases U;omega
 ·intro e i
  rcases E with E|E
  ·exact .inl (m.self e (E▸i))
  ·have:=L.lt i
   rw[E]at i;cases i;exact .inr (.inr ⟨oM,this⟩)
 ·rintro e (i|i|i)
  ·have:=m.aB e i;omega
  ·have:=(t e i).1;omega
  ·exact i.2
 ·rintro e (i|i|i)
  ·exact .inl i
  ·exact .inr (.inl i)
  ·exact .inr (.inr i.1)
def La{D k:Nat->Prop}(f:Row aJ 8 b D d a t)(g:Row aJ 8 b k d a a8):t=a8:=by
 have p:=f.len;have q:=g.len;apply List.ext_getElem oM;intro i l m;obtain⟨r,s,u,n,h,-,o⟩:=f.l_ (i:=i) oM;obtain⟨v,w,x,c,j,-,e⟩:=g.l_ (i:=i) oM;rw[n]at c;cases c
 rw[o]at e;cases e
 rw[Qq l]at h;rw[Qq m]at j;rw[XJ h,XJ j]
def _root_.Go.ar.eT.WY{g h k:Type}{i:h->k->Prop}{l:g}{m:h}:∀{j d:List (g×h)} {c:List (g×k)},eT i (j++(l,m)::d) c->∃e b f,c=e++(l,b)::f/\i m b/\eT i (j++d) (e++f)
 |[],d,(n,b)::c,a=>⟨[],b,c,by rw[a.1];rfl,a.2.1,a.2.2⟩
 |(r,s)::j,d,(n,o)::c,a=>by
  obtain⟨e,b,f,rfl,p,q⟩:=Go.ar.eT.WY a.2.2;exact⟨(n,o)::e,b,f,rfl,p,a.1,a.2.1,q⟩
section
def BK(d:World)(D:Nat->Prop)(e:aw)(f:List Value)(a:aj):Prop:=∃b c g,f=[jA a b c g]/\Row aJ 8 d D b c a.aP/\a.Ok/\a∈e.l
def qM{b c:Type}(d:b->c->Prop):List b->List c->Prop
 |[],[]=>True
 |a::e,f::g=>d a f/\qM d e g
 |_,_=>False
def qM.snoc{a b:Type}{c:a->b->Prop}{d:a}{e:b}(f:c d e):∀{g:List a} {h:List b},qM c g h->qM c (g++[d]) (h++[e])
 |[],[],_=>⟨f,trivial⟩
 |_::_,_::_,i=>⟨i.1,qM.snoc f i.2⟩
def qM.length{a b:Type}{e:a->b->Prop}:∀{c:List a} {d:List b},qM e c d->c.length=d.length
 |[],[],_=>rfl
 |_::_,_::_,f=>by simp[qM.length f.2]
def BK.unique{D:Nat->Prop}(c:BK b D F a2 o)(d:BK b D F a2 N):o=N:=by
 obtain⟨g,h,i,rfl,e,-,-⟩:=c;obtain⟨j,k,l,a,f,-,-⟩:=d;simp only[aC,List.cons.injEq,Value.agg.injEq,Array.mk.injEq,Value.int.injEq,XX,and_true,true_and]at a;obtain⟨m,n,p,⟨rfl,rfl,rfl⟩,q,r,s,t,u,v⟩:=a;have:=La e f
 cases o;cases N;simp_all
def qM.unique{b:World}{D:Nat->Prop}{c:aw}:∀{a:List (List Value)} {d e:List aj},qM (BK b D c) a d->qM (BK b D c) a e->d=e
 |[],[],[],_,_=>rfl
 |_::_,_::_,_::_,f,g=>by rw[f.1.unique g.1,qM.unique f.2 g.2]
variable {w w9 w1 A B:World} {p bo:Nat} {F:Nat->Prop} {S:aw} {q:QG} {Pr:aj->Bool} {s:World×(Nat->Prop)} {pre:List (List Value)}
structure SJ (w9:World) (bo:Nat) (D:Nat->Prop) (S:aw) (Pr:aj->Bool) (s:World×(Nat->Prop)) (pre:List (List Value)) (A:World):Prop where
 af:ak (·=bo) w9 A
 own:ak (dj s.2) s.1 A
 out:∀b,s.2 b->b≠w9.heap.size/\b≠w9.heap.size+1/\b≠bo
 aB:∀b,s.2 b->b<A.heap.size
 dN:w9.heap.size+2<=A.heap.size
 mf:∃a n c G L,A.heap[bo]? =some (.cells #[.slice a n c] 59 (0,0))/\aO jj 63 G A a n c (L.filter Pr)/\(∀b,G b->w9.heap.size+2<=b/\¬s.2 b)/\qM (BK w9 D S) pre L/\L.length<=S.l.length
def SJ.ah(b:SJ w9 bo q.D S Pr s pre A)(a:ai A B):SJ w9 bo q.D S Pr s pre B:=by
 obtain⟨c,d,e,f,g,h,i,j,G,k,l,m,n,o⟩:=b;exact⟨c.ah a,d.ah a,e,λp r=>Qk (f p r) a.size,Xx g a.size,h,i,j,G,k,a.get l id,m.ah a,n,o⟩
def SJ.d_(u:bo<w9.heap.size)(d:SJ w9 bo q.D S Pr s pre A)(g:pO (w9.heap.size+1) A B):SJ w9 bo q.D S Pr s pre B:=by
 obtain⟨h,i,e,j,v,k,l,m,G,n,o,p,f,r⟩:=d;obtain⟨c,w⟩:=g;exact⟨h.new c λa b=>.inr oM,i.trans c (λ_ _ d=>d) λa _ b t=>(e a t).2.1 b,e,λa b=>by have:=j a b;omega,oM,k,l,m,G,n,c.get o oM,p.af c λa b x=>by have:=(f a b).1;omega,f,r⟩
def SJ.re(a:SJ w9 bo q.D S Pr s pre A):SJ w9 bo q.D S Pr (A,s.2) pre A:=⟨a.af,ak.refl _,a.out,a.aB,a.dN,a.mf⟩
def QI{R:World->Prop}(c1:bo<w9.heap.size)(hS:S.OK)(g:qL w9 p F S q)(w:∃e a3,w9.heap[a]? =some (.cells #[.map (some q.r)] e a3))(x:a≠bo)(y:¬F bo)(z:∀A B,R A->ak (nx w9) A B->R B)(hy:∀s pre o A,SJ w9 bo q.D S Pr s pre A->R A->sR [jA rl none 0 0] o->(pre.length<S.l.length/\∃e,BK w9 q.D S o e)->jt XP (w9.heap.size+1) o A λb C=>b=true/\SJ w9 bo q.D S Pr s (pre++[o]) C/\R C)(r:SJ w9 bo q.D S Pr (w9,no) [] w1)(a7:R w1):
  Calls XP 216 #[.func (.yield (w9.heap.size+1)) #[] #[],ZQ a] w1 (Ok λa4 h=>R h/\∃s m,SJ w9 bo q.D S Pr s m h/\∃t,qM (BK w9 q.D S) m t/\t.Perm S.l):=by
 obtain⟨e2,f2,w⟩:=w;have c2:=g.map.lt;have a8:qL w1 p F S q:=g.af r.af λb c e=>y (e▸c);have hD:∀b,q.D b->b<w9.heap.size/\b≠bo:=λb c=>⟨g.aB b (g.sub b (.inr (.inr (.inr c)))),λe=>y (e▸g.sub b (.inr (.inr (.inr c))))⟩
 have c3:=r.dN;have c4:q.r≠bo:=λe=>y (e▸g.sub _ (.inr (.inl rfl)));refine cY ⟨_,ae (r.af.get w x) rfl,mapRange QE a8.map λO b0 u s6=>?_⟩;obtain⟨j1,j2,j3,jd,j5,ja,jn,jc,G0,L0,j4,P,Q,j8⟩:=r;have b1:SJ w9 bo q.D S Pr (O,λb=>b=w1.heap.size\/b=q.r) [] O:=by
  refine⟨j1.ah u,ak.refl _,λb c=>by rcases c with rfl|rfl<;>omega,λb c=>by rcases c with rfl|rfl<;>omega,oM,ja,jn,jc,G0,L0,u.get j4 id,P.ah u,λb c=>⟨(Q b c).1,λe=>?_⟩,j8⟩;rcases e with rfl|rfl
  ·have:=P.aB _ c;omega
  ·have:=(Q _ c).1;omega
 refine⟨λT h=>∃pre left d l,T=left.length/\cA h w1.heap.size q.r Ec q.l left/\eT (Sz w9 q.D) left d/\qM (BK w9 q.D S) pre l/\(l++d.map (·.2)).Perm S.l/\SJ w9 bo q.D S Pr (h,λb=>b=w1.heap.size\/b=q.r) pre h/\R h,
  ⟨_,[],q.l,q.L,[],rfl,b0,g.rel,trivial,by simpa using g.Vu,b1,z _ _ a7 (ai.af u)⟩,?_⟩
 rintro T _ c5 ⟨pre,left,d,l,rfl,hr,U,E,H,V,W⟩;refine mV hr (λh0=>.inl ⟨rfl,?_⟩) (λc6 a4 l1 l2 I a6 a9 b2 v c7=>.inr ⟨_,_,rfl,?_⟩)
 ·subst h0
  obtain rfl:d=[]:=by
   have:=U.length;simp at this;exact QW this.symm
  exact Ok.mk ⟨W,_,pre,V,l,E,by simpa using H⟩
 subst a6;obtain⟨X,f,Y,rfl,⟨i,j,k,rfl,Z,a0⟩,b3⟩:=U.WY;have a1:f∈S.l:=H.mem_iff.1 sM;have a2:((l++[f])++(X++Y).map (·.2)).Perm S.l:=by
  refine List.Perm.trans ?_ H;simp only[Q3,QY,XQ,List.singleton_append];exact List.Perm.append_left _ List.perm_middle.symm
 have b4:pre.length<S.l.length:=by
  have J:=a2.length_eq;have x:=E.length;simp at J;omega
 have b5:SJ w9 bo q.D S Pr (I,λb=>b=w1.heap.size\/b=q.r) pre I:=by
  obtain⟨J,x,h3,hd,h5,i,j,k,G,t,h4,h6,h7,h8⟩:=V;exact⟨J.new v λb c=>.inr oM,ak.refl _,h3,λb c=>by have:=hd b c;omega,oM,i,j,k,G,t,v.get h4 (λe=>(h3 _ (.inl rfl)).2.2 e.symm),h6.af v λb c e=>(h7 b c).2 (.inl e),h7,h8⟩
 have b6:=z _ _ W (v.mono λb _ c=>(⟨oM,oM⟩:nx w9 b));refine qj b2 ⟨_,_,_,_,_,_,_,_,_,_,_,_,_,rfl,PA.mk λc8 K c9 b7=>az (aV f i j k) b7 rfl λa5 L d0 b8=>au (aV f i j k) b8 ⟨_,rfl,(hy _ pre _ a5 ((b5.ah (K.new L λb c=>.inr oM)).re) ?_ ?_ ⟨b4,f,i,j,k,rfl,Z,a0,a1⟩).mono ?_⟩⟩
 ·exact z _ _ b6 (ai.af (K.new L λb c=>.inr oM))
 ·exact λφ M=>M f.origin f.seq f.ay i j k f.aS f.agg f.field f.op f.arg f.key
 ·rintro _ C ⟨rfl,n,b9⟩
  have c0:ai I a5:=K.new L λb c=>.inr oM;refine al.ff rfl ⟨_,?_,pre++[_],l1++l2,X++Y,l++[f],rfl,(a9.ah c0).af n.own (λN=>N (.inl rfl)) (λN=>N (.inr rfl)),b3,E.snoc ⟨i,j,k,rfl,Z,a0,a1⟩,a2,n.re,b9⟩;simp
def BL(e:cf w p F S)(hl:S.l.length<=20000000)(hg:enters XP a=true)(hp:∀d k z N D w1,ai w w1->Row aJ 8 w1 D k z d.aP->d.Ok->d∈S.l->Calls XP a (n++ #[jA d k z N]++V) w1 (Ok λC E=>C= .bool (Pr d)/\ai w1 E)):
  Calls XP 93 #[ZQ p,.func (.func a) n V] w (Ok (py jj 63 w (S.l.filter Pr))):=by
 have eX:=e;obtain⟨X,q,e⟩:=e;refine uv (PA.mk λl k3 s3 g3=>PA.mk λO k4 s4 g4=>?_);have b4:=k3.then k4;have c7:=e.ah b4;refine⟨p,0,rfl,_,ae c7.at' rfl,PC.ok (φ:=λC E=>C= .func (.func 216) #[] #[ZQ O.heap.size]/\(∃d c8,E.heap[O.heap.size]? =some (.cells #[.map (some q.r)] d c8))/\ai O E/\E.heap.size=O.heap.size+1)
  (dm (PA.mk λw5 H s5 g5=>Ok.mk ⟨rfl,⟨_,_,g5⟩,H,s5⟩)) ?_⟩
 rintro _ w9 ⟨rfl,c9,Y,s9⟩;have Z:=b4.then Y;have b5:=e.ah Z;have hw:=e.aB;have b6:=ax e.at';have d0:=Y.get (k4.get g3 id) id;have d1:=Y.get g4 id;have b7:¬F l.heap.size:=λhf=>by have:=hw _ hf;omega
 have a0:l.heap.size<w9.heap.size:=oM
 refine⟨_,rfl,216,_,rfl,kR,World×(Nat->Prop),(w9,no),SJ w9 l.heap.size q.D S Pr,λ_ _ _=>False,
  λpre vs=>pre.length<S.l.length/\∃d,BK w9 q.D S vs d,λh=>∃f,qM (BK w9 q.D S) h f/\f.Perm S.l,?_,λs pre A B m i=>m.d_ a0 i,λ_ _ _ _ e _=>e,?_,?_,?_,trivial⟩
 ·intro w6 k6 s6
  exact⟨ai.af k6,ai.af k6,λc b=>b.elim,λc b=>b.elim,oM,none,0,0,λ_=>False,[],k6.get d1 id,aO.nil _,λc b=>b.elim,trivial,Qj _⟩
 ·rintro s pre A m f8 t1 t2 t3 t tn u t4 t5 t6 t7 t8 t9 ⟨f9,d,k,z,N,he,hr,P,a1⟩
  simp only[aC,List.cons.injEq,Value.agg.injEq,Array.mk.injEq,Value.int.injEq,XX,and_true,true_and]at he;obtain⟨rfl,rfl,rfl,⟨rfl,rfl,rfl⟩,rfl,rfl,rfl,rfl,rfl,rfl⟩:=he;refine PA.mk λg0 d2 g1 d3=>az (aV d t tn u) d3 rfl λd4 d5 g2 d6=>?_;have k2:ai A d4:=d2.new d5 λc b=>.inr oM;refine⟨ai.af k2,λb8 i=>?_⟩;have I:=(m.ah k2).d_ a0 i;have b9:=i.1.get d6 oM;have g6:=i.2;have c0:∀c,q.D c->c<w9.heap.size/\c≠l.heap.size:=λc b=>⟨b5.aB c (e.sub c (.inr (.inr (.inr b)))),λd=>b7 (d▸e.sub c (.inr (.inr (.inr b))))⟩
  have c1:=hr.af I.af λc b=>(c0 c b).2;have d7:ai w b8:=Z.new I.af λc b=>.inr oM;refine⟨_,ae (I.af.get d0 oM) rfl,au (aV d t tn u) b9 ⟨a,n,V,rfl,hg,PC.ok (hp d t tn u _ b8 d7 c1 P a1) ?_⟩⟩;rintro _ d8 ⟨rfl,a2⟩;refine⟨_,rfl,al.mk (λi=>λc2 d9=>?_) (λhf=>?_)⟩
  ·have e0:ai d8 c2:=d9.af
   have Q:=a2.then e0;have e1:=I.ah Q;obtain⟨J,R,K,v,h5,T,ln,lc,G,f,o,j,g,r,h9⟩:=e1;have e2:=c1.ah Q;have b6:=r.length;refine⟨no,id,_,_,_,ae o rfl,au (aV d t tn u) (Q.get b9 id) (PC.ok (lZ e2 λc b=>by have:=(c0 c b).1;omega) ?_)⟩;rintro _ g7 ⟨e3,cn,cc,G2,rfl,e4,U,a3⟩;have g8:=a3.size;refine⟨_,_,_,_,_,_,_,_,_,_,_,_,rfl,ai.af a3,PA.mk λg9 a4 h0 e5=>⟨ai.af a4,?_⟩⟩;have kk:=a3.then a4;refine eV (c:=jj) (j.ah kk) IV e5 (D:=G2) (x:=d) ⟨e3,cn,cc,rfl,e4.ah a4,P⟩ (λc b=>⟨by have:=U c b;omega,λd=>by have:=U c b;have:=j.aB _ (j.self _ d);omega⟩) ?_ ?_ λa' L h1 F' e6 a5 c4=>⟨_,_,_,rfl,?_⟩
   ·have:=List.length_filter_le Pr f;unfold aK;omega
   ·have:=List.length_filter_le Pr f;unfold maxLen;omega
   have W:=j.self;have a6:¬aF T=some l.heap.size:=λd=>by have:=(g _ (W _ d)).1;omega
   have e7:=a5.get (kk.get o id) a6;refine PS.mk e7 sM λe8 c5 h2 e9=>?_;have H:ak (λc=>aF T=some c\/c=l.heap.size) c2 e8:=((ai.af kk).then (a5.mono λc _ b=>.inl b)).then (c5.mono λc _ b=>.inr b);have h3:=a5.size;refine⟨(ai.af Q).trans H (λ_ _ e=>e) λc _ b=>?_,?_⟩
   ·rcases b with b|rfl
    ·have:=(g _ (W _ b)).1;exact⟨oM,oM⟩
    ·exact⟨oM,oM⟩
   refine⟨J.new H ?_,R.trans H (λ_ _ e=>e) λc _ b y=>?_,K,λc b=>by have:=v c b;omega,oM,a',ln+1,L,F',f++[d],?_,?_,?_,r.snoc ⟨t,tn,u,rfl,hr,P,a1⟩,?_⟩
   ·rintro c (b|b)
    ·exact .inr (by have:=(g _ (W _ b)).1;omega)
    ·exact .inl b
   ·rcases b with b|b
    ·exact(g _ (W _ b)).2 y
    ·exact(K c y).2.2 b
   ·rw[e9];rfl
   ·have a7:(f++[d]).filter Pr=f.filter Pr++[d]:=by rw[List.filter_append];simp[i]
    rw[a7];refine e6.af c5 λc b d=>?_;rcases c4 c b with b|b|b
    ·have:=(g c b).1;omega
    ·have:=U c b;omega
    ·omega
   ·intro c b
    rcases c4 c b with b|b|b
    ·exact g c b
    ·have:=U c b;exact⟨oM,λy=>by have:=v c y;omega⟩
    ·exact⟨oM,λy=>by have:=v c y;omega⟩
   ·simp;omega
  ·refine⟨ai.af a2,?_⟩
   obtain⟨J,R,K,v,h5,T,ln,lc,G,f,o,j,g,r,h9⟩:=I.ah a2;have b6:=r.length;refine⟨J,R,K,v,h5,T,ln,lc,G,f++[d],o,?_,g,r.snoc ⟨t,tn,u,rfl,hr,P,a1⟩,by simp;omega⟩;have a7:(f++[d]).filter Pr=f.filter Pr:=by rw[List.filter_append];simp[hf]
   rw[a7];exact j
 ·intro f0 Rx hR _ h4 hy w6 f1 f2
  refine Calls.mono (QI (R:=f0) a0 X b5 c9 oM b7 hR (λs pre vs A m f3 i hN=>(hy s pre vs A m f3 i hN).mono ?_) f1 f2) ?_
  ·rintro c A' (e|⟨-,x,e,-⟩)
   ·exact e
   ·exact e.elim
  ·rintro _ A' ⟨C,rfl,f4,s,h,a8,hT⟩
   exact⟨⟨C,rfl⟩,.inl ⟨f4,s,h,a8,hT⟩⟩
 ·rintro s h A m ⟨L',f5,f6⟩ hm
  obtain⟨J,R,K,v,h5,k,z,N,G,f,o,j,g,r,h9⟩:=m;obtain rfl:=qM.unique r f5;have a9:(f.filter Pr).Perm (S.l.filter Pr):=f6.filter _;refine⟨_,_,_,ae o rfl,PC.ok (IH j (by rw[a9.length_eq];exact Xx (List.length_filter_le ..) hl)) ?_⟩;rintro _ i0 ⟨rfl,l',M,b0,b1,b2⟩;have b3:=j.self;have a6:¬aF k=some l.heap.size:=λd=>by have:=(g _ (b3 _ d)).1;omega
  have f7:¬aF k=some w9.heap.size:=λd=>by have:=(g _ (b3 _ d)).1;omega
  refine⟨rfl,_,_,_,ae (b2.get o a6) rfl,b2.get hm f7,λi1 ⟨c6,i2⟩=>Ok.mk ?_⟩;have c3:=List.filter_sublist (p:=Pr) (l:=S.l);obtain rfl:l'=S.l.filter Pr:=Lb b0 (X.Oz.sublist c3) (M.trans a9) (((M.trans a9).map aW).nodup_iff.2 (X.ids.sublist (c3.map _)));refine⟨k,z,N,G,rfl,b1.af c6 λc b d=>by have:=(g c b).1;omega,?_,λc b=>by have:=(g c b).1;omega⟩;exact((Z.new J λc b=>.inr oM).new b2 λc b=>.inr (by have:=(g c (b3 c b)).1;omega)).new c6 λc b=>.inr oM
end
end Go.Proofs.YtjgjkeponbeekaaGreatDoor
namespace Go.ar
variable{t:List Int}{a:Nat}{f:Nat->Prop}{d:Option Addr}{j:Type}{g:TypeId}{b:World}
def Row.sQ{D:Nat->Prop}(c:Row aJ 8 b D d a t):Ints b d a t:=by
 have o:=c.len;refine⟨o,c.dN,λj p=>?_,λi j e=>?_⟩
 ·obtain⟨i,e,rfl⟩:=List.getElem_of_mem p
  obtain⟨k,l,q,h,f,m,n⟩:=c.l_ (i:=i) oM;rw[Qq e]at f;rw[XJ f];exact m
 ·have s:=(Qv.1 e).1
  obtain⟨k,l,u,h,r,v,w,x⟩:=c.el i j e;obtain⟨y,z,q,g,f,m,n⟩:=c.l_ (i:=i) oM;rw[e]at f;rw[h]at g;cases g
  exact⟨k,l,h,r,by rw[n,XJ f]⟩
def Own.take{d:World}{e:TypeId}{k:Nat}{f:Option Addr}{b g m:Nat}{cs:List Value}(h:Own d e k f b g cs)(i:m<=b):Own d e k f m g (cs.take (m*k)):=by
 have j:=h.length;have l:m*k<=b*k:=Q0 _ i;refine⟨⟨by rw[Qy,j];omega,?_⟩⟩;rcases h.row.2 with⟨a,rfl⟩|⟨n,o,c,a,p,q,u,r,s,t⟩
 ·obtain rfl:m=0:=oM
  exact .inl ⟨a,rfl⟩
 ·simp only[XX]at a
  refine .inr ⟨n,o,c,by rw[a.1,a.2.2],p,q,oM,r,s,?_⟩;rw[<-t,List.take_take,X2 l]
def aO.take{e:jo j}{h a m:Nat}{i:List j}(c:aO e g f b d h a i)(k:m<=h):aO e g f b d m a (i.take m):=by
 obtain⟨cs,D,l,n,o⟩:=c.body;exact⟨⟨_,D,l.take k,n.take m,o⟩,c.self,c.aB⟩
end Go.ar
namespace Go.Proofs.YtjgjkeponbeekaaGreatDoor
open Go.ar
variable{e:Int}{t:List Int}{a c:Nat}{d:Option Addr}
section
variable {w w' w1:World} {p:Nat} {F T:Nat->Prop} {S:aw} {q:QG}
def qO(e:cf w p F S)(a:S.l.length<=20000000):Calls XP 59 #[ZQ p] w (Ok (py jj 63 w S.l)):=by
 refine vV (PC.ok (BL e a (Pr:=λ_=>true) kR λi b c d D w1 j k l m=>?_) ?_)
 ·exact sY (PA.mk λn f o q=>Ok.mk ⟨rfl,f⟩)
 ·rintro _ r ⟨b,c,d,G,rfl,a,g,h⟩
  rw[List.filter_eq_self.2 sM]at a;exact⟨_,_,_,rfl,Ok.mk ⟨b,c,d,G,rfl,a,g,h⟩⟩
def xN(q:cf w p F S)(r:S.l.length<=20000000){D:Nat->Prop}(s:Row aJ 8 w D d a t):
  Calls XP 122 #[ZQ p,.slice d a c,XH e] w (Ok (py jj 63 w (S.missing t e))):=by
 refine oW (PA.mk λw1 i H u=>PC.ok (BL (q.ah i) r (Pr:=λb=>decide (max 0 (fh t b.origin)<b.seq)) kR λb k g l I J v K L M=>?_) ?_)
 ·refine mQ (PA.mk λm n N h=>λx y=>⟨no,id,?_⟩)
  have j:ai m x:=y.af;have h:=j.get h id;have o:=v.then (n.then j);refine⟨_,ae h rfl,_,_,_,ae (o.get u id) rfl,_,ae h rfl,PC.ok (nu (s.sQ.ah (i.then o))) ?_⟩;rintro _ _ ⟨rfl,rfl⟩;refine⟨_,rfl,ak.refl _,Ok.mk ⟨?_,n.then j⟩⟩
  congr 1
  rw[decide_eq_decide];split<;>omega
 ·rintro _ m ⟨k,g,l,G,rfl,f,z,A⟩
  have O:=f.len dC;have P:=f.jT;have B:(if e>0 then e else 0)=max 0 e:=by split<;>omega
  refine⟨_,_,_,rfl,?_⟩;rw[B];refine⟨by split<;>omega,by split<;>omega,Ok.mk ⟨k,_,l,G,rfl,?_,i.then z,λC E=>by have:=A C E;omega⟩⟩;have:=f.take (m:=Int.toNat (if max 0 e<(g:Int)then max 0 e else(g:Int))) (by split<;>omega);unfold aw.missing;have b:(List.filter (λb=>decide (max 0 (fh t b.origin)<b.seq)) S.l).take (Int.toNat (if max 0 e<(g:Int)then max 0 e else(g:Int)))=(List.filter (λb=>decide (max 0 (fh t b.origin)<b.seq)) S.l).take (max 0 e).toNat:=by
   split
   ·rfl
   ·rw[Qz oM,Qz oM]
  rw[<-b];exact this
def xP{b:Type}(p:b->Bool):∀a:List b,a.find? p=(a.filter p).head?
 |[]=>rfl
 |x::a=>by
  rw[List.find?_cons,List.filter_cons]
  cases p x
  ·exact xP p a
  ·rfl
def NS(H:cf w p F S)(s:S.l.length<=20000000){key:Int}:
  Calls XP 126 #[ZQ p,XH key] w (Ok λI w'=>∃t u J G,I= .tuple #[jA ((S.keyed key).getD rl) t u J,.bool (S.keyed key).isSome]/\Row aJ 8 w' G t u ((S.keyed key).getD rl).aP/\(∀a,G a->w.heap.size<=a/\a<w'.heap.size)/\ai w w'):=by
 refine rQ (PA.mk λw1 n s1 v=>PA.mk λw2 k s2 K=>PC.ok (BL ((H.ah n).ah k) s (Pr:=λb=>key !=0&&b.key==key) kR λb L M N D' O P hr x hm=>?_) ?_)
 ·refine oY (PA.mk λy e z g=>?_)
  have A:=(k.then P).then e;refine⟨_,ae (A.get v id) rfl,al.dB (λQ=>⟨_,ae g rfl,_,ae (A.get v id) rfl,Ok.mk ⟨?_,e⟩⟩) (λx=>Ok.mk ⟨?_,e⟩)⟩
  ·rw[show(key !=0)=true by simpa using Q];rfl
  ·rw[x];rfl
 ·rintro _ O ⟨L,M,N,G,rfl,c,o,B⟩
  have l:=c.len dC;have C:=o.get K id;have E:S.keyed key=(S.l.filter λb=>key !=0&&b.key==key).head? :=xP _ _;refine⟨_,_,_,rfl,al.dA (λR=>?_) (λR=>?_)⟩
  ·have:(S.l.filter λb=>key !=0&&b.key==key)=[]:=QW oM
   rw[E,this];refine az (aV rl none 0 0) C rfl λy e z g=>au (aV rl none 0 0) g (Ok.mk ⟨none,0,0,λ_=>False,rfl,Row.nil _ _,λa d=>d.elim,((n.then k).then o).new e λa d=>.inr oM⟩)
  ·cases m:S.l.filter λb=>key !=0&&b.key==key with
   |nil=>rw[m]at l;simp at l;omega
   |cons f T=>
    rw[m]at c l;have a0:(f::T).length<=20000000:=by rw[<-m];exact Xx (List.length_filter_le ..) s
    have U:=c.row (bytes:=96) dC (by unfold aK;omega);obtain⟨a,q,es,V,d,a1,W,h,i,j,rfl,X,a3⟩:=U.el 0 f rfl;rw[E,m];refine⟨a,q,V,oM,by simp at l;omega,?_⟩;have Y:q+Int.toNat 0*10=q:=rfl;rw[Y];refine bA (es:=aC f h i j) (k:=10) (aV f h i j) rfl (λZ r=>?_) (az (aV f h i j) C rfl λy e z g=>au (aV f h i j) g (Ok.mk ⟨h,i,j,G,rfl,?_,?_,?_⟩))
    ·have:=W Z r
     simpa using this
    ·exact X.af e λa d b=>by have:=B a d;omega
    ·intro a d;have:=B a d;have:=c.aB a d;omega
    ·exact((n.then k).then o).new e λa d=>.inr oM
end
end Go.Proofs.YtjgjkeponbeekaaGreatDoor
namespace Go.Proofs.YtjgjkeponbeekaaGreatDoor
open Go.ar
variable{e m:Int}{t:List Int}{a c:Nat}{d:Option Addr}{j:Type}
def Tq(d:a+c<4611686018427387904):IntKind.wrap .i64 (gw .u64 (IntKind.wrap .u64 (IntKind.wrap .i64 ((a:Int)+(c:Int)))) 1)=(((a+c)/2:Nat):Int):=by
 rw[wrap_i64 (x:=(a:Int)+c) (by unfold aH;omega)];have b:IntKind.wrap .u64 ((a:Int)+(c:Int))=((a+c:Nat):Int):=by
  unfold IntKind.wrap;simp[IntKind.signed,IntKind.bits];omega
 rw[b,show(1:Int)=((1:Nat):Int)from rfl,Mr dC,wrap_i64 (by unfold aH;omega)]
def posOf{a:Type}(b:a->Bool)(c:List a):Nat:=(c.takeWhile b).length
def zD(a:j->Bool)(b:List j):posOf a b<=b.length:=(List.takeWhile_sublist a).length_le
def zF{e:Type}{p:e->Bool}:∀{l:List e} {i:Nat},i<=l.length->(∀a x,a<i->l[a]? =some x->p x=true)->(∀x,l[i]? =some x->p x=false)->posOf p l=i
 |[],i,b,_,_=>by simp at b;subst b;rfl
 |x::l,0,_,_,g=>by
  have:=g x rfl;simp[posOf,this]
 |x::l,i+1,b,f,h=>by
  have j:=f 0 x oM rfl;have:=zF (p:=p) (l:=l) (i:=i) (by simpa using b) (λa c k d=>f (a+1) c oM (by simpa using d)) (λc d=>h c (by simpa using d));unfold posOf at this⊢;rw[List.takeWhile_cons,j];simp[this]
section
variable {w w':World} {D:Nat->Prop}
def Ts{w:World}:Calls XP 341 #[XH e] w (Ok λa w'=>a= .bool false/\w=w'):=sG (Ok.mk ⟨sM,rfl⟩)
def Ow{w:World}:Calls XP 337 #[XH e,XH m] w (Ok λa w'=>a= .bool (decide (e<m))/\w=w'):=by
 refine zG (PC.ok isNaN ?_);rintro _ _ ⟨rfl,rfl⟩;exact⟨_,rfl,al.ff rfl (Ok.mk ⟨rfl,rfl⟩)⟩
abbrev vG(a:List Int):Prop:=a.Pairwise (·<·)
def sH(u:Row aJ 8 w D d a t)(H:vG t):
  Calls XP 311 #[.slice d a c,XH e] w (Ok λI w'=>I= .tuple #[XH (posOf (λb=>decide (b<e)) t:Nat),.bool (decide (e∈t))]/\w=w'):=by
 have O:=u.len;have J:=u.dN;unfold aK at J;have A:∀{i l:Nat} {b n:Int},t[i]? =some b->t[l]? =some n->i<=l->b<=n:=λ{i l b n} j o P=>by
  obtain⟨p,rfl⟩:=Qv.1 j;obtain⟨q,rfl⟩:=Qv.1 o;rcases Nat.lt_or_ge i l with h|h
  ·exact Int.le_of_lt (List.pairwise_iff_getElem.1 H i l p q h)
  ·obtain rfl:i=l:=oM
   exact Int.le_refl _
 refine iF ⟨λF i l w'=>∃f k:Nat,i=f/\l=k/\F=k-f/\f<=k/\k<=a/\(∀g b,g<f->t[g]? =some b->b<e)/\(∀g b,k<=g->t[g]? =some b->e<=b)/\w=w',
  ⟨_,0,a,rfl,rfl,rfl,oM,oM,λg b m=>oM,λg b m j=>by have:=(Qv.1 j).1;omega,rfl⟩,?_⟩
 rintro F _ _ _ _ ⟨f,k,rfl,rfl,rfl,Q,K,p,q,rfl⟩;refine al.dec (λR=>?_) (λS=>?_)
 ·rw[Tq oM]
  obtain⟨v,x,b,y,j,-,z⟩:=u.l_ (i:=(f+k)/2) oM;refine⟨v,x,y,oM,oM,b,by rw[Qx];exact z,PC.ok Ow ?_⟩;rintro _ _ ⟨rfl,rfl⟩;refine⟨_,rfl,al.dec (λL=>⟨_,?_,(f+k)/2+1,k,aq oM,rfl,rfl,oM,K,λg n m o=>?_,q,rfl⟩) (λL=>⟨_,?_,f,(f+k)/2,rfl,rfl,rfl,oM,oM,p,λg n m o=>?_,rfl⟩)⟩
  ·omega
  ·have:=A o j oM;omega
  ·omega
  ·have:=A j o m;omega
 ·obtain rfl:f=k:=oM
  have M:posOf (λb=>decide (b<e)) t=f:=zF oM (λg b m j=>by simpa using p g b m j) (λb j=>by have:=q f b (Q4 _) j;simp;omega);rw[M];have B:e∈t↔t[f]? =some e:=by
   constructor
   ·intro r
    obtain⟨g,m,rfl⟩:=List.getElem_of_mem r;have s:t[g]? =some t[g]:=Qq m;rcases Nat.lt_or_ge g f with h|h
    ·have:=p g _ h s;omega
    ·have C:f<t.length:=oM
     have T:=q f _ (Q4 _) (Qq C);have U:=A (Qq C) s h;rw[Qq C];congr 1;omega
   ·exact QZ
  refine al.dec (λN=>?_) (λN=>?_)
  ·obtain⟨v,x,b,y,j,-,z⟩:=u.l_ (i:=f) oM
   refine⟨v,x,y,oM,oM,b,z,al.dA (λE=>Ok.mk ⟨?_,rfl⟩) (λE=>⟨v,x,y,oM,oM,b,z,PC.ok Ts ?_⟩)⟩
   ·rw[decide_eq_true (B.2 (E▸j))]
   ·rintro _ _ ⟨rfl,rfl⟩
    refine⟨_,rfl,al.ff rfl (Ok.mk ⟨?_,rfl⟩)⟩;rw[Xv];intro r;have:=B.1 r;rw[j]at this;exact E (XJ this)
  ·refine Ok.mk ⟨?_,rfl⟩
   rw[Xv];intro r;have:=(Qv.1 (B.1 r)).1;omega
end
def GH{b:Int}:∀{a:List Int},vG a->b∉a->pB b a=a.take (posOf (λy=>decide (y<b)) a)++b::a.drop (posOf (λy=>decide (y<b)) a)
 |[],_,_=>rfl
 |y::a,e,c=>by
  obtain⟨g,f⟩:=List.pairwise_cons.1 e;simp only[Q2,not_or]at c;unfold pB posOf
  by_cases d:b<y
  ·rw[if_pos d,List.takeWhile_cons,Xv oM];rfl
  ·rw[if_neg d,if_neg c.1,List.takeWhile_cons,decide_eq_true (show y<b by omega),GH f c.2];rfl
def tM{c:Int}:∀{a:List Int},c∈a->vG a->pB c a=a
 |y::a,b,d=>by
  obtain⟨e,f⟩:=List.pairwise_cons.1 d;unfold pB;rcases Q2.1 b with rfl|b
  ·rw[if_neg oM,if_pos rfl]
  ·have:=e c b
   rw[if_neg oM,if_neg oM,tM b f]
def GI{c a:Int}:∀{b:List Int},a∈pB c b↔a=c\/a∈b
 |[]=>by simp[pB]
 |y::b=>by
  unfold pB;split
  ·simp
  ·split
   ·rename_i h;subst h;simp
   ·simp only[Q2,GI]
    constructor
    ·rintro(h|h|h)<;>simp[h]
    ·rintro(h|h|h)<;>simp[h]
def CU{f:Int}:∀{b:List Int},vG b->vG (pB f b)
 |[],_=>List.pairwise_singleton ..
 |y::b,c=>by
  obtain⟨e,g⟩:=List.pairwise_cons.1 c;unfold pB;split
  ·rename_i h
   exact List.pairwise_cons.2 ⟨λd a=>by
    rcases Q2.1 a with rfl|a
    ·exact h
    ·have:=e d a;omega,c⟩
  ·split
   ·exact c
   ·refine List.pairwise_cons.2 ⟨λd a=>?_,CU g⟩
    rcases GI.1 a with rfl|a
    ·omega
    ·exact e d a
def Ln{b:Int}:∀{a:List Int},vG a->b∈a->(a.filter λy=>y !=b)=a.eraseIdx (posOf (λy=>decide (y<b)) a)/\posOf (λy=>decide (y<b)) a<a.length
 |y::a,g,d=>by
  obtain⟨f,h⟩:=List.pairwise_cons.1 g;rcases Q2.1 d with rfl|d
  ·have e:posOf (λy=>decide (y<b)) (b::a)=0:=by simp[posOf]
   rw[e];refine⟨?_,sM⟩;rw[List.filter_cons_of_neg sM,List.eraseIdx_zero,List.tail_cons];refine List.filter_eq_self.2 λc i=>?_;have:=f c i;simp;omega
  ·have j:=f b d
   obtain⟨k,l⟩:=Ln h d;have e:posOf (λc=>decide (c<b)) (y::a)=posOf (λc=>decide (c<b)) a+1:=by simp[posOf,j]
   rw[e,List.filter_cons_of_pos (by simp;omega),List.eraseIdx_cons_succ,k];exact⟨rfl,by simp;exact l⟩
def GJ(a:e∉t):(t.filter λb=>b !=e)=t:=List.filter_eq_self.2 λd c=>by
 simp only[bne_iff_ne,ne_eq];rintro rfl;exact a c
end Go.Proofs.YtjgjkeponbeekaaGreatDoor
namespace Go.ar
open Go
variable{s:Ending->World->Prop}{C a c i k:Nat}{f:Nat->Prop}{R W:Operand}{d r:Option Addr}{j:Type}{g q:TypeId}{p u:Value->World->Prop}{b:World}{y:World->Prop}
def vK{m:Program}{k bytes:Nat}{i:j->List Value}{n:j->Prop}{hl hone}(t:jC m g q k bytes)(I:0<bytes){l:List j}{D:Nat->Prop}(h:Row (flat k i n hl hone) bytes b D d a l)(v:∀e,D e->e<b.heap.size)(w:∀x y,py (flat k i n hl hone) q b l x y->s (.returned x) y):
  aG m (do eqGuard .eql g R W (.slice d a c) (.slice none 0 0);binOp .eql g (.slice d a c) (.slice none 0 0)) b (λJ o=>∃(z:Bool),J= .bool z/\al z (s (.returned (.slice none 0 0)) o) (PA o (.cells #[] q) λK=>
   aG m (Builtin.append_ #[g,g] g #[.slice (ZX o.heap.size) 0 0,.slice d a c]) K (λL M=>∃(A:Option Addr) (B:Nat) (C:Nat),L= .slice A B C/\s (.returned (.slice A B C)) M) p)) u:=by
 have E:=h.len;have f:=h.dN;refine jJ t.under ⟨_,rfl,al.mk (λr=>?_) (λr=>PA.mk λN F a0 O=>?_)⟩
 ·have:l=[]:=by
   cases d with
   |none=>
    cases l with
    |nil=>rfl
    |cons R a1=>obtain⟨e,P,es,Q,_⟩:=h.el 0 R rfl;cases Q
   |some S=>cases r
  subst this;exact w _ _ ⟨none,0,0,λ_=>False,rfl,aO.nil b,ak.refl _,λ_ h=>h.elim⟩
 ·cases d with
  |none=>cases r
  |some S=>
   have T:aO (flat k i n hl hone) q (·=b.heap.size) N (ZX b.heap.size) 0 0 []:=
    ⟨⟨[],λ_=>False,Own.zz (cur:= #[]) O sM (Qj _),rfl,λ_ h=>h.elim⟩,λe f=>by simpa[aF]using f.symm,λe f=>oM⟩
   have U:a<=maxLen:=by
    unfold aK at f;unfold maxLen;have:a*1<=a*bytes:=Nat.mul_le_mul_left _ I;omega
   refine kh T t (D:=D) (h.ah F) (λe f=>⟨by have:=v e f;omega,by have:=v e f;simp only[aF];intro q;cases q;omega⟩) (by rw[List.length_nil,Xz,<-E];exact f) (by rw[List.length_nil,Xz,<-E];exact U) λH V w2 F' X Y _ Z=>?_;refine⟨_,_,_,rfl,w _ _ ⟨H,_,V,λe=>aF H=some e,rfl,by have h:=X.alone;rw[List.nil_append]at h;exact h,F.new Y λe f=>.inr ?_,λe f=>?_⟩⟩
   ·simp only[aF,Q1]at f;omega
   ·rcases Z e f with h|h<;>omega
structure Bx (α:Type) where
 x:α
 a:Option Addr
 n:Nat
 c:Nat
structure ef (α β:Type) where
 k:Nat
 ci:jo β
 ib:Nat
 inner:α->List β
 hd:α->Option Addr->Nat->Nat->List Value
 ok:α->Prop
 hl:∀x a n c,(hd x a n c).length=k
 h1:∀x a n c,∀u∈hd x a n c,u.oneCell'=true
 o:Nat
 ho:o<k
 eX:∀x a n c a' n' c',(hd x a n c).set o (.slice a' n' c')=hd x a' n' c'
section
variable {α β:Type} (N:ef α β)
def ef.jk:jo (Bx α):=flat N.k (λa=>N.hd a.x a.a a.n a.c) (λ_=>True) (λa=>N.hl ..) (λa=>N.h1 a.x a.a a.n a.c)
def ef.Mw:jo α where
 k:=N.k
 rep:=λj D e cs=>∃a b c,cs=N.hd e a b c/\Row N.ci N.ib j D a b (N.inner e)/\N.ok e
 af:=λ⟨a,b,c,d,f,g⟩ k h=>⟨a,b,c,d,f.af k h,g⟩
 mono:=λ⟨a,b,c,d,f,g⟩ h=>⟨a,b,c,d,f.mono h,g⟩
 len:=λ⟨a,b,c,d,_,_⟩=>by rw[d];exact N.hl ..
 one:=λ⟨a,b,c,d,_,_⟩ l i=>by rw[d]at i;exact N.h1 _ _ _ _ l i
variable {N} {w w':World} {D:Nat->Prop}
def ef.In(N:ef α β)(w:World)(D:Nat->Prop)(a:Bx α):Prop:=Row N.ci N.ib w D a.a a.n (N.inner a.x)/\N.ok a.x
def ef.In.af{S:Nat->Prop}{a:Bx α}(b:N.In w D a)(c:ak S w w')(d:∀a,D a->¬S a):N.In w' D a:=⟨b.1.af c d,b.2⟩
def ef.In.mono{a:Bx α}(b:N.In w D a)(c:∀a,D a->f a):N.In w f a:=⟨b.1.mono c,b.2⟩
def ef.aD:∀{b:List α} {cs:List Value},bu N.Mw w D b cs->∃a:List (Bx α),a.map (·.x)=b/\bu N.jk w D a cs/\∀c∈a,N.In w D c
 |[],_,e=>⟨[],rfl,e,sM⟩
 |x::b,_,⟨f,g,h,⟨i,j,k,l,m,n⟩,o⟩=>by
  obtain⟨a,p,q,r⟩:=ef.aD o;refine⟨⟨x,i,j,k⟩::a,by simp[p],⟨f,g,h,⟨l,trivial⟩,q⟩,λc d=>?_⟩;rcases Q2.1 d with rfl|d
  ·exact⟨m,n⟩
  ·exact r c d
def ef.Qf{d:Nat->Prop}:∀{a:List (Bx α)} {cs:List Value},bu N.jk w d a cs->(∀b∈a,N.In w D b)->bu N.Mw w D (a.map (·.x)) cs
 |[],_,e,_=>e
 |b::a,_,⟨f,g,h,⟨i,_⟩,j⟩,c=>⟨f,g,h,⟨b.a,b.n,b.c,i,c b (QV ..)⟩,ef.Qf j λk l=>c k (QJ _ l)⟩
def ef.boxes{bytes:Nat}{e:List α}(f:Row N.Mw bytes w D d a e):∃b:List (Bx α),b.map (·.x)=e/\Row N.jk bytes w D d a b/\∀j∈b,N.In w D j:=by
 obtain⟨cs,o,p⟩:=f.aD;obtain⟨b,k,q,r⟩:=ef.aD o;have g:b.length=e.length:=by rw[<-k];simp
 have s:0<N.Mw.k:=Nat.lt_of_le_of_lt (Qj _) N.ho;refine⟨b,k,⟨by rw[g];exact f.len,f.dN,λC j h=>?_⟩,r⟩;have t:e≠[]:=by rintro rfl;rw[List.length_nil]at g;rw[QW g]at h;simp at h
 obtain⟨u,i,v,x,y,z⟩:=p t s;obtain⟨l,A,m⟩:=q.at h;refine⟨u,i,l,v,x,y,λn B=>?_,m⟩;have E:=N.jk.len m;have c:=A n B;rw[Qq (show n<l.length by omega)]at c⊢;rw[Nat.add_assoc];exact z _ _ c
def ef.unbox{h:List (Bx α)}(k:aO N.jk g f w d a c h)(e:∀b∈h,N.In w D b)(i:∀b,D b->b<w.heap.size/\aF d≠some b):aO N.Mw g (λb=>aF d=some b\/D b) w d a c (h.map (·.x)):=by
 obtain⟨cs,m,j,l,n⟩:=k.body;refine⟨⟨cs,D,j,ef.Qf l e,λb e=>⟨.inr e,(i b e).2⟩⟩,λb e=>.inl e,λb e=>?_⟩;rcases e with e|e
 ·exact j.lt e
 ·exact(i b e).1
def ef.set{h:List (Bx α)}(n:aO N.jk g f w d a c h){b:Bx α}(o:h[i]? =some b){m e:Nat}(p:d=some ⟨m,e,none⟩)(l:∀j,aO N.jk g f j d a c (h.set i ⟨b.x,r,k,C⟩)->ak (λb=>aF d=some b) w j->j.heap.size=w.heap.size->y j):PS w ⟨m,e+i*N.k+N.o,none⟩ (.slice r k C) y:=
 aO.set (x':=⟨b.x,r,k,C⟩) n o N.ho (N.eX ..).symm p l
end
end Go.ar
namespace Go.Proofs.YtjgjkeponbeekaaGreatDoor
open Go.ar
def jE.Ok(a:jE):Prop:=aH a.bw/\aH a.ng/\aH a.kD/\aH a.least
def nk(a:jE):List Value:=[XH a.bw,XH a.ng,XH a.kD,XH a.least]
def ix:jo jE:=flat 4 nk jE.Ok (λ_=>rfl) (λb c a=>by simp[nk]at a;rcases a with rfl|rfl|rfl|rfl<;>rfl)
def et(a:bf)(b:Option Addr)(c d:Nat):List Value:=[XH a.kind,XH a.dI,.bool a.floor,.slice b c d]
def rk:jo bf where
 k:=4
 rep:=λj D e cs=>∃a b c,cs=et e a b c/\Row ix 32 j D a b e.bq/\aH e.kind/\aH e.dI
 af:=λ⟨a,b,c,d,f,g⟩ k h=>⟨a,b,c,d,f.af k h,g⟩
 mono:=λ⟨a,b,c,d,f,g⟩ h=>⟨a,b,c,d,f.mono h,g⟩
 len:=λ⟨a,b,c,d,_,_⟩=>by rw[d];rfl
 one:=λ⟨a,b,c,d,_,_⟩ l i=>by
  rw[d]at i;simp[et]at i;rcases i with rfl|rfl|rfl|rfl<;>rfl
def mj:jo (List bf) where
 k:=1
 rep:=λh D i cs=>∃a b c,cs=[.slice a b c]/\Row rk 48 h D a b i
 af:=λ⟨a,b,c,d,e⟩ j f=>⟨a,b,c,d,e.af j f⟩
 mono:=λ⟨a,b,c,d,e⟩ f=>⟨a,b,c,d,e.mono f⟩
 len:=λ⟨a,b,c,d,_⟩=>by rw[d];rfl
 one:=λ⟨a,b,c,d,_⟩ k g=>by rw[d]at g;simp at g;subst g;rfl
def iP.Ok(a:iP):Prop:=aH a.aS/\aH a.field/\aH a.group/\aH a.Ek/\aH a.make
def ni(a:iP):List Value:=[XH a.aS,XH a.field,XH a.group,XH a.Ek,XH a.make]
def AW:jo iP:=flat 5 ni iP.Ok (λ_=>rfl) (λb c a=>by simp[ni]at a;rcases a with rfl|rfl|rfl|rfl|rfl<;>rfl)
def QA:jC XP 119 188 4 32:=⟨kR,kR,dC⟩
def SR:jC XP 116 121 4 48:=⟨kR,kR,dC⟩
def Ot:jC XP 22 118 1 24:=⟨kR,kR,dC⟩
def Pq:jC XP 23 138 5 40:=⟨kR,kR,dC⟩
def Jf(a:jE):gH XP 188 (nk a)=true:=kR
def fM(a:bf)(b:Option Addr)(c d:Nat):gH XP 121 (et a b c d)=true:=kR
def Ii(a:bf)(b:Option Addr)(c d:Nat):RY (cJ XP 121) (.agg (et a b c d).toArray)=true:=kR
def pk(a:iP):gH XP 138 (ni a)=true:=kR
def Vs:bf:=⟨0,0,false,[]⟩
structure bb (w:World) (D:Nat->Prop) (d:aM) (ta:Option Addr) (tn:Nat) (pa:Option Addr) (pn:Nat):Prop where
 aS:Row mj 24 w D ta tn d.types
 Em:Row AW 40 w D pa pn d.projs
variable{n:Array Value}{z:FuncId}{A e m:Int}{g0:List jE}{a c:Nat}{c6:bf}
section
variable {w w':World} {D D' S:Nat->Prop} {d:aM} {ta pa:Option Addr} {tn tc pn pc:Nat}
def bb.af(a:bb w D d ta tn pa pn)(b:ak S w w')(c:∀e,D e->¬S e):bb w' D d ta tn pa pn:=⟨a.aS.af b c,a.Em.af b c⟩
def bb.ah(a:bb w D d ta tn pa pn)(b:ai w w'):bb w' D d ta tn pa pn:=a.af b λ_ _ a=>a
def bb.mono(a:bb w D d ta tn pa pn)(b:∀c,D c->D' c):bb w D' d ta tn pa pn:=⟨a.aS.mono b,a.Em.mono b⟩
structure eA (w:World):Prop where
 kinds:∀i,i<6->w.cell? ⟨1,i,none⟩=some (XH (qt i))
 Vt:∀i,i<5->w.cell? ⟨0,i,none⟩=some (XH (([0,2,14,6,6]:List Int).getD i 0))
 lt:1<w.heap.size/\0<w.heap.size
def eA.ah(a:eA w)(c:ai w w'):eA w':=
 ⟨λb d=>(c.cell (a:=⟨1,b,none⟩) a.lt.1 id).trans (a.kinds b d),λb d=>(c.cell (a:=⟨0,b,none⟩) a.lt.2 id).trans (a.Vt b d),
  Qk a.lt.1 c.size,Qk a.lt.2 c.size⟩
def br:within e m A=true↔m<=e/\e<=A:=by simp[within]
def bU:Calls XP 97 #[XH e,XH m,XH A] w (Ok λa w'=>a= .bool (within e m A)/\w=w'):=by
 refine yp (al.dec (λb=>Ok.mk ⟨?_,rfl⟩) (λb=>Ok.mk ⟨?_,rfl⟩))
 ·simp[within];omega
 ·simp[within];omega
def sD{e:Option Addr}(h:Row ix 32 w D e a g0)(g:∀b,D b->b<w.heap.size):
  Calls XP 102 #[.slice e a c] w (Ok (py ix 188 w g0)):=by
 have x:=h.len;have d:=h.dN;refine gR (jJ QA.under ⟨_,rfl,al.mk (λf=>?_) (λf=>PA.mk λk i y l=>?_)⟩)
 ·have:g0=[]:=by
   cases e with
   |none=>
    cases g0 with
    |nil=>rfl
    |cons m z=>obtain⟨b,n,A,o,_⟩:=h.el 0 m rfl;cases o
   |some p=>cases f
  subst this;exact Ok.mk ⟨none,0,0,λ_=>False,rfl,aO.nil w,ak.refl _,λ_ h=>h.elim⟩
 ·cases e with
  |none=>cases f
  |some p=>
   have q:aO ix 188 (·=w.heap.size) k (ZX w.heap.size) 0 0 []:=
    ⟨⟨[],λ_=>False,Own.zz (cur:= #[]) l rfl (Qj _),rfl,λ_ h=>h.elim⟩,λb d=>by simpa[aF]using d.symm,λb d=>oM⟩
   refine kh q QA (D:=D) (h.ah i) (λb d=>⟨by have:=g b d;omega,by have:=g b d;simp only[aF];intro r;cases r;omega⟩) (by simp;omega) (by unfold aK at d;unfold maxLen;simp;omega) λj s B C t u _ v=>?_;refine⟨_,_,_,rfl,Ok.mk ⟨j,_,s,λb=>aF j=some b,rfl,by have h:=t.alone;rw[List.nil_append]at h;exact h,i.new u λb d=>.inr ?_,λb d=>?_⟩⟩
   ·simp only[aF,Q1]at d;omega
   ·rcases v b d with h|h<;>omega
def Ix{p:jE->Bool}{q:Option Addr}(j:Row ix 32 w D q a g0)(u:enters XP z=true)(v:∀e f,ai w f->Calls XP z (#[]++ #[.agg (nk e).toArray]++n) f (Ok λg r=>g= .bool (p e)/\ai f r)):
  Calls XP 101 #[.slice q a c,.func (.func z) #[] n] w (Ok λg w'=>g= .bool (g0.any p)/\ai w w'):=by
 have F:=j.len;have x:=j.dN;unfold aK at x;refine eZ (PC.ok (φ:=λg w'=>(∃d:Int,g= XH d/\(0<=d↔g0.any p=true))/\ai w w') (fC ⟨λe d w'=>∃b:Nat,d=b/\b<=a/\e=a-b/\(g0.take b).any p=false/\ai w w',
  ⟨_,0,rfl,Qj _,rfl,sM,ak.refl _⟩,?_⟩) ?_)
 ·rintro e d _ f ⟨b,rfl,H,rfl,k,h⟩
  refine al.dec (λy=>?_) (λy=>?_)
  ·obtain⟨A,l,m,I,rfl,_,_,s,B,rfl,_⟩:=(j.ah h).yV (i:=b) oM
   refine⟨A,l,rfl,oM,oM,bA (Jf m) rfl B ⟨z,_,_,rfl,u,PC.ok (v m f h) ?_⟩⟩;rintro _ r ⟨rfl,t⟩;refine⟨_,rfl,al.mk (λo=>?_) (λo=>?_)⟩
   ·exact Ok.mk ⟨⟨_,rfl,λ_=>List.any_eq_true.2 ⟨m,QZ s,o⟩,λ_=>oM⟩,h.then t⟩
   ·refine⟨_,oM,b+1,aq oM,oM,rfl,?_,h.then t⟩
    rw[Qw,s,List.any_append,k];simp[o]
  ·rw[Qz oM]at k
   exact Ok.mk ⟨⟨_,rfl,λi=>oM,λi=>by rw[k]at i;cases i⟩,h⟩
 ·rintro _ w' ⟨⟨d,rfl,C⟩,E⟩
  exact⟨_,rfl,Ok.mk ⟨by cases i:g0.any p<;>simp[i]at C⊢<;>omega,E⟩⟩
def aM.vw(a:d.CI e m=some c6):0<=e/\e<d.types.length/\∃b,d.types[e.toNat]? =some b/\d.at e=b/\0<=m/\m<b.length/\b[m.toNat]? =some c6:=by
 unfold aM.CI at a;split at a
 ·rename_i c
  simp only[QK,br]at c;have f:e.toNat<d.types.length:=oM
  have g:d.at e=d.types[e.toNat]:=by unfold aM.at;rw[if_pos (br.2 c.1)];simp[f]
  rw[g]at c a;exact⟨oM,oM,_,by simp[f],g,oM,oM,a⟩
 ·cases a
def og(p:bb w D d ta tn pa pn)(z:∀a,D a->a<w.heap.size):
  Calls XP 70 #[.agg #[.slice ta tn tc,.slice pa pn pc],XH e,XH m] w (Ok λA w'=>ai w w'/\match d.CI e m with
   |none=>A= .tuple #[.agg (et Vs none 0 0).toArray,.bool false]
   |some f=>∃B C E F,A= .tuple #[.agg (et f B C E).toArray,.bool true]/\aO ix 188 F w' B C E f.bq/\(∀a,F a->w.heap.size<=a)):=by
 have q:=p.aS.len;have b:=p.aS.dN;unfold aK at b;have c:within e 0 ((tn:Int)-1)=false->d.CI e m=none:=λH=>by unfold aM.CI;rw[q]at H;rw[if_neg (by simp[H])]
 refine Am (PA.mk λw1 V s1 r=>PA.mk λw2 l s2 s=>⟨_,_,_,ae (l.get r id) rfl,PC.ok bU ?_⟩);rintro _ _ ⟨rfl,rfl⟩;rw[wrap_i64 (by unfold aH;omega)];have g:=V.then l;refine⟨_,rfl,al.not (al.mk (λi=>?_) (λi=>?_))⟩
 rotate_left
 ·refine az (cs:=et Vs none 0 0) (fM _ _ _ _) s rfl λI h J j=>au (fM _ _ _ _) j (Ok.mk ⟨g.new h λa b=>.inr oM,?_⟩)
  rw[c i]
 have W:=br.1 i;refine⟨_,_,_,ae (l.get r id) rfl,?_⟩;obtain⟨a,k,X,es,rfl,a8,a9,Y,Z,b0,n1,c1,rfl,t⟩:=((p.ah g).aS).at (i:=e) oM oM;have K:=t.len;have a0:=t.dN;unfold aK at a0;have L:d.at e=X:=by
  unfold aM.at;rw[if_pos (by rw[<-q];exact i),QQ,Y];rfl
 have u:=Z 0 dC;simp only[mj,Nat.mul_one,Nat.add_zero]at u;refine⟨a,k,rfl,oM,oM,_,_,_,u,PC.ok bU ?_⟩;rintro _ _ ⟨rfl,rfl⟩;rw[wrap_i64 (by unfold aH;omega)];refine⟨_,rfl,al.not (al.mk (λn=>?_) (λn=>?_))⟩
 rotate_left
 ·refine az (cs:=et Vs none 0 0) (fM _ _ _ _) s rfl λI h J j=>au (fM _ _ _ _) j (Ok.mk ⟨g.new h λa b=>.inr oM,?_⟩)
  rw[show d.CI e m=none by unfold aM.CI;rw[L,<-K,if_neg (by simp[n])]]
 have a1:=br.1 n;refine⟨_,_,_,ae (l.get r id) rfl,a,k,rfl,oM,oM,_,_,_,u,?_⟩;obtain⟨b2,a2,f,b1,rfl,b3,b4,a3,a4,M,N,O,rfl,hM,b5,b6⟩:=t.at (i:=m) oM oM;have a5:d.CI e m=some f:=by unfold aM.CI;rw[L,<-K,<-q,if_pos (by simp[i,n])];exact a3
 refine⟨b2,a2,rfl,oM,oM,bA (fM f M N O) rfl a4 (PA.mk λI h J j=>az (fM f M N O) j rfl λw4 v s4 P=>⟨_,_,_,ae P rfl,PC.ok (sD ((hM.ah h).af v λa b Q=>by have:=z a b;have:=g.size;omega) λa b=>by have:=z a b;have:=g.size;omega) ?_⟩)⟩;rintro _ w5 ⟨R,S,T,F5,rfl,a6,o,x⟩;have z5:=o.size;refine⟨_,_,_,rfl,PS.mk (o.get P id) (by simp[et]) λw6 y s6 g6=>au (cs:=et f R S T) (fM _ _ _ _) g6 (az (fM _ _ _ _) (y.get (o.get (v.get (h.get s id) oM) id) oM) rfl λw7 U s7 g7=>au (fM _ _ _ _) g7 (Ok.mk ⟨?_,?_⟩))⟩
 ·have a7:ai w w6:=((((g.then h).new v λa b=>.inr oM).then o)).new y λa b=>.inr oM
  exact a7.new U λa b=>.inr oM
 ·rw[a5]
  exact⟨R,S,T,F5,rfl,(a6.af y λa b Q=>by have:=x a b;omega).af U λa b Q=>by have:=x a b;omega,λa b=>by have:=x a b;have:=g.size;omega⟩
end
variable{U:Int}{C b5 i k:Nat}{d d1 r:Option Addr}{N o:aj}
section
variable {w w':World} {D E:Nat->Prop}
def uy(j:Row aJ 8 w E r i N.aP):Calls XP 340 #[jA o d a c,jA N r i k] w (Ok λl w'=>l= .bool (AI o N)/\ai w w'):=by
 refine Av (PA.mk λs m t b=>PA.mk λn g u e=>λp q=>⟨no,?_⟩);have f:ai n p:=q.af;have b:=f.get (g.get b id) id;have e:=f.get e id;have h:=(m.then g).then f;refine⟨_,_,_,ae e rfl,_,ae b rfl,id,_,ae b rfl,PC.ok (nu (j.sQ.ah h)) ?_⟩;rintro _ _ ⟨rfl,rfl⟩;exact⟨_,rfl,ak.refl _,Ok.mk ⟨rfl,h⟩⟩
def Hw(m:Row aJ 8 w D d a o.aP)(n:Row aJ 8 w E r i N.aP):Calls XP 309 #[jA o d a c,jA N r i k] w (Ok λp w'=>p= .bool (uz o N)/\ai w w'):=by
 refine Cp (PA.mk λu q v b=>PA.mk λx l y g=>?_);have b:=l.get b id;have e:=q.then l;refine⟨_,_,ae b rfl,ae b rfl,_,_,ae g rfl,ae g rfl,Lj.neq ⟨_,rfl,?_⟩⟩;have s:(!(o.origin==N.origin&&o.seq==N.seq))=(aW o !=aW N):=rfl;rw[s];refine al.mk (λh=>au (aV o d a c) b (au (aV N r i k) g (PC.ok (uy (n.ah e)) ?_))) (λh=>Ok.mk ⟨by unfold uz;rw[h];rfl,e⟩);rintro _ z ⟨rfl,f⟩;refine⟨_,rfl,al.not (al.mk (λj=>Ok.mk ⟨by unfold uz;rw[h,j];rfl,e.then f⟩) (λj=>au (aV N r i k) (f.get g id) (au (aV o d a c) (f.get b id) (PC.ok (uy (m.ah (e.then f))) ?_))))⟩;rintro _ A ⟨rfl,t⟩;exact⟨_,rfl,Ok.mk ⟨by unfold uz;rw[h,j];rfl,(e.then f).then t⟩⟩
def lg:IZ XP 420 3:=⟨kR,kR,⟨"op", "arg",kR,dC,dC⟩,kR,kR,kR⟩
abbrev WU(a:bf)(b:Option Addr)(c d:Nat):Value:=.agg (et a b c d).toArray
def wK:Calls XP 308 #[WU c6 d a c,XH e,XH m,XH A,XH U] w (Ok λy w'=>y= .bool (dW c6 (e,m) (A,U))/\ai w w'):=by
 refine tk (PA.mk λP F T H=>PA.mk λQ z V I=>PA.mk λW q X J=>PS.mk (q.get I id) sM λY r Z K=>PS.mk K sM λw5 s s5 L=>PS.mk (s.get (r.get J oM) oM) sM λw6 t s6 M=>PS.mk M sM λu v s7 N=>?_);have R:ai w u:=(((((F.then z).then q).new r λj B=>.inr oM).new s λj B=>.inr oM).new t λj B=>.inr oM).new v λj B=>.inr oM;have S:=v.get (t.get (s.get (r.get (q.get (z.get H id) id) oM) oM) oM) oM;have f:u.heap[P.heap.size]? =some (.cells #[XH e,XH m] 420 (0,0)):=v.get (t.get L oM) oM;have g:u.heap[Q.heap.size]? =some (.cells #[XH A,XH U] 420 (0,0)):=N
 clear H I J K L M N F z q r s t v
 have b:∀{j:Bool},dW c6 (e,m) (A,U)=j->Ok (λy w'=>y= .bool (dW c6 (e,m) (A,U))/\ai w w') (.returned (.bool j)) u:=λ{j} k=>Ok.mk ⟨by rw[k],R⟩;have O:(((e,m):Int×Int) !=(A,U))= !(e==A&&m==U):=rfl;refine⟨_,ae S rfl,al.dA (λh=>?_) (λh=>al.dA (λo=>?_) (λo=>al.dA (λC=>?_) (λC=>b ?_)))⟩
 ·refine⟨_,ae f rfl,al.dA (λi=>⟨_,ae g rfl,al.dA (λl=>⟨_,_,ae f rfl,ae f rfl,_,_,ae g rfl,ae g rfl,lg.neq ⟨_,rfl,b ?_⟩⟩) (λl=>b ?_)⟩) (λi=>b ?_)⟩
  ·unfold dW;rw[if_pos h,O,show e=2 from i,show A=2 from l];rfl
  ·unfold dW;rw[if_pos h,show e=2 from i,show(A==2)=false by simpa using l];rfl
  ·unfold dW;rw[if_pos h,show(e==2)=false by simpa using i];rfl
 ·refine⟨_,ae f rfl,al.dA (λi=>⟨_,ae g rfl,al.dA (λl=>⟨_,_,ae f rfl,ae f rfl,_,_,ae g rfl,ae g rfl,lg.neq ⟨_,rfl,b ?_⟩⟩) (λl=>b ?_)⟩) (λi=>b ?_)⟩
  ·unfold dW;rw[if_neg h,if_pos o,O,show e=5 from i,show A=5 from l];rfl
  ·unfold dW;rw[if_neg h,if_pos o,show e=5 from i,show(A==5)=false by simpa using l];rfl
  ·unfold dW;rw[if_neg h,if_pos o,show(e==5)=false by simpa using i];rfl
 ·have p:dW c6 (e,m) (A,U)=((e==3&&m==U)&&(A==4&&U==m)||(e==4&&m==U)&&(A==3&&U==m)):=by
   unfold dW;rw[if_neg h,if_neg o,if_pos C];rfl
  refine⟨_,_,ae f rfl,ae f rfl,lg.eql ⟨_,rfl,al.mk (λx=>⟨_,_,ae g rfl,ae g rfl,lg.eql ⟨_,rfl,al.mk (λE=>b ?_) (λE=>?_)⟩⟩) (λx=>?_)⟩⟩
  ·rw[p,x,E];rfl
  ·have k:((e==3&&m==U)&&(A==4&&U==m))=false:=by rw[x,E];rfl
   exact⟨_,_,ae f rfl,ae f rfl,lg.eql ⟨_,rfl,al.mk (λn=>⟨_,_,ae g rfl,ae g rfl,lg.eql ⟨_,rfl,b (by rw[p,k,n];rfl)⟩⟩) (λn=>b (by rw[p,k,n];rfl))⟩⟩
  ·have k:((e==3&&m==U)&&(A==4&&U==m))=false:=by rw[x];rfl
   exact⟨_,_,ae f rfl,ae f rfl,lg.eql ⟨_,rfl,al.mk (λn=>⟨_,_,ae g rfl,ae g rfl,lg.eql ⟨_,rfl,b (by rw[p,k,n];rfl)⟩⟩) (λn=>b (by rw[p,k,n];rfl))⟩⟩
 ·unfold dW;rw[if_neg h,if_neg o,if_neg C]
def AJ{f:bf}(u:Row aJ 8 w D r i o.aP)(v:Row aJ 8 w E d1 C N.aP):
  Calls XP 251 #[WU f d a c,jA o r i k,jA N d1 C b5] w (Ok λx w'=>x= .bool (lN f o N)/\ai w w'):=by
 refine wv (PA.mk λH y I z=>PA.mk λJ s K A=>PA.mk λB l L h=>?_);have m:=l.get (s.get z id) id;have j:=l.get A id;have g:=(y.then s).then l;refine⟨λt w'=>t=(f.dI==2||f.dI==3&&decide (N.arg<o.arg))/\B=w',?_,?_⟩
 ·refine⟨_,ae m rfl,al.dA (λb=>⟨by rw[show f.dI=2 from b];rfl,rfl⟩) (λb=>⟨_,ae m rfl,al.dA (λn=>⟨_,ae j rfl,_,ae h rfl,?_,rfl⟩) (λn=>⟨?_,rfl⟩)⟩)⟩
  ·rw[show f.dI=3 from n];rfl
  ·rw[show(f.dI==2)=false by simpa using b,show(f.dI==3)=false by simpa using n];rfl
 ·rintro t _ _ ⟨p,rfl⟩
  refine al.mk (λb=>?_) (λb=>Ok.mk ⟨by unfold lN;rw[<-p,b];rfl,g⟩);refine au (fM f d a c) m ⟨_,ae j rfl,_,ae j rfl,_,ae h rfl,_,ae h rfl,PC.ok wK ?_⟩;rintro _ M ⟨rfl,e⟩;refine⟨_,rfl,al.mk (λq=>au (aV o r i k) (e.get j id) (au (aV N d1 C b5) (e.get h id) (PC.ok (Hw (u.ah (g.then e)) (v.ah (g.then e))) ?_))) (λq=>Ok.mk ⟨by unfold lN;rw[<-p,b,q];rfl,g.then e⟩)⟩;rintro _ O ⟨rfl,F⟩;exact⟨_,rfl,Ok.mk ⟨by unfold lN;rw[<-p,b,q];rfl,(g.then e).then F⟩⟩
end
def jU:ef cD Int where
 k:=2
 ci:=aJ
 ib:=8
 inner:=(·.set)
 hd:=λa b c d=>[XH a.n,.slice b c d]
 ok:=λa=>aH a.n/\vG a.set/\a.set.length<=64
 hl:=λ_ _ _ _=>rfl
 h1:=λa b c d f e=>by simp at e;rcases e with rfl|rfl<;>rfl
 o:=1
 ho:=dC
 eX:=λ_ _ _ _ _ _ _=>rfl
abbrev ei:jo cD:=jU.Mw
def OA:jC XP 47 78 2 32:=⟨kR,kR,dC⟩
abbrev Ro(a:Int):Nat:=if a=1 then 254 else if a=3 then 259 else if a=5 then 262 else 257
abbrev VF(a:Int):Nat:=if a=1 then 255 else if a=2 then 258 else if a=3 then 260 else if a=4 then 261 else 263
def pF(a:Int):Value:=.agg #[.func (.func (Ro a)) #[] #[],.func (.func (VF a)) #[] #[]]
def zI:lx XP 312 3 310 (.agg #[.nilFunc,.nilFunc]):=⟨kR,kR⟩
def jV:im XP 3 (Value.int .i64):=UF kR
variable{a9:List cD}
section
variable {w w':World} {D E:Nat->Prop}
def zJ:Calls XP 204 #[] w (Ok λd w'=>∃c,d= .map (some c)/\bD w' c (Value.int .i64) [((1:Int),pF 1),(2,pF 2),(3,pF 3),(4,pF 4),(5,pF 5)]/\ai w w'):=by
 refine Ew (PA.mk λq e r f=>?_);refine cW (k:=(1:Int)) zI jV (bD.new f) λs g h t=>cW (k:=(2:Int)) zI jV g λu i j v=>cW (k:=(3:Int)) zI jV i λx k l y=>cW (k:=(4:Int)) zI jV k λz m n A=>cW (k:=(5:Int)) zI jV m λB o p C=>Ok.mk ⟨_,rfl,o,?_⟩;exact((((e.new h λa b=>.inr oM).new j λa b=>.inr oM).new l λa b=>.inr oM).new n λa b=>.inr oM).new p λa b=>.inr oM
def Lp(a:1<=e)(b:e<=5):aE [((1:Int),pF 1),(2,pF 2),(3,pF 3),(4,pF 4),(5,pF 5)] e=some (pF e):=by
 have:e=1\/e=2\/e=3\/e=4\/e=5:=oM
 rcases this with rfl|rfl|rfl|rfl|rfl<;>rfl
def UG(a:bf)(b:Option Addr)(c d:Nat)(e:Option Addr)(f g:Nat)(h arg:Int):List Value:=[XH a.kind,XH a.dI,.bool a.floor,.slice b c d,.slice e f g,XH h,XH arg]
abbrev zK(a:bf)(b:Option Addr)(c d:Nat)(e:Option Addr)(f g:Nat)(h arg:Int):Value:=.agg (UG a b c d e f g h arg).toArray
def tP(a:bf)(b:Option Addr)(c d:Nat)(e:Option Addr)(f g:Nat)(h arg:Int):gH XP 315 (UG a b c d e f g h arg)=true:=kR
variable {f:bf} {ma ca:Option Addr} {mn mc cn cc i:Nat} {arg:Int}
def gI(d:ca=some ⟨a,c,none⟩)(h:i<cn):Calls XP 256 #[zK f ma mn mc ca cn cc (i:Int) arg] w (Ok λe w'=>e= .pointer (some ⟨a,c+i*2,none⟩)/\ai w w'):=
 xY (PA.mk λj g k b=>⟨_,_,_,ae b rfl,_,ae b rfl,a,c,d,oM,oM,Ok.mk ⟨rfl,g⟩⟩)
def OB(g:List bf)(e:List cD)(a d arg:Int):Bool:=
 let f:=g.getD a.toNat ⟨0,0,false,[]⟩
 let b:=e.getD a.toNat ⟨0,[]⟩
 if d=1 then(arg==0||Lq b.n arg)&& !(f.floor&&decide (oD (b.n+arg)<0))
 else if d=3 then decide (arg∈b.set)||decide (b.set.length<64)
 else if d=5 then(let c:=f.bq.getD arg.toNat ⟨0,0,0,0⟩;b.n==c.bw&&(decide (c.kD<0)||decide (c.least<=(e.getD c.kD.toNat ⟨0,[]⟩).n)))
 else true
def Ex(b:List bf)(c:List cD)(a d arg:Int):vJ b c a d arg=if OB b c a d arg then 0 else 10:=rfl
def mi{bytes:Nat}(g:Row ei bytes w D ca cn a9)(h:i<cn):∃a b c d e,ca=some ⟨a,b,none⟩/\a<w.heap.size/\D a/\w.cell? ⟨a,b+i*2,none⟩=some (XH (a9.getD i ⟨0,[]⟩).n)/\w.cell? ⟨a,b+i*2+1,none⟩=some (.slice c d e)/\Row aJ 8 w D c d (a9.getD i ⟨0,[]⟩).set/\aH (a9.getD i ⟨0,[]⟩).n/\vG (a9.getD i ⟨0,[]⟩).set/\(a9.getD i ⟨0,[]⟩).set.length<=64:=by
 have j:=g.len;obtain⟨a,b,q,l,m,n,k,c,d,e,rfl,o,f⟩:=g.el i a9[i] (by simp[j▸h]);have p:a9.getD i ⟨0,[]⟩=a9[i]:=by simp[QQ,j▸h]
 rw[p];exact⟨a,b,c,d,e,l,m,n,by have:=k 0 dC;simpa[jU,ef.Mw]using this,by have:=k 1 dC;simpa[jU,ef.Mw]using this,o,f.1,f.2.1,f.2.2⟩
def OC:Calls XP 310 #[XH e,XH m] w (Ok λa w'=>a= .bool (Lq e m)/\w=w'):=Je (Ok.mk ⟨rfl,rfl⟩)
def GO{bytes:Nat}(m:Row ei bytes w D ca cn a9)(j:i<cn):
  Calls XP 254 #[zK f ma mn mc ca cn cc (i:Int) arg] w (Ok λn w'=>n= .bool ((arg==0||Lq (a9.getD i ⟨0,[]⟩).n arg)&& !(f.floor&&decide (oD ((a9.getD i ⟨0,[]⟩).n+arg)<0)))/\ai w w'):=by
 refine BY (PA.mk λt k u l=>au (tP ..) l ?_);obtain⟨o,p,v,x,y,q,r,z,s,c,-⟩:=mi (m.ah k) j;refine PC.ok (gI q j) ?_;rintro _ A ⟨rfl,g⟩;have b:=g.get l id;have d:=k.then g;refine⟨_,rfl,_,_,rfl,_,(g.cell (a:=⟨o,p+i*2,none⟩) r id).trans s,_,ae b rfl,al.dA (λe=>⟨_,ae b rfl,al.mk (λa=>⟨_,ae b rfl,Ok.mk ⟨?_,d⟩⟩) (λa=>Ok.mk ⟨?_,d⟩)⟩) (λe=>⟨_,ae b rfl,PC.ok OC ?_⟩)⟩
 ·rw[show(arg==0)=true by simpa using e,a];rfl
 ·rw[show(arg==0)=true by simpa using e,a];rfl
 ·rintro _ _ ⟨rfl,rfl⟩
  have h:(arg==0)=false:=by simpa using e
  refine⟨_,rfl,al.mk (λc=>⟨_,ae b rfl,al.mk (λa=>⟨_,ae b rfl,Ok.mk ⟨?_,d⟩⟩) (λa=>Ok.mk ⟨?_,d⟩)⟩) (λc=>Ok.mk ⟨?_,d⟩)⟩
  ·rw[h,c,a];rfl
  ·rw[h,c,a];rfl
  ·rw[h,c];rfl
def GP{bytes:Nat}(o:Row ei bytes w D ca cn a9)(b:i<cn):
  Calls XP 259 #[zK f ma mn mc ca cn cc (i:Int) arg] w (Ok λp w'=>p= .bool (decide (arg∈(a9.getD i ⟨0,[]⟩).set)||decide ((a9.getD i ⟨0,[]⟩).set.length<64))/\ai w w'):=by
 refine BZ (PA.mk λq r B s=>λt u=>⟨no,?_⟩);have e:ai q t:=u.af;have c:=e.get s id;have d:=r.then e;obtain⟨g,h,C,E,F,j,k,H,I,v,l,-,x,-⟩:=mi (o.ah d) b;refine au (tP ..) c ⟨id,_,ae c rfl,PC.ok (gI j b) ?_⟩;rintro _ J ⟨rfl,a⟩;have m:=(a.cell (a:=⟨g,h+i*2+1,none⟩) k id).trans v;refine⟨_,rfl,ai.af a,_,_,rfl,_,_,_,m,PC.ok (sH (l.ah a) x) ?_⟩;rintro _ _ ⟨rfl,rfl⟩;refine⟨_,_,rfl,ak.refl _,al.mk (λy=>Ok.mk ⟨by rw[y];rfl,d.then a⟩) (λz=>au (tP ..) (a.get c id) (PC.ok (gI j b) ?_))⟩;rintro _ K ⟨rfl,n⟩;have A:=l.len;refine⟨_,rfl,_,_,rfl,_,_,_,(n.cell (a:=⟨g,h+i*2+1,none⟩) (Qk k a.size) id).trans m,Ok.mk ⟨?_,(d.then a).then n⟩⟩;rw[z,A]
 congr 1
 rw[Bool.false_or,decide_eq_decide];omega
def Ey{bytes:Nat}(o:Row ei bytes w D ca cn a9)(p:i<cn)(q:Row ix 32 w E ma mn f.bq)(h0:0<=arg)(h1:arg<(mn:Int))(r:((f.bq.getD arg.toNat ⟨0,0,0,0⟩).kD)<(cn:Int)):
  Calls XP 262 #[zK f ma mn mc ca cn cc (i:Int) arg] w (Ok λF w'=>F= .bool (let a:=f.bq.getD arg.toNat ⟨0,0,0,0⟩;(a9.getD i ⟨0,[]⟩).n==a.bw&&(decide (a.kD<0)||decide (a.least<=(a9.getD a.kD.toNat ⟨0,[]⟩).n)))/\ai w w'):=by
 refine zM (PA.mk λH s s1 h=>?_);have a0:=q.len;obtain⟨b,rfl⟩:∃b:Nat,arg=b:=⟨arg.toNat,oM⟩
 have t:b<f.bq.length:=oM
 obtain⟨I,J,es,K,a1,-,u,rfl,-⟩:=(q.ah s).el b f.bq[b] (by simp[t]);have L:f.bq.getD b ⟨0,0,0,0⟩=f.bq[b]:=by simp[QQ,t]
 simp only[Qx,L]at r⊢;generalize f.bq[b]=a at u r;refine⟨_,_,_,ae h rfl,_,ae h rfl,I,J,K,oM,oM,bA (es:=nk a) (k:=4) (Jf a) rfl (λM N=>u M N) (PA.mk λw2 O s2 P=>az (Jf a) P rfl λv Q s3 R=>λS T=>⟨no,?_⟩)⟩;have x:ai H v:=O.new Q λy z=>.inr oM;have j:ai v S:=T.af;have A:=(s.then x).then j;have B:=j.get (x.get h id) id;have c:=j.get R id;obtain⟨y,U,a2,a3,a4,V,z,a5,W,hs,-⟩:=mi (o.ah A) p;refine au (tP ..) B ⟨id,_,ae c rfl,PC.ok (gI V p) ?_⟩;rintro _ w5 ⟨rfl,d⟩;have c:=d.get c id;have e:=A.then d;refine⟨_,rfl,ai.af d,_,_,rfl,_,(d.cell (a:=⟨y,U+i*2,none⟩) z id).trans W,al.dA (λg=>⟨_,ae c rfl,al.dec (λk=>Ok.mk ⟨?_,e⟩) (λk=>?_)⟩) (λg=>Ok.mk ⟨?_,e⟩)⟩
 ·rw[show((a9.getD i ⟨0,[]⟩).n==a.bw)=true by simpa using g,decide_eq_true k];rfl
 ·obtain⟨l,C⟩:∃l:Nat,a.kD=l:=⟨a.kD.toNat,oM⟩
  obtain⟨X,Y,a',n',c',m,Z,-,n,-⟩:=mi (o.ah e) (i:=l) oM;refine⟨_,_,_,ae (d.get B id) rfl,_,ae c rfl,X,Y,m,oM,oM,_,by rw[C,Qx];exact n,_,ae c rfl,Ok.mk ⟨?_,e⟩⟩;rw[show((a9.getD i ⟨0,[]⟩).n==a.bw)=true by simpa using g,Xv k,C,Qx];rfl
 ·rw[show((a9.getD i ⟨0,[]⟩).n==a.bw)=false by simpa using g];rfl
end
end Go.Proofs.YtjgjkeponbeekaaGreatDoor

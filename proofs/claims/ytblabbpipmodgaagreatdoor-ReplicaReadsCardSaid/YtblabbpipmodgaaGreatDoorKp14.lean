import Derived.Test.YtblabbpipmodgaaGreatDoorYpCodeR
import Derived.Lib.AppendZerosOnto
import Derived.Lib.Overlaps
set_option maxHeartbeats 4000000
set_option linter.all false
set_option maxRecDepth 20000
open Go.IntKind renaming wrap→XG
namespace Go.Proofs.YtblabbpipmodgaaGreatDoor
open Go.aw
variable{p:Array Value}{b1 t:List Int}{a2:List Value}{a:Nat}{f:XN}{d:ZH}{h:Program}{j:Type}{B g o:TypeId}{l s:XR}{b:World}{M m:aj}{A:au}
def ep{c:ju j}{q n:Nat}{r:List j}{bytes:Nat}{M:Nat×Nat}{x:j}(m:aT c g f b d q n r)(I:iH h o g c.k bytes)(N:b.heap[a]? =some (.cells p g M)){D:XN}(z:c.rep b D x p.toList)(t:∀P,D P->P<b.heap.size/\aI d≠some P)(e:(r.length+1)*bytes<=aO)(O:r.length+1<=maxLen)(A:∀u k C v,aT c g v C u (q+1) k (r++[x])->ak (λF=>aI d=some F) b C->(∀P,v P->f P\/D P\/b.heap.size<=P)->l (.slice u (q+1) k) C):
  aH h (Builtin.append_ #[o,o] B #[.slice d q n,.slice (XM a) 1 1]) b l s:=by
 have J:=m.len I.pos;obtain⟨cs,Q,R,S,w⟩:=m.body;have V:=c.len z;refine yw I (news:=p.toList) R N (by rw[Qz oM]) oM (c.one z) (by rw[J];exact e) (by rw[J];exact O) λu T y K L E=>?_;have H:ak (λF=>aI d=some F) b y:=(L.mono λ_ _ m=>m.symm)
 let v:XN:=λP=>f P\/D P\/(b.heap.size<=P/\P<y.heap.size)
 have W:b.heap.size<=y.heap.size:=L.size;refine A u T y v ⟨⟨_,λP=>Q P\/D P,K,bJ.append ((S.af H λP e=>(w P e).2).mono λP e=>.inl e) (bJ.one (c.mono (c.af z H λP e=>(t P e).2) λP e=>.inr e)),?_⟩,?_,?_⟩ H ?_
 ·intro P e
  have X:P<b.heap.size:=e.elim (λi=>m.aF P (w P i).1) λi=>(t P i).1;refine⟨e.elim (λi=>.inl (w P i).1) λi=>.inr (.inl i),?_⟩;rcases E with E|E
  ·rw[E];exact e.elim (λi=>(w P i).2) λi=>(t P i).2
  ·rw[E];intro U;cases U;omega
 ·intro P e
  rcases E with E|E
  ·exact .inl (m.self P (E▸e))
  ·have:=K.lt e
   rw[E]at e;cases e;exact .inr (.inr ⟨oM,this⟩)
 ·rintro P (e|e|e)
  ·have:=m.aF P e;omega
  ·have:=(t P e).1;omega
  ·exact e.2
 ·rintro P (e|e|e)
  ·exact .inl e
  ·exact .inr (.inl e)
  ·exact .inr (.inr e.1)
def KE{D j:XN}(e:Row aM 8 b D d a t)(f:Row aM 8 b j d a b1):t=b1:=by
 have o:=e.len;have p:=f.len;apply List.ext_getElem oM;intro i k l;obtain⟨q,r,s,m,g,-,n⟩:=e.lu (i:=i) oM;obtain⟨u,v,w,P,h,-,c⟩:=f.lu (i:=i) oM;rw[m]at P;cases P
 rw[n]at c;cases c
 rw[Qq k]at g;rw[Qq l]at h;rw[XJ g,XJ h]
section
def Bo(c:World)(D:XN)(d:au)(e:List Value)(P:aj):Prop:=∃a b f,e=[js P a b f]/\Row aM 8 c D a b P.aQ/\P.Ok/\P∈d.l
def qv{P b:Type}(c:P->b->Prop):List P->List b->Prop
 |[],[]=>True
 |a::d,e::f=>c a e/\qv c d f
 |_,_=>False
def qv.snoc{P a:Type}{b:P->a->Prop}{c:P}{d:a}(e:b c d):∀{f:List P} {g:List a},qv b f g->qv b (f++[c]) (g++[d])
 |[],[],_=>⟨e,trivial⟩
 |_::_,_::_,h=>⟨h.1,qv.snoc e h.2⟩
def qv.length{P a:Type}{d:P->a->Prop}:∀{b:List P} {c:List a},qv d b c->b.length=c.length
 |[],[],_=>rfl
 |_::_,_::_,e=>by simp[qv.length e.2]
def Bo.unique{D:XN}(a:Bo b D A a2 m)(c:Bo b D A a2 M):m=M:=by
 obtain⟨f,g,h,rfl,d,-,-⟩:=a;obtain⟨i,j,k,P,e,-,-⟩:=c;simp only[aD,List.cons.injEq,Value.agg.injEq,Array.mk.injEq,Value.int.injEq,XX,and_true,true_and]at P;obtain⟨l,n,o,⟨rfl,rfl,rfl⟩,p,q,r,s,t,u⟩:=P;have:=KE d e
 cases m;cases M;simp_all
def qv.unique{a:World}{D:XN}{b:au}:∀{P:List (List Value)} {c d:List aj},qv (Bo a D b) P c->qv (Bo a D b) P d->c=d
 |[],[],[],_,_=>rfl
 |_::_,_::_,_::_,e,f=>by rw[e.1.unique f.1,qv.unique e.2 f.2]
variable {w w9 w1 A B:World} {p bo:Nat} {F:XN} {S:au} {q:PN} {Pr:aj->Bool} {s:World×(XN)} {pre:List (List Value)}
structure SJ (w9:World) (bo:Nat) (D:XN) (S:au) (Pr:aj->Bool) (s:World×(XN)) (pre:List (List Value)) (A:World):Prop where
 af:ak (·=bo) w9 A
 own:ak (dF s.2) s.1 A
 out:∀b,s.2 b->b≠w9.heap.size/\b≠w9.heap.size+1/\b≠bo
 aF:∀b,s.2 b->b<A.heap.size
 dB:w9.heap.size+2<=A.heap.size
 nW:∃a n c G L,A.heap[bo]? =some (.cells #[.slice a n c] 50 (0,0))/\aT h_ 55 G A a n c (L.filter Pr)/\(∀b,G b->w9.heap.size+2<=b/\¬s.2 b)/\qv (Bo w9 D S) pre L/\L.length<=S.l.length
def SJ.ah(a:SJ w9 bo q.D S Pr s pre A)(P:ai A B):SJ w9 bo q.D S Pr s pre B:=by
 obtain⟨b,c,d,e,f,g,h,i,G,j,k,l,m,n⟩:=a;exact⟨b.ah P,c.ah P,d,λo p=>Qk (e o p) P.size,Xx f P.size,g,h,i,G,j,P.get k id,l.ah P,m,n⟩
def SJ.eE(t:bo<w9.heap.size)(c:SJ w9 bo q.D S Pr s pre A)(f:ph (w9.heap.size+1) A B):SJ w9 bo q.D S Pr s pre B:=by
 obtain⟨g,h,d,i,u,j,k,l,G,m,n,o,e,p⟩:=c;obtain⟨b,v⟩:=f;exact⟨g.new b λP a=>.inr oM,h.trans b (λ_ _ c=>c) λP _ a r=>(d P r).2.1 a,d,λP a=>by have:=i P a;omega,oM,j,k,l,G,m,b.get n oM,o.af b λP a w=>by have:=(e P a).1;omega,e,p⟩
def SJ.re(P:SJ w9 bo q.D S Pr s pre A):SJ w9 bo q.D S Pr (A,s.2) pre A:=⟨P.af,ak.refl _,P.out,P.aF,P.dB,P.nW⟩
def PQ{R:XU}(c1:bo<w9.heap.size)(hS:S.OK)(f:qu w9 p F S q)(v:∃d a3,w9.heap[a]? =some (.cells #[.map (some q.r)] d a3))(w:a≠bo)(x:¬F bo)(y:∀A B,R A->ak (mU w9) A B->R B)(hy:∀s pre n A,SJ w9 bo q.D S Pr s pre A->R A->sr [js qO none 0 0] n->(pre.length<S.l.length/\∃d,Bo w9 q.D S n d)->jh XP (w9.heap.size+1) n A λP z=>P=true/\SJ w9 bo q.D S Pr s (pre++[n]) z/\R z)(o:SJ w9 bo q.D S Pr (w9,no) [] w1)(a7:R w1):
  ZG 205 #[.func (.yield (w9.heap.size+1)) #[] #[],XL a] w1 (Ok λa4 g=>R g/\∃s l,SJ w9 bo q.D S Pr s l g/\∃r,qv (Bo w9 q.D S) l r/\r.Perm S.l):=by
 obtain⟨e2,f2,v⟩:=v;have c2:=f.map.lt;have a8:qu w1 p F S q:=f.af o.af λP b d=>x (d▸b);have hD:∀P,q.D P->P<w9.heap.size/\P≠bo:=λP b=>⟨f.aF P (f.sub P (.inr (.inr (.inr b)))),λd=>x (d▸f.sub P (.inr (.inr (.inr b))))⟩
 have c3:=o.dB;have c4:q.r≠bo:=λd=>x (d▸f.sub _ (.inr (.inl rfl)));refine dq ⟨_,ae (o.af.get v w) rfl,mapRange PL a8.map λN b0 t s6=>?_⟩;obtain⟨j1,j2,j3,jd,j5,ja,jn,jc,G0,L0,j4,O,Q,j8⟩:=o;have b1:SJ w9 bo q.D S Pr (N,λP=>P=w1.heap.size\/P=q.r) [] N:=by
  refine⟨j1.ah t,ak.refl _,λP b=>by rcases b with rfl|rfl<;>omega,λP b=>by rcases b with rfl|rfl<;>omega,oM,ja,jn,jc,G0,L0,t.get j4 id,O.ah t,λP b=>⟨(Q P b).1,λd=>?_⟩,j8⟩;rcases d with rfl|rfl
  ·have:=O.aF _ b;omega
  ·have:=(Q _ b).1;omega
 refine⟨λT g=>∃pre left c k,T=left.length/\cO g w1.heap.size q.r DK q.l left/\e_ (RP w9 q.D) left c/\qv (Bo w9 q.D S) pre k/\(k++c.map (·.2)).Perm S.l/\SJ w9 bo q.D S Pr (g,λP=>P=w1.heap.size\/P=q.r) pre g/\R g,
  ⟨_,[],q.l,q.L,[],rfl,b0,f.rel,trivial,by simpa using f.UF,b1,y _ _ a7 (ai.af t)⟩,?_⟩
 rintro T _ c5 ⟨pre,left,c,k,rfl,hr,U,C,E,V,W⟩;refine mD hr (λh0=>.inl ⟨rfl,?_⟩) (λc6 a4 l1 l2 H a6 a9 b2 u c7=>.inr ⟨_,_,rfl,?_⟩)
 ·subst h0
  obtain rfl:c=[]:=by
   have:=U.length;simp at this;exact QW this.symm
  exact Ok.mk ⟨W,_,pre,V,k,C,by simpa using E⟩
 subst a6;obtain⟨X,e,Y,rfl,⟨h,i,j,rfl,Z,a0⟩,b3⟩:=U.Wi;have a1:e∈S.l:=E.mem_iff.1 sM;have a2:((k++[e])++(X++Y).map (·.2)).Perm S.l:=by
  refine List.Perm.trans ?_ E;simp only[Q3,QY,XQ,List.singleton_append];exact List.Perm.append_left _ List.perm_middle.symm
 have b4:pre.length<S.l.length:=by
  have I:=a2.length_eq;have w:=C.length;simp at I;omega
 have b5:SJ w9 bo q.D S Pr (H,λP=>P=w1.heap.size\/P=q.r) pre H:=by
  obtain⟨I,w,h3,hd,h5,h,i,j,G,r,h4,h6,h7,h8⟩:=V;exact⟨I.new u λP b=>.inr oM,ak.refl _,h3,λP b=>by have:=hd P b;omega,oM,h,i,j,G,r,u.get h4 (λd=>(h3 _ (.inl rfl)).2.2 d.symm),h6.af u λP b d=>(h7 P b).2 (.inl d),h7,h8⟩
 have b6:=y _ _ W (u.mono λP _ b=>(⟨oM,oM⟩:mU w9 P));refine pJ b2 ⟨_,_,_,_,_,_,_,_,_,_,_,_,_,rfl,PA.mk λc8 J c9 b7=>aB (aZ e h i j) b7 rfl λa5 K d0 b8=>ar (aZ e h i j) b8 ⟨_,rfl,(hy _ pre _ a5 ((b5.ah (J.new K λP b=>.inr oM)).re) ?_ ?_ ⟨b4,e,h,i,j,rfl,Z,a0,a1⟩).mono ?_⟩⟩
 ·exact y _ _ b6 (ai.af (J.new K λP b=>.inr oM))
 ·exact λφ L=>L e.origin e.seq e.aA h i j e.aX e.agg e.field e.op e.arg e.key
 ·rintro _ z ⟨rfl,m,b9⟩
  have c0:ai H a5:=J.new K λP b=>.inr oM;refine an.ff rfl ⟨_,?_,pre++[_],l1++l2,X++Y,k++[e],rfl,(a9.ah c0).af m.own (λM=>M (.inl rfl)) (λM=>M (.inr rfl)),b3,C.snoc ⟨h,i,j,rfl,Z,a0,a1⟩,a2,m.re,b9⟩;simp
def Bp(d:cC w p F S)(hl:S.l.length<=20000000){V W:Array Value}(hg:enters XP a=true)(hp:∀c j v L D w1,ai w w1->Row aM 8 w1 D j v c.aQ->c.Ok->c∈S.l->ZG a (V++ #[js c j v L]++W) w1 (Ok λy z=>y= .bool (Pr c)/\ai w1 z)):
  ZG 80 #[XL p,.func (.func a) V W] w (Ok (oK h_ 55 w (S.l.filter Pr))):=by
 have fj:=d;obtain⟨X,q,d⟩:=d;refine t_ (PA.mk λk k3 s3 g3=>PA.mk λM k4 s4 g4=>?_);have b4:=k3.then k4;have c7:=d.ah b4;refine⟨p,0,rfl,_,ae c7.at' rfl,PC.ok (φ:=λy z=>y= .func (.func 205) #[] #[XL M.heap.size]/\(∃c c8,z.heap[M.heap.size]? =some (.cells #[.map (some q.r)] c c8))/\ai M z/\z.heap.size=M.heap.size+1)
  (dG (PA.mk λw5 C s5 g5=>Ok.mk ⟨rfl,⟨_,_,g5⟩,C,s5⟩)) ?_⟩
 rintro _ w9 ⟨rfl,c9,Y,s9⟩;have Z:=b4.then Y;have b5:=d.ah Z;have hw:=d.aF;have b6:=ay d.at';have d0:=Y.get (k4.get g3 id) id;have d1:=Y.get g4 id;have b7:¬F k.heap.size:=λhf=>by have:=hw _ hf;omega
 have a0:k.heap.size<w9.heap.size:=oM
 refine⟨_,rfl,205,_,rfl,kR,World×(XN),(w9,no),SJ w9 k.heap.size q.D S Pr,λ_ _ _=>False,
  λpre vs=>pre.length<S.l.length/\∃c,Bo w9 q.D S vs c,λg=>∃e,qv (Bo w9 q.D S) g e/\e.Perm S.l,?_,λs pre A B l h=>l.eE a0 h,λ_ _ _ _ d _=>d,?_,?_,?_,trivial⟩
 ·intro w6 k6 s6
  exact⟨ai.af k6,ai.af k6,λb P=>P.elim,λb P=>P.elim,oM,none,0,0,λ_=>False,[],k6.get d1 id,aT.nil _,λb P=>P.elim,trivial,Qj _⟩
 ·rintro s pre A l f8 t1 t2 t3 o tn r t4 t5 t6 t7 t8 t9 ⟨f9,c,j,v,L,he,hr,N,a1⟩
  simp only[aD,List.cons.injEq,Value.agg.injEq,Array.mk.injEq,Value.int.injEq,XX,and_true,true_and]at he;obtain⟨rfl,rfl,rfl,⟨rfl,rfl,rfl⟩,rfl,rfl,rfl,rfl,rfl,rfl⟩:=he;refine PA.mk λg0 d2 g1 d3=>aB (aZ c o tn r) d3 rfl λd4 d5 g2 d6=>?_;have k2:ai A d4:=d2.new d5 λb P=>.inr oM;refine⟨ai.af k2,λb8 h=>?_⟩;have E:=(l.ah k2).eE a0 h;have b9:=h.1.get d6 oM;have g6:=h.2;have c0:∀b,q.D b->b<w9.heap.size/\b≠k.heap.size:=λb P=>⟨b5.aF b (d.sub b (.inr (.inr (.inr P)))),λc=>b7 (c▸d.sub b (.inr (.inr (.inr P))))⟩
  have c1:=hr.af E.af λb P=>(c0 b P).2;have d7:ai w b8:=Z.new E.af λb P=>.inr oM;refine⟨_,ae (E.af.get d0 oM) rfl,ar (aZ c o tn r) b9 ⟨a,V,W,rfl,hg,PC.ok (hp c o tn r _ b8 d7 c1 N a1) ?_⟩⟩;rintro _ d8 ⟨rfl,a2⟩;refine⟨_,rfl,an.mk (λh=>λc2 d9=>?_) (λhf=>?_)⟩
  ·have e0:ai d8 c2:=d9.af
   have O:=a2.then e0;have e1:=E.ah O;obtain⟨H,Q,I,t,h5,R,ln,lc,G,e,m,i,f,n,h9⟩:=e1;have e2:=c1.ah O;have b6:=n.length;refine⟨no,id,_,_,_,ae m rfl,ar (aZ c o tn r) (O.get b9 id) (PC.ok (lR e2 λb P=>by have:=(c0 b P).1;omega) ?_)⟩;rintro _ g7 ⟨e3,cn,cc,G2,rfl,e4,T,a3⟩;have g8:=a3.size;refine⟨_,_,_,_,_,_,_,_,_,_,_,_,rfl,ai.af a3,PA.mk λg9 a4 h0 e5=>⟨ai.af a4,?_⟩⟩;have kk:=a3.then a4;refine ep (c:=h_) (i.ah kk) FV e5 (D:=G2) (x:=c) ⟨e3,cn,cc,rfl,e4.ah a4,N⟩ (λb P=>⟨by have:=T b P;omega,λc=>by have:=T b P;have:=i.aF _ (i.self _ c);omega⟩) ?_ ?_ λa' J h1 F' e6 a5 c3=>⟨_,_,_,rfl,?_⟩
   ·have:=List.length_filter_le Pr e;unfold aO;omega
   ·have:=List.length_filter_le Pr e;unfold maxLen;omega
   have U:=i.self;have a6:¬aI R=some k.heap.size:=λc=>by have:=(f _ (U _ c)).1;omega
   have e7:=a5.get (kk.get m id) a6;refine PS.mk e7 sM λe8 c4 h2 e9=>?_;have C:ak (λb=>aI R=some b\/b=k.heap.size) c2 e8:=((ai.af kk).then (a5.mono λb _ P=>.inl P)).then (c4.mono λb _ P=>.inr P);have h3:=a5.size;refine⟨(ai.af O).trans C (λ_ _ d=>d) λb _ P=>?_,?_⟩
   ·rcases P with P|rfl
    ·have:=(f _ (U _ P)).1;exact⟨oM,oM⟩
    ·exact⟨oM,oM⟩
   refine⟨H.new C ?_,Q.trans C (λ_ _ d=>d) λb _ P u=>?_,I,λb P=>by have:=t b P;omega,oM,a',ln+1,J,F',e++[c],?_,?_,?_,n.snoc ⟨o,tn,r,rfl,hr,N,a1⟩,?_⟩
   ·rintro b (P|P)
    ·exact .inr (by have:=(f _ (U _ P)).1;omega)
    ·exact .inl P
   ·rcases P with P|P
    ·exact(f _ (U _ P)).2 u
    ·exact(I b u).2.2 P
   ·rw[e9];rfl
   ·have a7:(e++[c]).filter Pr=e.filter Pr++[c]:=by rw[List.filter_append];simp[h]
    rw[a7];refine e6.af c4 λb P c=>?_;rcases c3 b P with P|P|P
    ·have:=(f b P).1;omega
    ·have:=T b P;omega
    ·omega
   ·intro b P
    rcases c3 b P with P|P|P
    ·exact f b P
    ·have:=T b P;exact⟨oM,λu=>by have:=t b u;omega⟩
    ·exact⟨oM,λu=>by have:=t b u;omega⟩
   ·simp;omega
  ·refine⟨ai.af a2,?_⟩
   obtain⟨H,Q,I,t,h5,R,ln,lc,G,e,m,i,f,n,h9⟩:=E.ah a2;have b6:=n.length;refine⟨H,Q,I,t,h5,R,ln,lc,G,e++[c],m,?_,f,n.snoc ⟨o,tn,r,rfl,hr,N,a1⟩,by simp;omega⟩;have a7:(e++[c]).filter Pr=e.filter Pr:=by rw[List.filter_append];simp[hf]
   rw[a7];exact i
 ·intro f0 Rx hR _ h4 hy w6 f1 f2
  refine Calls.mono (PQ (R:=f0) a0 X b5 c9 oM b7 hR (λs pre vs A l f3 h hN=>(hy s pre vs A l f3 h hN).mono ?_) f1 f2) ?_
  ·rintro b A' (d|⟨-,x,d,-⟩)
   ·exact d
   ·exact d.elim
  ·rintro _ A' ⟨y,rfl,f4,s,g,a8,hT⟩
   exact⟨⟨y,rfl⟩,.inl ⟨f4,s,g,a8,hT⟩⟩
 ·rintro s g A l ⟨L',f5,f6⟩ hm
  obtain⟨H,Q,I,t,h5,j,v,L,G,e,m,i,f,n,h9⟩:=l;obtain rfl:=qv.unique n f5;have a9:(e.filter Pr).Perm (S.l.filter Pr):=f6.filter _;refine⟨_,_,_,ae m rfl,PC.ok (Iu i (by rw[a9.length_eq];exact Xx (List.length_filter_le ..) hl)) ?_⟩;rintro _ h6 ⟨rfl,l',K,b0,b1,b2⟩;have b3:=i.self;have a6:¬aI j=some k.heap.size:=λc=>by have:=(f _ (b3 _ c)).1;omega
  have f7:¬aI j=some w9.heap.size:=λc=>by have:=(f _ (b3 _ c)).1;omega
  refine⟨rfl,_,_,_,ae (b2.get m a6) rfl,b2.get hm f7,λi0 ⟨c5,i1⟩=>Ok.mk ?_⟩;have c6:=List.filter_sublist (p:=Pr) (l:=S.l);obtain rfl:l'=S.l.filter Pr:=KF b0 (X.NW.sublist c6) (K.trans a9) (((K.trans a9).map bd).nodup_iff.2 (X.ids.sublist (c6.map _)));refine⟨j,v,L,G,rfl,b1.af c5 λb P c=>by have:=(f b P).1;omega,?_,λb P=>by have:=(f b P).1;omega⟩;exact((Z.new H λb P=>.inr oM).new b2 λb P=>.inr (by have:=(f b (b3 b P)).1;omega)).new c5 λb P=>.inr oM
end
end Go.Proofs.YtblabbpipmodgaaGreatDoor
namespace Go.aw
variable{t:List Int}{a:Nat}{f:XN}{d:ZH}{j:Type}{g:TypeId}{b:World}
def Row.sq{D:XN}(P:Row aM 8 b D d a t):Ints b d a t:=by
 have n:=P.len;refine⟨n,P.dB,λh o=>?_,λi h c=>?_⟩
 ·obtain⟨i,c,rfl⟩:=List.getElem_of_mem o
  obtain⟨j,k,p,g,e,l,m⟩:=P.lu (i:=i) oM;rw[Qq c]at e;rw[XJ e];exact l
 ·have r:=(Qv.1 c).1
  obtain⟨j,k,s,g,q,u,v,w⟩:=P.el i h c;obtain⟨x,y,p,f,e,l,m⟩:=P.lu (i:=i) oM;rw[c]at e;rw[g]at f;cases f
  exact⟨j,k,g,q,by rw[m,XJ e]⟩
def Own.take{c:World}{d:TypeId}{k:Nat}{e:ZH}{a f m:Nat}{cs:List Value}(g:Own c d k e a f cs)(h:m<=a):Own c d k e m f (cs.take (m*k)):=by
 have i:=g.length;have j:m*k<=a*k:=Q0 _ h;refine⟨⟨by rw[Qy,i];omega,?_⟩⟩;rcases g.row.2 with⟨P,rfl⟩|⟨l,n,b,P,o,p,t,q,r,s⟩
 ·obtain rfl:m=0:=oM
  exact .inl ⟨P,rfl⟩
 ·simp only[XX]at P
  refine .inr ⟨l,n,b,by rw[P.1,P.2.2],o,p,oM,q,r,?_⟩;rw[<-s,List.take_take,X2 j]
def aT.take{c:ju j}{e P m:Nat}{h:List j}(a:aT c g f b d e P h)(i:m<=e):aT c g f b d m P (h.take m):=by
 obtain⟨cs,D,k,l,n⟩:=a.body;exact⟨⟨_,D,k.take i,l.take m,n⟩,a.self,a.aF⟩
end Go.aw
namespace Go.Proofs.YtblabbpipmodgaaGreatDoor
section
open Go.aw
variable{e:Int}{t:List Int}{a c:Nat}{d:ZH}
section
variable {w w' w1:World} {p:Nat} {F T:XN} {S:au} {q:PN}
def qx(d:cC w p F S)(P:S.l.length<=20000000):ZG 41 #[XL p] w (Ok (oK h_ 55 w S.l)):=by
 refine vx (PC.ok (Bp d P (Pr:=λ_=>true) kR λh a b c D w1 i j k l=>?_) ?_)
 ·exact sE (PA.mk λm e n o=>Ok.mk ⟨rfl,e⟩)
 ·rintro _ q ⟨a,b,c,G,rfl,P,f,g⟩
  rw[List.filter_eq_self.2 sM]at P;exact⟨_,_,_,rfl,Ok.mk ⟨a,b,c,G,rfl,P,f,g⟩⟩
def xm(q:cC w p F S)(r:S.l.length<=20000000){D:XN}(s:Row aM 8 w D d a t):
  ZG 50 #[XL p,.slice d a c,XH e] w (Ok (oK h_ 55 w (S.missing t e))):=by
 refine pt (PA.mk λw1 h E u=>PC.ok (Bp (q.ah h) r (Pr:=λP=>decide (max 0 (fr t P.origin)<P.seq)) kR λP k f l H I v J K L=>?_) ?_)
 ·refine nh (PA.mk λm n M g=>λx y=>⟨no,id,?_⟩)
  have i:ai m x:=y.af;have g:=i.get g id;have o:=v.then (n.then i);refine⟨_,ae g rfl,_,_,_,ae (o.get u id) rfl,_,ae g rfl,PC.ok (mS (s.sq.ah (h.then o))) ?_⟩;rintro _ _ ⟨rfl,rfl⟩;refine⟨_,rfl,ak.refl _,Ok.mk ⟨?_,n.then i⟩⟩
  congr 1
  rw[decide_eq_decide];split<;>omega
 ·rintro _ m ⟨k,f,l,G,rfl,b,z,A⟩
  have N:=b.len dC;have O:=b.jN;have j:(if e>0 then e else 0)=max 0 e:=by split<;>omega
  refine⟨_,_,_,rfl,?_⟩;refine⟨by rw[j];split<;>omega,by rw[j];split<;>omega,Ok.mk ⟨k,_,l,G,rfl,?_,h.then z,λB C=>by have:=A B C;omega⟩⟩;rw[j];have:=b.take (m:=Int.toNat (if max 0 e<(f:Int)then max 0 e else(f:Int))) (by split<;>omega);unfold au.missing;have P:(List.filter (λP=>decide (max 0 (fr t P.origin)<P.seq)) S.l).take (Int.toNat (if max 0 e<(f:Int)then max 0 e else(f:Int)))=(List.filter (λP=>decide (max 0 (fr t P.origin)<P.seq)) S.l).take (max 0 e).toNat:=by
   split
   ·rfl
   ·rw[Qz oM,Qz oM]
  rw[<-P];exact this
def xp{a:Type}(p:a->Bool):∀P:List a,P.find? p=(P.filter p).head?
 |[]=>rfl
 |x::P=>by
  rw[List.find?_cons,List.filter_cons]
  cases p x
  ·exact xp p P
  ·rfl
def Nu(C:cC w p F S)(q:S.l.length<=20000000){key:Int}:
  ZG 83 #[XL p,XH key] w (Ok λE w'=>∃r s H G,E= .tuple #[js ((S.keyed key).getD qO) r s H,.bool (S.keyed key).isSome]/\Row aM 8 w' G r s ((S.keyed key).getD qO).aQ/\(∀P,G P->w.heap.size<=P/\P<w'.heap.size)/\ai w w'):=by
 refine sF (PA.mk λw1 m Z t=>PA.mk λw2 j s2 I=>PC.ok (Bp ((C.ah m).ah j) q (Pr:=λa=>key !=0&&a.key==key) kR λa J K L D' M N hr u hm=>?_) ?_)
 ·refine py (PA.mk λv d x f=>?_)
  have y:=(j.then N).then d;refine⟨_,ae (y.get t id) rfl,an.dI (λO=>⟨_,ae f rfl,_,ae (y.get t id) rfl,Ok.mk ⟨?_,d⟩⟩) (λu=>Ok.mk ⟨?_,d⟩)⟩
  ·rw[show(key !=0)=true by simpa using O];rfl
  ·rw[u];rfl
 ·rintro _ M ⟨J,K,L,G,rfl,b,n,z⟩
  have k:=b.len dC;have A:=n.get I id;have B:S.keyed key=(S.l.filter λa=>key !=0&&a.key==key).head? :=xp _ _;refine⟨_,_,_,rfl,an.dO (λQ=>?_) (λQ=>?_)⟩
  ·have:(S.l.filter λa=>key !=0&&a.key==key)=[]:=QW oM
   rw[B,this];refine aB (aZ qO none 0 0) A rfl λv d x f=>ar (aZ qO none 0 0) f (Ok.mk ⟨none,0,0,λ_=>False,rfl,Row.nil _ _,λP c=>c.elim,((m.then j).then n).new d λP c=>.inr oM⟩)
  ·cases l:S.l.filter λa=>key !=0&&a.key==key with
   |nil=>rw[l]at k;simp at k;omega
   |cons e R=>
    rw[l]at b k;have a0:(e::R).length<=20000000:=by rw[<-l];exact Xx (List.length_filter_le ..) q
    have T:=b.row (bytes:=96) dC ba;obtain⟨P,U,es,V,c,a1,W,g,h,i,rfl,X,a3⟩:=T.el 0 e rfl
    with_reducible (conv=>whnf)
    rw[B,l];refine⟨P,U,V,oM,by simp at k;omega,?_⟩;refine bC (es:=aD e g h i) (k:=10) (aZ e g h i) rfl (λY o=>?_) (aB (aZ e g h i) A rfl λv d x f=>ar (aZ e g h i) f (Ok.mk ⟨g,h,i,G,rfl,?_,?_,?_⟩))
    ·have:=W Y o
     simpa using this
    ·exact X.af d λP c a=>by have:=z P c;omega
    ·intro P c;have:=z P c;have:=b.aF P c;omega
    ·exact((m.then j).then n).new d λP c=>.inr oM
end
end
section
open Go.aw
variable{e q:Int}{t:List Int}{a c:Nat}{d:ZH}{j:Type}
def SD(b:a+c<4611686018427387904):XG .i64 (je .u64 (XG .u64 (XG .i64 ((a:Int)+(c:Int)))) 1)=(((a+c)/2:Nat):Int):=by
 rw[wrap_i64 (x:=(a:Int)+c) bb];have P:XG .u64 ((a:Int)+(c:Int))=((a+c:Nat):Int):=by
  unfold XG;simp[IntKind.signed,IntKind.bits];omega
 rw[P,show(1:Int)=((1:Nat):Int)from rfl,L_ dC,wrap_i64 bb]
def posOf{P:Type}(a:P->Bool)(b:List P):Nat:=(b.takeWhile a).length
def yU(P:j->Bool)(a:List j):posOf P a<=a.length:=(List.takeWhile_sublist P).length_le
def yV{d:Type}{p:d->Bool}:∀{l:List d} {i:Nat},i<=l.length->(∀P x,P<i->l[P]? =some x->p x=true)->(∀x,l[i]? =some x->p x=false)->posOf p l=i
 |[],i,a,_,_=>by simp at a;subst a;rfl
 |x::l,0,_,_,f=>by
  have:=f x rfl;simp[posOf,this]
 |x::l,i+1,a,e,g=>by
  have h:=e 0 x oM rfl;have:=yV (p:=p) (l:=l) (i:=i) (by simpa using a) (λP b j c=>e (P+1) b oM (by simpa using c)) (λb c=>g b (by simpa using c));unfold posOf at this⊢;rw[List.takeWhile_cons,h];simp[this]
section
variable {w w':World} {D:XN}
def SE{w:World}:ZG 312 #[XH e] w (Ok λP w'=>P= .bool false/\w=w'):=sf (Ok.mk ⟨sM,rfl⟩)
def NT{w:World}:ZG 311 #[XH e,XH q] w (Ok λP w'=>P= .bool (decide (e<q))/\w=w'):=by
 refine yW (PC.ok isNaN ?_);rintro _ _ ⟨rfl,rfl⟩;exact⟨_,rfl,an.ff rfl (Ok.mk ⟨rfl,rfl⟩)⟩
abbrev vj(P:List Int):Prop:=P.Pairwise (·<·)
def sg(s:Row aM 8 w D d a t)(F:vj t):
  ZG 279 #[.slice d a c,XH e] w (Ok λH w'=>H= .tuple #[XH (posOf (λP=>decide (P<e)) t:Nat),.bool (decide (e∈t))]/\w=w'):=by
 have N:=s.len;have I:=s.dB;unfold aO at I;have z:∀{i k:Nat} {P m:Int},t[i]? =some P->t[k]? =some m->i<=k->P<=m:=λ{i k P m} g n O=>by
  obtain⟨o,rfl⟩:=Qv.1 g;obtain⟨p,rfl⟩:=Qv.1 n;rcases Nat.lt_or_ge i k with h|h
  ·exact Int.le_of_lt (List.pairwise_iff_getElem.1 F i k o p h)
  ·obtain rfl:i=k:=oM
   exact Int.le_refl _
 refine ix ⟨λE i k w'=>∃b j:Nat,i=b/\k=j/\E=j-b/\b<=j/\j<=a/\(∀f P,f<b->t[f]? =some P->P<e)/\(∀f P,j<=f->t[f]? =some P->e<=P)/\w=w',
  ⟨_,0,a,rfl,rfl,rfl,oM,oM,λf P l=>oM,λf P l g=>by have:=(Qv.1 g).1;omega,rfl⟩,?_⟩
 rintro E _ _ _ _ ⟨b,j,rfl,rfl,rfl,Q,J,o,p,rfl⟩;refine an.dec (λR=>?_) (λS=>?_)
 ·rw[SD oM]
  obtain⟨u,v,P,x,g,-,y⟩:=s.lu (i:=(b+j)/2) oM;refine⟨u,v,x,oM,oM,P,by rw[Qx];exact y,PC.ok NT ?_⟩;rintro _ _ ⟨rfl,rfl⟩;refine⟨_,rfl,an.dec (λK=>⟨_,?_,(b+j)/2+1,j,aq oM,rfl,rfl,oM,J,λf m l n=>?_,p,rfl⟩) (λK=>⟨_,?_,b,(b+j)/2,rfl,rfl,rfl,oM,oM,o,λf m l n=>?_,rfl⟩)⟩
  ·omega
  ·have:=z n g oM;omega
  ·omega
  ·have:=z g n l;omega
 ·obtain rfl:b=j:=oM
  have L:posOf (λP=>decide (P<e)) t=b:=yV oM (λf P l g=>by simpa using o f P l g) (λP g=>by have:=p b P (Q4 _) g;simp;omega);rw[L];have A:e∈t↔t[b]? =some e:=by
   constructor
   ·intro q
    obtain⟨f,l,rfl⟩:=List.getElem_of_mem q;have r:t[f]? =some t[f]:=Qq l;rcases Nat.lt_or_ge f b with h|h
    ·have:=o f _ h r;omega
    ·have B:b<t.length:=oM
     have T:=p b _ (Q4 _) (Qq B);have U:=z (Qq B) r h;rw[Qq B];congr 1;omega
   ·exact QZ
  refine an.dec (λM=>?_) (λM=>?_)
  ·obtain⟨u,v,P,x,g,-,y⟩:=s.lu (i:=b) oM
   refine⟨u,v,x,oM,oM,P,y,an.dO (λC=>Ok.mk ⟨?_,rfl⟩) (λC=>⟨u,v,x,oM,oM,P,y,PC.ok SE ?_⟩)⟩
   ·rw[Zy (A.2 (C▸g))]
   ·rintro _ _ ⟨rfl,rfl⟩
    refine⟨_,rfl,an.ff rfl (Ok.mk ⟨?_,rfl⟩)⟩;rw[Xv];intro q;have:=A.1 q;rw[g]at this;exact C (XJ this)
  ·refine Ok.mk ⟨?_,rfl⟩
   rw[Xv];intro q;have:=(Qv.1 (A.1 q)).1;omega
end
def Gk{a:Int}:∀{P:List Int},vj P->a∉P->oV a P=P.take (posOf (λy=>decide (y<a)) P)++a::P.drop (posOf (λy=>decide (y<a)) P)
 |[],_,_=>rfl
 |y::P,d,b=>by
  obtain⟨f,e⟩:=List.pairwise_cons.1 d;simp only[Q2,not_or]at b;unfold oV posOf
  by_cases c:a<y
  ·rw[Zx c,List.takeWhile_cons,Xv oM];rfl
  ·rw[Zq c,Zq b.1,List.takeWhile_cons,Zy (show y<a by omega),Gk e b.2];rfl
def tx{b:Int}:∀{P:List Int},b∈P->vj P->oV b P=P
 |y::P,a,c=>by
  obtain⟨d,e⟩:=List.pairwise_cons.1 c;unfold oV;rcases Q2.1 a with rfl|a
  ·rw[Zq oM,Zx rfl]
  ·have:=d b a
   rw[Zq oM,Zq oM,tx a e]
def Gm{b P:Int}:∀{a:List Int},P∈oV b a↔P=b\/P∈a
 |[]=>by simp[oV]
 |y::a=>by
  unfold oV;split
  ·simp
  ·split
   ·rename_i h;subst h;simp
   ·simp only[Q2,Gm]
    constructor
    ·rintro(h|h|h)<;>simp[h]
    ·rintro(h|h|h)<;>simp[h]
def CE{e:Int}:∀{a:List Int},vj a->vj (oV e a)
 |[],_=>List.pairwise_singleton ..
 |y::a,b=>by
  obtain⟨d,f⟩:=List.pairwise_cons.1 b;unfold oV;split
  ·rename_i g
   exact List.pairwise_cons.2 ⟨λc P=>by
    rcases Q2.1 P with rfl|P
    ·exact g
    ·have:=d c P;omega,b⟩
  ·split
   ·exact b
   ·refine List.pairwise_cons.2 ⟨λc P=>?_,CE f⟩
    rcases Gm.1 P with rfl|P
    ·omega
    ·exact d c P
def KQ{a:Int}:∀{P:List Int},vj P->a∈P->(P.filter λy=>y !=a)=P.eraseIdx (posOf (λy=>decide (y<a)) P)/\posOf (λy=>decide (y<a)) P<P.length
 |y::P,f,c=>by
  obtain⟨e,g⟩:=List.pairwise_cons.1 f;rcases Q2.1 c with rfl|c
  ·have d:posOf (λy=>decide (y<a)) (a::P)=0:=by simp[posOf]
   rw[d];refine⟨?_,sM⟩;rw[List.filter_cons_of_neg sM,List.eraseIdx_zero,List.tail_cons];refine List.filter_eq_self.2 λb h=>?_;have:=e b h;simp;omega
  ·have i:=e a c
   obtain⟨j,k⟩:=KQ g c;have d:posOf (λb=>decide (b<a)) (y::P)=posOf (λb=>decide (b<a)) P+1:=by simp[posOf,i]
   rw[d,List.filter_cons_of_pos bc,List.eraseIdx_cons_succ,j];exact⟨rfl,by simp;exact k⟩
def Gn(P:e∉t):(t.filter λa=>a !=e)=t:=List.filter_eq_self.2 λc b=>by
 simp only[bne_iff_ne,ne_eq];rintro rfl;exact P b
end
end Go.Proofs.YtblabbpipmodgaaGreatDoor
namespace Go.aw
open Go
variable{z:XT}{F a c i n:Nat}{f:XN}{Q W:Operand}{d r:ZH}{j:Type}{g o:TypeId}{l s:XR}{b:World}{x:XU}
def zb{m:Program}{i bytes:Nat}{f:j->List Value}{n:j->Prop}{hl hone}(r:iH m g o i bytes)(H:0<bytes){k:List j}{D:XN}(h:Row (flat i f n hl hone) bytes b D d a k)(t:∀P,D P->P<b.heap.size)(u:∀v w,oK (flat i f n hl hone) o b k v w->z (.returned v) w):
  aH m (do eqGuard .eql g Q W (.slice d a c) (.slice none 0 0);binOp .eql g (.slice d a c) (.slice none 0 0)) b (λI p=>∃(x:Bool),I= .bool x/\an x (z (.returned (.slice none 0 0)) p) (PA p (.cells #[] o) λJ=>
   aH m (Builtin.append_ #[g,g] g #[.slice (XM p.heap.size) 0 0,.slice d a c]) J (λK L=>∃(y:ZH) (A:Nat) (B:Nat),K= .slice y A B/\z (.returned (.slice y A B)) L) l)) s:=by
 have C:=h.len;have e:=h.dB;refine jA r.under ⟨_,rfl,an.mk (λq=>?_) (λq=>PA.mk λM E a0 N=>?_)⟩
 ·have:k=[]:=by
   cases d with
   |none=>
    cases k with
    |nil=>rfl
    |cons Q a1=>obtain⟨P,O,es,R,_⟩:=h.el 0 Q rfl;cases R
   |some S=>cases q
  subst this;exact u _ _ ⟨none,0,0,λ_=>False,rfl,aT.nil b,ak.refl _,λ_ h=>h.elim⟩
 ·cases d with
  |none=>cases q
  |some S=>
   have T:aT (flat i f n hl hone) o (·=b.heap.size) M (XM b.heap.size) 0 0 []:=
    ⟨⟨[],λ_=>False,Own.yS (cur:= #[]) N sM (Qj _),rfl,λ_ h=>h.elim⟩,λP e=>by simpa[aI]using e.symm,λP e=>oM⟩
   have U:a<=maxLen:=by
    unfold aO at e;unfold maxLen;have:a*1<=a*bytes:=Nat.mul_le_mul_left _ H;omega
   refine jX T r (D:=D) (h.ah E) (λP e=>⟨by have:=t P e;omega,by have:=t P e;simp only[aI];intro o;cases o;omega⟩) (by rw[ZQ,Xz,<-C];exact e) (by rw[ZQ,Xz,<-C];exact U) λF V w2 F' X Y _ Z=>?_;refine⟨_,_,_,rfl,u _ _ ⟨F,_,V,λP=>aI F=some P,rfl,by have h:=X.alone;rw[List.nil_append]at h;exact h,E.new Y λP e=>.inr ?_,λP e=>?_⟩⟩
   ·simp only[aI,Q1]at e;omega
   ·rcases Z P e with h|h<;>omega
structure Bx (α:Type) where
 x:α
 a:ZH
 n:Nat
 c:Nat
structure eI (α β:Type) where
 k:Nat
 ci:ju β
 ib:Nat
 inner:α->List β
 hd:α->ZH->Nat->Nat->List Value
 ok:α->Prop
 hl:∀x a n c,(hd x a n c).length=k
 h1:∀x a n c,∀u∈hd x a n c,u.oneCell'=true
 o:Nat
 ho:o<k
 fj:∀x a n c a' n' c',(hd x a n c).set o (.slice a' n' c')=hd x a' n' c'
section
variable {α β:Type} (N:eI α β)
def eI.jB:ju (Bx α):=flat N.k (λP=>N.hd P.x P.a P.n P.c) (λ_=>True) (λP=>N.hl ..) (λP=>N.h1 P.x P.a P.n P.c)
def eI.Me:ju α where
 k:=N.k
 rep:=λi D d cs=>∃P a b,cs=N.hd d P a b/\Row N.ci N.ib i D P a (N.inner d)/\N.ok d
 af:=λ⟨P,a,b,c,e,f⟩ j g=>⟨P,a,b,c,e.af j g,f⟩
 mono:=λ⟨P,a,b,c,e,f⟩ g=>⟨P,a,b,c,e.mono g,f⟩
 len:=λ⟨P,a,b,c,_,_⟩=>by rw[c];exact N.hl ..
 one:=λ⟨P,a,b,c,_,_⟩ k h=>by rw[c]at h;exact N.h1 _ _ _ _ k h
variable {N} {w w':World} {D:XN}
def eI.In(N:eI α β)(w:World)(D:XN)(P:Bx α):Prop:=Row N.ci N.ib w D P.a P.n (N.inner P.x)/\N.ok P.x
def eI.In.af{S:XN}{P:Bx α}(a:N.In w D P)(b:ak S w w')(c:∀P,D P->¬S P):N.In w' D P:=⟨a.1.af b c,a.2⟩
def eI.In.mono{P:Bx α}(a:N.In w D P)(b:∀P,D P->f P):N.In w f P:=⟨a.1.mono b,a.2⟩
def eI.br:∀{a:List α} {cs:List Value},bJ N.Me w D a cs->∃P:List (Bx α),P.map (·.x)=a/\bJ N.jB w D P cs/\∀b∈P,N.In w D b
 |[],_,d=>⟨[],rfl,d,sM⟩
 |x::a,_,⟨e,f,g,⟨h,i,j,k,l,m⟩,n⟩=>by
  obtain⟨P,o,p,q⟩:=eI.br n;refine⟨⟨x,h,i,j⟩::P,by simp[o],⟨e,f,g,⟨k,trivial⟩,p⟩,λb c=>?_⟩;rcases Q2.1 c with rfl|c
  ·exact⟨l,m⟩
  ·exact q b c
def eI.Pp{c:XN}:∀{P:List (Bx α)} {cs:List Value},bJ N.jB w c P cs->(∀b∈P,N.In w D b)->bJ N.Me w D (P.map (·.x)) cs
 |[],_,d,_=>d
 |b::P,_,⟨e,f,g,⟨h,_⟩,i⟩,a=>⟨e,f,g,⟨b.a,b.n,b.c,h,a b (QV ..)⟩,eI.Pp i λj k=>a j (QJ _ k)⟩
def eI.boxes{bytes:Nat}{c:List α}(e:Row N.Me bytes w D d a c):∃P:List (Bx α),P.map (·.x)=c/\Row N.jB bytes w D d a P/\∀i∈P,N.In w D i:=by
 obtain⟨cs,n,o⟩:=e.br;obtain⟨P,j,p,q⟩:=eI.br n;have f:P.length=c.length:=by rw[<-j];simp
 have r:0<N.Me.k:=Nat.lt_of_le_of_lt (Qj _) N.ho;refine⟨P,j,⟨by rw[f];exact e.len,e.dB,λB i g=>?_⟩,q⟩;have s:c≠[]:=by rintro rfl;rw[ZQ]at f;rw[QW f]at g;simp at g
 obtain⟨t,h,u,v,x,y⟩:=o s r;obtain⟨k,z,l⟩:=p.at g;refine⟨t,h,k,u,v,x,λm A=>?_,l⟩;have C:=N.jB.len l;have b:=z m A;rw[Qq (show m<k.length by omega)]at b⊢;rw[Nat.add_assoc];exact y _ _ b
def eI.unbox{e:List (Bx α)}(j:aT N.jB g f w d a c e)(b:∀P∈e,N.In w D P)(h:∀P,D P->P<w.heap.size/\aI d≠some P):aT N.Me g (λP=>aI d=some P\/D P) w d a c (e.map (·.x)):=by
 obtain⟨cs,l,i,k,m⟩:=j.body;refine⟨⟨cs,D,i,eI.Pp k b,λP b=>⟨.inr b,(h P b).2⟩⟩,λP b=>.inl b,λP b=>?_⟩;rcases b with b|b
 ·exact i.lt b
 ·exact(h P b).1
def eI.set{e:List (Bx α)}(l:aT N.jB g f w d a c e){P:Bx α}(m:e[i]? =some P){k b:Nat}(o:d=some ⟨k,b,none⟩)(h:∀j,aT N.jB g f j d a c (e.set i ⟨P.x,r,n,F⟩)->ak (λP=>aI d=some P) w j->j.heap.size=w.heap.size->x j):PS w ⟨k,b+i*N.k+N.o,none⟩ (.slice r n F) x:=
 aT.set (x':=⟨P.x,r,n,F⟩) l m N.ho (N.fj ..).symm o h
end
end Go.aw
namespace Go.Proofs.YtblabbpipmodgaaGreatDoor
open Go.aw
def jw.Ok(P:jw):Prop:=aN P.bP/\aN P.oN/\aN P.ku/\aN P.least
def mR(P:jw):List Value:=[XH P.bP,XH P.oN,XH P.ku,XH P.least]
def fF:ju jw:=flat 4 mR jw.Ok (λ_=>rfl) (λa b P=>by simp[mR]at P;rcases P with rfl|rfl|rfl|rfl<;>rfl)
def dy(P:bj)(a:ZH)(b c:Nat):List Value:=[XH P.kind,XH P.dJ,.bool P.floor,.slice a b c]
def oq:ju bj where
 k:=4
 rep:=λi D d cs=>∃P a b,cs=dy d P a b/\Row fF 32 i D P a d.bq/\aN d.kind/\aN d.dJ
 af:=λ⟨P,a,b,c,e,f⟩ j g=>⟨P,a,b,c,e.af j g,f⟩
 mono:=λ⟨P,a,b,c,e,f⟩ g=>⟨P,a,b,c,e.mono g,f⟩
 len:=λ⟨P,a,b,c,_,_⟩=>by rw[c];rfl
 one:=λ⟨P,a,b,c,_,_⟩ k h=>by
  rw[c]at h;simp[dy]at h;rcases h with rfl|rfl|rfl|rfl<;>rfl
def jO:ju (List bj) where
 k:=1
 rep:=λg D h cs=>∃P a b,cs=[.slice P a b]/\Row oq 48 g D P a h
 af:=λ⟨P,a,b,c,d⟩ i e=>⟨P,a,b,c,d.af i e⟩
 mono:=λ⟨P,a,b,c,d⟩ e=>⟨P,a,b,c,d.mono e⟩
 len:=λ⟨P,a,b,c,_⟩=>by rw[c];rfl
 one:=λ⟨P,a,b,c,_⟩ j f=>by rw[c]at f;simp at f;subst f;rfl
def iG.Ok(P:iG):Prop:=aN P.aX/\aN P.field/\aN P.group/\aN P.DT/\aN P.make
def mQ(P:iG):List Value:=[XH P.aX,XH P.field,XH P.group,XH P.DT,XH P.make]
def uq:ju iG:=flat 5 mQ iG.Ok (λ_=>rfl) (λa b P=>by simp[mQ]at P;rcases P with rfl|rfl|rfl|rfl|rfl<;>rfl)
def JN:iH XP 121 125 4 32:=⟨kR,kR,dC⟩
def Oy:iH XP 126 123 4 48:=⟨kR,kR,dC⟩
def KN:iH XP 22 130 1 24:=⟨kR,kR,dC⟩
def JB:iH XP 23 128 5 40:=⟨kR,kR,dC⟩
def IS(P:jw):ia XP 125 (mR P)=true:=kR
def eS(P:bj)(a:ZH)(b c:Nat):ia XP 123 (dy P a b c)=true:=kR
def HT(P:bj)(a:ZH)(b c:Nat):Qh (ft XP 123) (.agg (dy P a b c).toArray)=true:=kR
def oP(P:iG):ia XP 128 (mQ P)=true:=kR
def UD:bj:=⟨0,0,false,[]⟩
structure bf (w:World) (D:XN) (d:aR) (ta:ZH) (tn:Nat) (pa:ZH) (pn:Nat):Prop where
 aX:Row jO 24 w D ta tn d.types
 yO:Row uq 40 w D pa pn d.projs
variable{y:FuncId}{e q:Int}{g0:List jw}{a c:Nat}{b3:bj}
section
variable {w w':World} {D D' S:XN} {d:aR} {ta pa:ZH} {tn tc pn pc:Nat}
def bf.af(P:bf w D d ta tn pa pn)(a:ak S w w')(b:∀c,D c->¬S c):bf w' D d ta tn pa pn:=⟨P.aX.af a b,P.yO.af a b⟩
def bf.ah(P:bf w D d ta tn pa pn)(a:ai w w'):bf w' D d ta tn pa pn:=P.af a λ_ _ P=>P
def bf.mono(P:bf w D d ta tn pa pn)(a:∀b,D b->D' b):bf w D' d ta tn pa pn:=⟨P.aX.mono a,P.yO.mono a⟩
structure eG (w:World):Prop where
 kinds:∀i,i<6->w.cell? ⟨1,i,none⟩=some (XH (pW i))
 UE:∀i,i<5->w.cell? ⟨0,i,none⟩=some (XH (([0,2,14,6,6]:List Int).getD i 0))
 lt:1<w.heap.size/\0<w.heap.size
def eG.ah(P:eG w)(b:ai w w'):eG w':=
 ⟨λa c=>(b.cell (a:=⟨1,a,none⟩) P.lt.1 id).trans (P.kinds a c),λa c=>(b.cell (a:=⟨0,a,none⟩) P.lt.2 id).trans (P.UE a c),
  Qk P.lt.1 b.size,Qk P.lt.2 b.size⟩
def bB{P a b:Int}:within P a b=true↔a<=P/\P<=b:=by simp[within]
def cf{P a b:Int}:ZG 125 #[XH P,XH a,XH b] w (Ok λc w'=>c= .bool (within P a b)/\w=w'):=by
 refine xQ (an.dec (λd=>Ok.mk ⟨?_,rfl⟩) (λd=>Ok.mk ⟨?_,rfl⟩))
 ·simp[within];omega
 ·simp[within];omega
def r_{d:ZH}(h:Row fF 32 w D d a g0)(f:∀P,D P->P<w.heap.size):
  ZG 130 #[.slice d a c] w (Ok (oK fF 125 w g0)):=by
 have v:=h.len;have b:=h.dB;refine gJ (jA JN.under ⟨_,rfl,an.mk (λe=>?_) (λe=>PA.mk λj g x k=>?_)⟩)
 ·have:g0=[]:=by
   cases d with
   |none=>
    cases g0 with
    |nil=>rfl
    |cons l y=>obtain⟨P,m,z,n,_⟩:=h.el 0 l rfl;cases n
   |some o=>cases e
  subst this;exact Ok.mk ⟨none,0,0,λ_=>False,rfl,aT.nil w,ak.refl _,λ_ h=>h.elim⟩
 ·cases d with
  |none=>cases e
  |some o=>
   have p:aT fF 125 (·=w.heap.size) j (XM w.heap.size) 0 0 []:=
    ⟨⟨[],λ_=>False,Own.yS (cur:= #[]) k rfl (Qj _),rfl,λ_ h=>h.elim⟩,λP b=>by simpa[aI]using b.symm,λP b=>oM⟩
   refine jX p JN (D:=D) (h.ah g) (λP b=>⟨by have:=f P b;omega,by have:=f P b;simp only[aI];intro q;cases q;omega⟩) bc (by unfold aO at b;unfold maxLen;simp;omega) λi r A B s t _ u=>?_;refine⟨_,_,_,rfl,Ok.mk ⟨i,_,r,λP=>aI i=some P,rfl,by have h:=s.alone;rw[List.nil_append]at h;exact h,g.new t λP b=>.inr ?_,λP b=>?_⟩⟩
   ·simp only[aI,Q1]at b;omega
   ·rcases u P b with h|h<;>omega
def Ij{d:Array Value}{p:jw->Bool}{o:ZH}(j:Row fF 32 w D o a g0)(t:enters XP y=true)(u:∀e f,ai w f->ZG y (#[]++ #[.agg (mR e).toArray]++d) f (Ok λg q=>g= .bool (p e)/\ai f q)):
  ZG 129 #[.slice o a c,.func (.func y) #[] d] w (Ok λg w'=>g= .bool (g0.any p)/\ai w w'):=by
 have E:=j.len;have v:=j.dB;unfold aO at v;refine fl (PC.ok (φ:=λg w'=>(∃b:Int,g= XH b/\(0<=b↔g0.any p=true))/\ai w w') (fG ⟨λe b w'=>∃P:Nat,b=P/\P<=a/\e=a-P/\(g0.take P).any p=false/\ai w w',
  ⟨_,0,rfl,Qj _,rfl,sM,ak.refl _⟩,?_⟩) ?_)
 ·rintro e b _ f ⟨P,rfl,F,rfl,k,h⟩
  refine an.dec (λx=>?_) (λx=>?_)
  ·obtain⟨z,l,m,H,rfl,_,_,r,A,rfl,_⟩:=(j.ah h).wK (i:=P) oM
   refine⟨z,l,rfl,oM,oM,bC (IS m) rfl A ⟨y,_,_,rfl,t,PC.ok (u m f h) ?_⟩⟩;rintro _ q ⟨rfl,s⟩;refine⟨_,rfl,an.mk (λn=>?_) (λn=>?_)⟩
   ·exact Ok.mk ⟨⟨_,rfl,λ_=>List.any_eq_true.2 ⟨m,QZ r,n⟩,λ_=>oM⟩,h.then s⟩
   ·refine⟨_,oM,P+1,aq oM,oM,rfl,?_,h.then s⟩
    rw[Qw,r,List.any_append,k];simp[n]
  ·rw[Qz oM]at k
   exact Ok.mk ⟨⟨_,rfl,λi=>oM,λi=>by rw[k]at i;cases i⟩,h⟩
 ·rintro _ w' ⟨⟨b,rfl,B⟩,C⟩
  exact⟨_,rfl,Ok.mk ⟨by cases i:g0.any p<;>simp[i]at B⊢<;>omega,C⟩⟩
def aR.vd(P:d.Cs e q=some b3):0<=e/\e<d.types.length/\∃a,d.types[e.toNat]? =some a/\d.at e=a/\0<=q/\q<a.length/\a[q.toNat]? =some b3:=by
 unfold aR.Cs at P;split at P
 ·rename_i b
  simp only[QK,bB]at b;have c:e.toNat<d.types.length:=oM
  have f:d.at e=d.types[e.toNat]:=by unfold aR.at;rw[Zx (bB.2 b.1)];simp[c]
  rw[f]at b P;exact⟨oM,oM,_,by simp[c],f,oM,oM,P⟩
 ·cases P
def nN(n:bf w D d ta tn pa pn)(y:∀P,D P->P<w.heap.size):
  ZG 71 #[.agg #[.slice ta tn tc,.slice pa pn pc],XH e,XH q] w (Ok λz w'=>ai w w'/\match d.Cs e q with
   |none=>z= .tuple #[.agg (dy UD none 0 0).toArray,.bool false]
   |some c=>∃A B C E,z= .tuple #[.agg (dy c A B C).toArray,.bool true]/\aT fF 125 E w' A B C c.bq/\(∀P,E P->w.heap.size<=P)):=by
 have o:=n.aX.len;have a:=n.aX.dB;unfold aO at a;have b:within e 0 ((tn:Int)-1)=false->d.Cs e q=none:=λF=>by unfold aR.Cs;rw[o]at F;rw[Zq (by simp[F])]
 refine zB (PA.mk λw1 V s1 p=>PA.mk λw2 k s2 r=>⟨_,_,_,ae (k.get p id) rfl,PC.ok cf ?_⟩);rintro _ _ ⟨rfl,rfl⟩;rw[wrap_i64 bb];have f:=V.then k;refine⟨_,rfl,an.not (an.mk (λh=>?_) (λh=>?_))⟩
 rotate_left
 ·refine aB (cs:=dy UD none 0 0) (eS _ _ _ _) r rfl λH g I i=>ar (eS _ _ _ _) i (Ok.mk ⟨f.new g λP a=>.inr oM,?_⟩)
  rw[b h]
 have W:=bB.1 h;refine⟨_,_,_,ae (k.get p id) rfl,?_⟩;obtain⟨P,j,X,es,rfl,a8,a9,Y,Z,b0,n1,c1,rfl,s⟩:=((n.ah f).aX).at (i:=e) oM oM;have J:=s.len;have a0:=s.dB;unfold aO at a0;have K:d.at e=X:=by
  unfold aR.at;rw[Zx (by rw[<-o];exact h),QQ,Y];rfl
 have t:=Z 0 dC;simp only[jO,Nat.mul_one,Nat.add_zero]at t;refine⟨P,j,rfl,oM,oM,_,_,_,t,PC.ok cf ?_⟩;rintro _ _ ⟨rfl,rfl⟩;rw[wrap_i64 bb];refine⟨_,rfl,an.not (an.mk (λl=>?_) (λl=>?_))⟩
 rotate_left
 ·refine aB (cs:=dy UD none 0 0) (eS _ _ _ _) r rfl λH g I i=>ar (eS _ _ _ _) i (Ok.mk ⟨f.new g λP a=>.inr oM,?_⟩)
  rw[show d.Cs e q=none by unfold aR.Cs;rw[K,<-J,Zq (by simp[l])]]
 have a1:=bB.1 l;refine⟨_,_,_,ae (k.get p id) rfl,P,j,rfl,oM,oM,_,_,_,t,?_⟩;obtain⟨b2,a2,c,b1,rfl,b3,b4,a3,a4,L,M,N,rfl,hM,b5,b6⟩:=s.at (i:=q) oM oM;have a5:d.Cs e q=some c:=by unfold aR.Cs;rw[K,<-J,<-o,Zx (by simp[h,l])];exact a3
 refine⟨b2,a2,rfl,oM,oM,bC (eS c L M N) rfl a4 (PA.mk λH g I i=>aB (eS c L M N) i rfl λw4 u s4 O=>⟨_,_,_,ae O rfl,PC.ok (r_ ((hM.ah g).af u λP a Q=>by have:=y P a;have:=f.size;omega) λP a=>by have:=y P a;have:=f.size;omega) ?_⟩)⟩;rintro _ w5 ⟨R,S,T,F5,rfl,a6,m,v⟩;have z5:=m.size;refine⟨_,_,_,rfl,PS.mk (m.get O id) (by simp[dy]) λw6 x s6 g6=>ar (cs:=dy c R S T) (eS _ _ _ _) g6 (aB (eS _ _ _ _) (x.get (m.get (u.get (g.get r id) oM) id) oM) rfl λw7 U s7 g7=>ar (eS _ _ _ _) g7 (Ok.mk ⟨?_,?_⟩))⟩
 ·have a7:ai w w6:=((((f.then g).new u λP a=>.inr oM).then m)).new x λP a=>.inr oM
  exact a7.new U λP a=>.inr oM
 ·rw[a5]
  exact⟨R,S,T,F5,rfl,(a6.af x λP a Q=>by have:=v P a;omega).af U λP a Q=>by have:=v P a;omega,λP a=>by have:=v P a;have:=f.size;omega⟩
end
variable{S b9:Int}{F c1 i n:Nat}{c2 d r:ZH}{M m:aj}
section
variable {w w':World} {D E:XN}
def ue(h:Row aM 8 w E r i M.aQ):ZG 305 #[js m d a c,js M r i n] w (Ok λj w'=>j= .bool (zV m M)/\ai w w'):=by
 refine zM (PA.mk λq k s P=>PA.mk λl f t b=>λo p=>⟨no,?_⟩);have e:ai l o:=p.af;have P:=e.get (f.get P id) id;have b:=e.get b id;have g:=(k.then f).then e;refine⟨_,_,_,ae b rfl,_,ae P rfl,id,_,ae P rfl,PC.ok (mS (h.sq.ah g)) ?_⟩;rintro _ _ ⟨rfl,rfl⟩;exact⟨_,rfl,ak.refl _,Ok.mk ⟨rfl,g⟩⟩
def GP(k:Row aM 8 w D d a m.aQ)(l:Row aM 8 w E r i M.aQ):ZG 266 #[js m d a c,js M r i n] w (Ok λo w'=>o= .bool (uf m M)/\ai w w'):=by
 refine BW (PA.mk λt p u P=>PA.mk λv j x f=>?_);have P:=j.get P id;have b:=p.then j;refine⟨_,_,ae P rfl,ae P rfl,_,_,ae f rfl,ae f rfl,KM.neq ⟨_,rfl,?_⟩⟩;have q:(!(m.origin==M.origin&&m.seq==M.seq))=(bd m !=bd M):=rfl;rw[q];refine an.mk (λg=>ar (aZ m d a c) P (ar (aZ M r i n) f (PC.ok (ue (l.ah b)) ?_))) (λg=>Ok.mk ⟨by unfold uf;rw[g];rfl,b⟩);rintro _ y ⟨rfl,e⟩;refine⟨_,rfl,an.not (an.mk (λh=>Ok.mk ⟨by unfold uf;rw[g,h];rfl,b.then e⟩) (λh=>ar (aZ M r i n) (e.get f id) (ar (aZ m d a c) (e.get P id) (PC.ok (ue (k.ah (b.then e))) ?_))))⟩;rintro _ z ⟨rfl,s⟩;exact⟨_,rfl,Ok.mk ⟨by unfold uf;rw[g,h];rfl,(b.then e).then s⟩⟩
def kU:II XP 385 3:=⟨kR,kR,⟨ "op", "arg",kR,dC,dC⟩,kR,kR,kR⟩
abbrev Wd(P:bj)(a:ZH)(b c:Nat):Value:=.agg (dy P a b c).toArray
def vT:ZG 265 #[Wd b3 d a c,XH e,XH q,XH S,XH b9] w (Ok λx w'=>x= .bool (ez b3 (e,q) (S,b9))/\ai w w'):=by
 refine sP (PA.mk λN C T E=>PA.mk λO y U F=>PA.mk λV o W H=>PS.mk (o.get F id) sM λX p Y I=>PS.mk I sM λZ r s5 J=>PS.mk (r.get (p.get H oM) oM) sM λw6 s s6 K=>PS.mk K sM λt u s7 L=>?_);have Q:ai w t:=(((((C.then y).then o).new p λi z=>.inr oM).new r λi z=>.inr oM).new s λi z=>.inr oM).new u λi z=>.inr oM;have R:=u.get (s.get (r.get (p.get (o.get (y.get E id) id) oM) oM) oM) oM;have b:t.heap[N.heap.size]? =some (.cells #[XH e,XH q] 385 (0,0)):=u.get (s.get J oM) oM;have f:t.heap[O.heap.size]? =some (.cells #[XH S,XH b9] 385 (0,0)):=L
 clear E F H I J K L C y o p r s u
 have P:∀{i:Bool},ez b3 (e,q) (S,b9)=i->Ok (λx w'=>x= .bool (ez b3 (e,q) (S,b9))/\ai w w') (.returned (.bool i)) t:=λ{i} j=>Ok.mk ⟨by rw[j],Q⟩;have M:(((e,q):Int×Int) !=(S,b9))= !(e==S&&q==b9):=rfl;refine⟨_,ae R rfl,an.dO (λg=>?_) (λg=>an.dO (λm=>?_) (λm=>an.dO (λA=>?_) (λA=>P ?_)))⟩
 ·refine⟨_,ae b rfl,an.dO (λh=>⟨_,ae f rfl,an.dO (λk=>⟨_,_,ae b rfl,ae b rfl,_,_,ae f rfl,ae f rfl,kU.neq ⟨_,rfl,P ?_⟩⟩) (λk=>P ?_)⟩) (λh=>P ?_)⟩
  ·unfold ez;rw[Zx g,M,show e=2 from h,show S=2 from k];rfl
  ·unfold ez;rw[Zx g,show e=2 from h,show(S==2)=false by simpa using k];rfl
  ·unfold ez;rw[Zx g,show(e==2)=false by simpa using h];rfl
 ·refine⟨_,ae b rfl,an.dO (λh=>⟨_,ae f rfl,an.dO (λk=>⟨_,_,ae b rfl,ae b rfl,_,_,ae f rfl,ae f rfl,kU.neq ⟨_,rfl,P ?_⟩⟩) (λk=>P ?_)⟩) (λh=>P ?_)⟩
  ·unfold ez;rw[Zq g,Zx m,M,show e=5 from h,show S=5 from k];rfl
  ·unfold ez;rw[Zq g,Zx m,show e=5 from h,show(S==5)=false by simpa using k];rfl
  ·unfold ez;rw[Zq g,Zx m,show(e==5)=false by simpa using h];rfl
 ·have n:ez b3 (e,q) (S,b9)=((e==3&&q==b9)&&(S==4&&b9==q)||(e==4&&q==b9)&&(S==3&&b9==q)):=by
   unfold ez;rw[Zq g,Zq m,Zx A];rfl
  refine⟨_,_,ae b rfl,ae b rfl,kU.eql ⟨_,rfl,an.mk (λv=>⟨_,_,ae f rfl,ae f rfl,kU.eql ⟨_,rfl,an.mk (λB=>P ?_) (λB=>?_)⟩⟩) (λv=>?_)⟩⟩
  ·rw[n,v,B];rfl
  ·have j:((e==3&&q==b9)&&(S==4&&b9==q))=false:=by rw[v,B];rfl
   exact⟨_,_,ae b rfl,ae b rfl,kU.eql ⟨_,rfl,an.mk (λl=>⟨_,_,ae f rfl,ae f rfl,kU.eql ⟨_,rfl,P (by rw[n,j,l];rfl)⟩⟩) (λl=>P (by rw[n,j,l];rfl))⟩⟩
  ·have j:((e==3&&q==b9)&&(S==4&&b9==q))=false:=by rw[v];rfl
   exact⟨_,_,ae b rfl,ae b rfl,kU.eql ⟨_,rfl,an.mk (λl=>⟨_,_,ae f rfl,ae f rfl,kU.eql ⟨_,rfl,P (by rw[n,j,l];rfl)⟩⟩) (λl=>P (by rw[n,j,l];rfl))⟩⟩
 ·unfold ez;rw[Zq g,Zq m,Zq A]
def zW{f:bj}(t:Row aM 8 w D r i m.aQ)(u:Row aM 8 w E c2 F M.aQ):
  ZG 203 #[Wd f d a c,js m r i n,js M c2 F c1] w (Ok λv w'=>v= .bool (lF f m M)/\ai w w'):=by
 refine vM (PA.mk λC x H y=>PA.mk λI q J z=>PA.mk λA j K g=>?_);have k:=j.get (q.get y id) id;have h:=j.get z id;have e:=(x.then q).then j;refine⟨λs w'=>s=(f.dJ==2||f.dJ==3&&decide (M.arg<m.arg))/\A=w',?_,?_⟩
 ·refine⟨_,ae k rfl,an.dO (λP=>⟨by rw[show f.dJ=2 from P];rfl,rfl⟩) (λP=>⟨_,ae k rfl,an.dO (λl=>⟨_,ae h rfl,_,ae g rfl,?_,rfl⟩) (λl=>⟨?_,rfl⟩)⟩)⟩
  ·rw[show f.dJ=3 from l];rfl
  ·rw[show(f.dJ==2)=false by simpa using P,show(f.dJ==3)=false by simpa using l];rfl
 ·rintro s _ _ ⟨o,rfl⟩
  refine an.mk (λP=>?_) (λP=>Ok.mk ⟨by unfold lF;rw[<-o,P];rfl,e⟩);refine ar (eS f d a c) k ⟨_,ae h rfl,_,ae h rfl,_,ae g rfl,_,ae g rfl,PC.ok vT ?_⟩;rintro _ L ⟨rfl,b⟩;refine⟨_,rfl,an.mk (λp=>ar (aZ m r i n) (b.get h id) (ar (aZ M c2 F c1) (b.get g id) (PC.ok (GP (t.ah (e.then b)) (u.ah (e.then b))) ?_))) (λp=>Ok.mk ⟨by unfold lF;rw[<-o,P,p];rfl,e.then b⟩)⟩;rintro _ N ⟨rfl,B⟩;exact⟨_,rfl,Ok.mk ⟨by unfold lF;rw[<-o,P,p];rfl,(e.then b).then B⟩⟩
end
def jP:eI cQ Int where
 k:=2
 ci:=aM
 ib:=8
 inner:=(·.set)
 hd:=λP a b c=>[XH P.n,.slice a b c]
 ok:=λP=>aN P.n/\vj P.set/\P.set.length<=64
 hl:=λ_ _ _ _=>rfl
 h1:=λP a b c e d=>by simp at d;rcases d with rfl|rfl<;>rfl
 o:=1
 ho:=dC
 fj:=λ_ _ _ _ _ _ _=>rfl
abbrev fg:ju cQ:=jP.Me
def NX:iH XP 40 84 2 32:=⟨kR,kR,dC⟩
abbrev Qp(P:Int):Nat:=if P=1 then 211 else if P=3 then 216 else if P=5 then 219 else 214
abbrev UR(P:Int):Nat:=if P=1 then 212 else if P=2 then 215 else if P=3 then 217 else if P=4 then 218 else 220
def oY(P:Int):Value:=.agg #[.func (.func (Qp P)) #[] #[],.func (.func (UR P)) #[] #[]]
def yY:lZ XP 259 3 257 (.agg #[.nilFunc,.nilFunc]):=⟨kR,kR⟩
def Ef:ic XP 3 (Value.int .i64):=TU kR
variable{a9:List cQ}
section
variable {w w':World} {D E:XN}
def yZ:ZG 154 #[] w (Ok λc w'=>∃b,c= .map (some b)/\bR w' b (Value.int .i64) [((1:Int),oY 1),(2,oY 2),(3,oY 3),(4,oY 4),(5,oY 5)]/\ai w w'):=by
 refine Eg (PA.mk λp d q e=>?_);refine iy (k:=(1:Int)) yY Ef (bR.new e) λr f g s=>iy (k:=(2:Int)) yY Ef f λt h i u=>iy (k:=(3:Int)) yY Ef h λv j k x=>iy (k:=(4:Int)) yY Ef j λy l m z=>iy (k:=(5:Int)) yY Ef l λA n o B=>Ok.mk ⟨_,rfl,n,?_⟩;exact((((d.new g λP a=>.inr oM).new i λP a=>.inr oM).new k λP a=>.inr oM).new m λP a=>.inr oM).new o λP a=>.inr oM
def KR(P:1<=e)(a:e<=5):az [((1:Int),oY 1),(2,oY 2),(3,oY 3),(4,oY 4),(5,oY 5)] e=some (oY e):=by
 have:e=1\/e=2\/e=3\/e=4\/e=5:=oM
 rcases this with rfl|rfl|rfl|rfl|rfl<;>rfl
def TV(P:bj)(a:ZH)(b c:Nat)(d:ZH)(e f:Nat)(g arg:Int):List Value:=[XH P.kind,XH P.dJ,.bool P.floor,.slice a b c,.slice d e f,XH g,XH arg]
abbrev y_(P:bj)(a:ZH)(b c:Nat)(d:ZH)(e f:Nat)(g arg:Int):Value:=.agg (TV P a b c d e f g arg).toArray
def tC(P:bj)(a:ZH)(b c:Nat)(d:ZH)(e f:Nat)(g arg:Int):ia XP 262 (TV P a b c d e f g arg)=true:=kR
variable {f:bj} {ma ca:ZH} {mn mc cn cc i:Nat} {arg:Int}
def gF(b:ca=some ⟨a,c,none⟩)(g:i<cn):ZG 213 #[y_ f ma mn mc ca cn cc (i:Int) arg] w (Ok λd w'=>d= .pointer (some ⟨a,c+i*2,none⟩)/\ai w w'):=
 xD (PA.mk λh e j P=>⟨_,_,_,ae P rfl,_,ae P rfl,a,c,b,oM,oM,Ok.mk ⟨rfl,e⟩⟩)
def NY(e:List bj)(d:List cQ)(P c arg:Int):Bool:=
 let f:=e.getD P.toNat ⟨0,0,false,[]⟩
 let a:=d.getD P.toNat ⟨0,[]⟩
 if c=1 then(arg==0||KS a.n arg)&& !(f.floor&&decide (om (a.n+arg)<0))
 else if c=3 then decide (arg∈a.set)||decide (a.set.length<64)
 else if c=5 then(let b:=f.bq.getD arg.toNat ⟨0,0,0,0⟩;a.n==b.bP&&(decide (b.ku<0)||decide (b.least<=(d.getD b.ku.toNat ⟨0,[]⟩).n)))
 else true
def Eh(a:List bj)(b:List cQ)(P c arg:Int):vo a b P c arg=if NY a b P c arg then 0 else 10:=rfl
def lT{bytes:Nat}(f:Row fg bytes w D ca cn a9)(g:i<cn):∃P a b c d,ca=some ⟨P,a,none⟩/\P<w.heap.size/\D P/\w.cell? ⟨P,a+i*2,none⟩=some (XH (a9.getD i ⟨0,[]⟩).n)/\w.cell? ⟨P,a+i*2+1,none⟩=some (.slice b c d)/\Row aM 8 w D b c (a9.getD i ⟨0,[]⟩).set/\aN (a9.getD i ⟨0,[]⟩).n/\vj (a9.getD i ⟨0,[]⟩).set/\(a9.getD i ⟨0,[]⟩).set.length<=64:=by
 have h:=f.len;obtain⟨P,a,p,k,l,m,j,b,c,d,rfl,n,e⟩:=f.el i a9[i] (by simp[h▸g]);have o:a9.getD i ⟨0,[]⟩=a9[i]:=by simp[QQ,h▸g]
 rw[o];exact⟨P,a,b,c,d,k,l,m,by have:=j 0 dC;simpa[jP,eI.Me]using this,by have:=j 1 dC;simpa[jP,eI.Me]using this,n,e.1,e.2.1,e.2.2⟩
def NZ:ZG 278 #[XH e,XH q] w (Ok λP w'=>P= .bool (KS e q)/\w=w'):=IQ (Ok.mk ⟨rfl,rfl⟩)
def Gt{bytes:Nat}(l:Row fg bytes w D ca cn a9)(h:i<cn):
  ZG 211 #[y_ f ma mn mc ca cn cc (i:Int) arg] w (Ok λm w'=>m= .bool ((arg==0||KS (a9.getD i ⟨0,[]⟩).n arg)&& !(f.floor&&decide (om ((a9.getD i ⟨0,[]⟩).n+arg)<0)))/\ai w w'):=by
 refine BD (PA.mk λs j t k=>ar (tC ..) k ?_);obtain⟨n,o,u,v,x,p,q,y,r,b,-⟩:=lT (l.ah j) h;refine PC.ok (gF p h) ?_;rintro _ z ⟨rfl,e⟩;have a:=e.get k id;have c:=j.then e;refine⟨_,rfl,_,_,rfl,_,(e.cell (a:=⟨n,o+i*2,none⟩) q id).trans r,_,ae a rfl,an.dO (λd=>⟨_,ae a rfl,an.mk (λP=>⟨_,ae a rfl,Ok.mk ⟨?_,c⟩⟩) (λP=>Ok.mk ⟨?_,c⟩)⟩) (λd=>⟨_,ae a rfl,PC.ok NZ ?_⟩)⟩
 ·rw[show(arg==0)=true by simpa using d,P];rfl
 ·rw[show(arg==0)=true by simpa using d,P];rfl
 ·rintro _ _ ⟨rfl,rfl⟩
  have g:(arg==0)=false:=by simpa using d
  refine⟨_,rfl,an.mk (λb=>⟨_,ae a rfl,an.mk (λP=>⟨_,ae a rfl,Ok.mk ⟨?_,c⟩⟩) (λP=>Ok.mk ⟨?_,c⟩)⟩) (λb=>Ok.mk ⟨?_,c⟩)⟩
  ·rw[g,b,P];rfl
  ·rw[g,b,P];rfl
  ·rw[g,b];rfl
def Gu{bytes:Nat}(n:Row fg bytes w D ca cn a9)(a:i<cn):
  ZG 216 #[y_ f ma mn mc ca cn cc (i:Int) arg] w (Ok λo w'=>o= .bool (decide (arg∈(a9.getD i ⟨0,[]⟩).set)||decide ((a9.getD i ⟨0,[]⟩).set.length<64))/\ai w w'):=by
 refine BE (PA.mk λp q A r=>λs t=>⟨no,?_⟩);have d:ai p s:=t.af;have b:=d.get r id;have c:=q.then d;obtain⟨e,g,B,C,E,h,j,F,H,u,k,-,v,-⟩:=lT (n.ah c) a;refine ar (tC ..) b ⟨id,_,ae b rfl,PC.ok (gF h a) ?_⟩;rintro _ I ⟨rfl,P⟩;have l:=(P.cell (a:=⟨e,g+i*2+1,none⟩) j id).trans u;refine⟨_,rfl,ai.af P,_,_,rfl,_,_,_,l,PC.ok (sg (k.ah P) v) ?_⟩;rintro _ _ ⟨rfl,rfl⟩;refine⟨_,_,rfl,ak.refl _,an.mk (λx=>Ok.mk ⟨by rw[x];rfl,c.then P⟩) (λy=>ar (tC ..) (P.get b id) (PC.ok (gF h a) ?_))⟩;rintro _ J ⟨rfl,m⟩;have z:=k.len;refine⟨_,rfl,_,_,rfl,_,_,_,(m.cell (a:=⟨e,g+i*2+1,none⟩) (Qk j P.size) id).trans l,Ok.mk ⟨?_,(c.then P).then m⟩⟩;rw[y,z]
 congr 1
 rw[Bool.false_or,decide_eq_decide];omega
def Ei{bytes:Nat}(n:Row fg bytes w D ca cn a9)(o:i<cn)(p:Row fF 32 w E ma mn f.bq)(h0:0<=arg)(h1:arg<(mn:Int))(q:((f.bq.getD arg.toNat ⟨0,0,0,0⟩).ku)<(cn:Int)):
  ZG 219 #[y_ f ma mn mc ca cn cc (i:Int) arg] w (Ok λC w'=>C= .bool (let P:=f.bq.getD arg.toNat ⟨0,0,0,0⟩;(a9.getD i ⟨0,[]⟩).n==P.bP&&(decide (P.ku<0)||decide (P.least<=(a9.getD P.ku.toNat ⟨0,[]⟩).n)))/\ai w w'):=by
 refine za (PA.mk λF r s1 g=>?_);have a0:=p.len;obtain⟨a,rfl⟩:∃a:Nat,arg=a:=⟨arg.toNat,oM⟩
 have s:a<f.bq.length:=oM
 obtain⟨H,I,es,J,a1,-,t,rfl,-⟩:=(p.ah r).el a f.bq[a] (by simp[s]);have K:f.bq.getD a ⟨0,0,0,0⟩=f.bq[a]:=by simp[QQ,s]
 simp only[Qx,K]at q⊢;generalize f.bq[a]=P at t q;refine⟨_,_,_,ae g rfl,_,ae g rfl,H,I,J,oM,oM,bC (es:=mR P) (k:=4) (IS P) rfl (λL M=>t L M) (PA.mk λw2 N s2 O=>aB (IS P) O rfl λu Q s3 R=>λS T=>⟨no,?_⟩)⟩;have v:ai F u:=N.new Q λx y=>.inr oM;have h:ai u S:=T.af;have z:=(r.then v).then h;have A:=h.get (v.get g id) id;have b:=h.get R id;obtain⟨x,U,a2,a3,a4,V,y,a5,W,hs,-⟩:=lT (n.ah z) o;refine ar (tC ..) A ⟨id,_,ae b rfl,PC.ok (gF V o) ?_⟩;rintro _ w5 ⟨rfl,c⟩;have b:=c.get b id;have d:=z.then c;refine⟨_,rfl,ai.af c,_,_,rfl,_,(c.cell (a:=⟨x,U+i*2,none⟩) y id).trans W,an.dO (λe=>⟨_,ae b rfl,an.dec (λj=>Ok.mk ⟨?_,d⟩) (λj=>?_)⟩) (λe=>Ok.mk ⟨?_,d⟩)⟩
 ·rw[show((a9.getD i ⟨0,[]⟩).n==P.bP)=true by simpa using e,Zy j];rfl
 ·obtain⟨k,B⟩:∃k:Nat,P.ku=k:=⟨P.ku.toNat,oM⟩
  obtain⟨X,Y,a',n',c',l,Z,-,m,-⟩:=lT (n.ah d) (i:=k) oM;refine⟨_,_,_,ae (c.get A id) rfl,_,ae b rfl,X,Y,l,oM,oM,_,by rw[B,Qx];exact m,_,ae b rfl,Ok.mk ⟨?_,d⟩⟩;rw[show((a9.getD i ⟨0,[]⟩).n==P.bP)=true by simpa using e,Xv j,B,Qx];rfl
 ·rw[show((a9.getD i ⟨0,[]⟩).n==P.bP)=false by simpa using e];rfl
end
variable{a2:List Value}{h:Program}{l s:XR}
section
variable {w w':World} {D E:XN}
structure Gv (t:List bj) (cells:List cQ) (fi op arg:Int):Prop where
 f0:0<=fi
 f1:fi<(t.length:Int)
 len:cells.length=t.length
 TW:1<=op
 TX:op<=5
 mv:op=5->0<=arg/\arg<((t.getD fi.toNat ⟨0,0,false,[]⟩).bq.length:Int)/\(((t.getD fi.toNat ⟨0,0,false,[]⟩).bq.getD arg.toNat ⟨0,0,0,0⟩).ku)<(t.length:Int)
variable {t:List bj} {cells:List cQ} {op arg:Int} {ma ca ta:ZH} {mn mc cn cc tn tc i:Nat} {bytes:Nat}
def N_(P:Gv t cells (i:Int) op arg)(a:Row fg bytes w D ca cn cells)(d:Row fF 32 w E ma mn (t.getD i ⟨0,0,false,[]⟩).bq):
  enters XP (Qp op)=true/\ZG (Qp op) (#[]++ #[y_ (t.getD i ⟨0,0,false,[]⟩) ma mn mc ca cn cc (i:Int) arg]++ #[]) w (Ok λg w'=>g= .bool (NY t cells (i:Int) op arg)/\ai w w'):=by
 have b:i<cn:=by have:=a.len;have:=P.f1;have:=P.len;omega
 have m:=P.TW;have n:=P.TX;have:op=1\/op=2\/op=3\/op=4\/op=5:=oM
 rcases this with rfl|rfl|rfl|rfl|rfl
 ·exact⟨kR,Gt a b⟩
 ·exact⟨kR,rA (PA.mk λh c j k=>Ok.mk ⟨rfl,c⟩)⟩
 ·exact⟨kR,Gu a b⟩
 ·exact⟨kR,rA (PA.mk λh c j k=>Ok.mk ⟨rfl,c⟩)⟩
 ·obtain⟨l,e,f⟩:=P.mv rfl
  rw[Qx]at e f;exact⟨kR,Ei a b d l (by rw[d.len];exact e) (by rw[a.len,P.len];exact f)⟩
def Oa(op:Int):ia XP 257 [.func (.func (Qp op)) #[] #[],.func (.func (UR op)) #[] #[]]=true:=kR
def Ej{bytes:Nat}(f:Row oq bytes w D ta tn t)(g:i<tn):∃P a b c e,ta=some ⟨P,a,none⟩/\P<w.heap.size/\D P/\w.cell? ⟨P,a+i*4,none⟩=some (XH (t.getD i ⟨0,0,false,[]⟩).kind)/\w.cell? ⟨P,a+i*4+1,none⟩=some (XH (t.getD i ⟨0,0,false,[]⟩).dJ)/\w.cell? ⟨P,a+i*4+2,none⟩=some (.bool (t.getD i ⟨0,0,false,[]⟩).floor)/\w.cell? ⟨P,a+i*4+3,none⟩=some (.slice b c e)/\Row fF 32 w D b c (t.getD i ⟨0,0,false,[]⟩).bq:=by
 have h:=f.len;obtain⟨P,a,o,j,k,l,d,b,c,e,rfl,m,p⟩:=f.el i t[i] (by simp[h▸g]);have n:t.getD i ⟨0,0,false,[]⟩=t[i]:=by simp[QQ,h▸g]
 rw[n];exact⟨P,a,b,c,e,j,k,l,d 0 dC,d 1 dC,d 2 dC,d 3 dC,m⟩
def Gw(P:Gv t cells e op arg)(g:Row oq 48 w E ta tn t)(n:Row fg bytes w D ca cn cells):
  ZG 88 #[.agg #[.slice ta tn tc],.slice ca cn cc,XH e,XH op,XH arg] w (Ok λo w'=>o= XH (vo t cells e op arg)/\ai w w'):=by
 obtain⟨i,rfl⟩:∃i:Nat,e=i:=⟨e.toNat,by have:=P.f0;omega⟩
 refine IT (PA.mk λL p M q=>PC.ok yZ ?_);rintro _ N ⟨O,rfl,r,b⟩;refine⟨_,rfl,l_ yY Ef r ?_⟩;rw[KR P.TW P.TX];refine⟨_,_,_,rfl,PA.mk λQ h R s=>aB (Oa op) s rfl λu j S d=>λk v=>an.tt rfl ?_⟩;have f:ai u k:=v.af;have c:ai w k:=((p.then (b.then h)).new j λl a=>.inr (by have:=b.size;omega)).then f;have d:=f.get d id;have x:=f.get (j.get (h.get (b.get q id) id) (by have:=b.size;omega)) id;have T:=P.f1;have U:=g.len;obtain⟨l,y,V,W,z,A,a,X,B,C,F,H,I⟩:=Ej (g.ah c) (i:=i) oM;obtain⟨J,K⟩:=N_ (mc:=z) (cc:=cc) P (n.ah c) I;refine⟨_,ae d rfl,_,_,_,ae x rfl,l,y,A,oM,oM,_,_,_,_,_,_,B,C,F,H,_,_,_,rfl,J,PC.ok K ?_⟩;rintro _ Y ⟨rfl,m⟩;rw[Eh];exact⟨_,rfl,an.not (an.mk (λa=>Ok.mk ⟨by rw[a];rfl,c.then m⟩) (λa=>Ok.mk ⟨by rw[a];rfl,c.then m⟩))⟩
def Ob(P:c<a*a2.length):((List.replicate a a2).flatten)[c]? =a2[c % a2.length]? :=by
 induction a generalizing c with
 |zero=>simp at P
 |succ a e=>
  rw[List.replicate_succ,List.flatten_cons]
  by_cases b:c<a2.length
  ·rw[XW b,Nat.mod_eq_of_lt b]
  ·rw[X8 oM,e (by rw[X7,Nat.one_mul]at P;omega)]
   obtain⟨d,rfl⟩:∃d,c=d+a2.length:=⟨c-a2.length,oM⟩
   rw[Nat.add_sub_cancel,Nat.add_mod_right]
def TY{t d:TypeId}{P bytes:Nat}(g:iH h t d P bytes){z:Value}(j:(h.info? d).bind (·.zero)=some z)(m:a<=c)(r:c*bytes<=aO)(u:c<=aO){w:World}(v:∀w',Own w' d P (XM w.heap.size) a c (List.replicate a z.cells.toList).flatten->ai w w'->w'.heap.size=w.heap.size+1->l (.slice (XM w.heap.size) a c) w'):
  aH h (Instr.makeSlice t (XH (a:Int)) (XH (c:Int))) w l s:=by
 unfold aO at r u;obtain⟨i,b,n,o,x,y,e⟩:=iH.info g;have A:b=z:=by
  rw[n]at j;simp only[Option.bind_some,o]at j;exact XJ j
 subst A;have p:=run_make (P:=h) w t d i _ g.under n o .i64 .i64 a c oM oM (by rw[y,Int.mul_comm,<-Int.natCast_mul];omega) oM;rw[Qx,Qx,x]at p;have B:ai w (w.alloc (.cells (madeCells b.cells (c*P)) d)):=ak.alloc w _;have H:a*P<=c*P:=Q0 _ m;have C:(madeCells b.cells (c*P)).size=c*P:=size_madeCells ..;have E:((List.replicate a b.cells.toList).flatten).length=a*P:=by simp[e]
 refine aH.mk p (v _ ⟨⟨E,.inr ⟨w.heap.size,c,_,rfl,Qj _,heap_alloc_new w _,m,by unfold maxLen;omega,C,?_⟩⟩⟩ B sM);apply X3;intro f
 by_cases k:f<a*P
 ·rw[Xw,Zx k,Ob (by simp[e];exact k)]
  unfold madeCells;have F:=g.pos;have q:f % P<b.cells.size:=by rw[e];exact Nat.mod_lt _ F
  simp[e,show f<c*P by omega];rw[getElem!_pos b.cells (f % P) q,X6 q]
 ·rw[Xw,Zq k,Q7 oM]
def Gx(j:ta=ta)(d:tn=t.length)(P:tn<=20000000):ZG 85 #[.agg #[.slice ta tn tc]] w (Ok (oK fg 84 w (dK t))):=by
 refine IU (PA.mk λe f k a=>⟨_,_,_,ae a rfl,TY NX (z:=.agg #[XH 0,.slice none 0 0]) kR (Q4 _) ba ba λl b g m=>⟨_,_,_,rfl,Ok.mk ⟨_,_,_,(·=e.heap.size),rfl,⟨⟨_,λ_=>False,b,?_,λ_ h=>h.elim⟩,λc P=>by simpa[aI]using P.symm,λc P=>oM⟩,f.then g,λc P=>oM⟩⟩⟩);subst d
 clear b a
 unfold dK
 induction t with
 |nil=>rfl
 |cons n t i=>exact⟨_,_,rfl,⟨none,0,0,rfl,Row.nil _ _,by simp[aN],List.Pairwise.nil,sM⟩,i (by simp at P;omega)⟩
end
end Go.Proofs.YtblabbpipmodgaaGreatDoor
namespace Go.aw
open Go
def Gr(i:Program)(f tn:TypeId)(j:Nat)(A q:FuncId)(h:ZH)(b c:Nat)(P:Int)(n:ZH)(a o:Nat)(d:World)(g:XT):Prop:=
 ((0:Int)<=P/\(P:Int)<=((b:Nat):Int)/\an ((((a:Nat):Int):Int)==0) (g (.returned (.slice h b c)) d) (an ((P:Int)==((b:Nat):Int)) (aH i (Builtin.append_ #[f,f] f #[.slice h b c,.slice n a o]) d (λB C=>∃(r:ZH) (s:Nat) (t:Nat),B= .slice r s t/\g (.returned (.slice r s t)) C) (λe d=>g (.panicked [{v:=e,recovered:=false}]) d)) (aH i (Builtin.cap_ #[f] tn #[.slice h b c]) d (λE u=>∃(v:Int),E= XH v/\an (decide (((XG .i64 (((b:Nat):Int)+((a:Nat):Int))):Int)>v)) (((0:Int)<=P/\(P:Int)<=((c:Nat):Int)/\aH i (Builtin.append_ #[f,tn] f #[.slice h (Int.toNat P) c,XH (XG .i64 ((XG .i64 (((b:Nat):Int)+((a:Nat):Int)))-P))]) u (λF H=>∃(p:ZH) (l:Nat) (m:Nat),F= .slice p l m/\((0:Int)<=P/\(P:Int)<=((l:Nat):Int)/\aH i (Builtin.copy_ #[f,f] tn #[.slice (cx p (Int.toNat P) m j) (l-Int.toNat P) (m-Int.toNat P),.slice n a o]) H (λI J=>∃(K:Int),I= XH K/\(∀w,bQ J w->((0:Int)<=(XG .i64 (P+((a:Nat):Int)))/\((XG .i64 (P+((a:Nat):Int))):Int)<=((l:Nat):Int)/\((0:Int)<=P/\(P:Int)<=((b:Nat):Int)/\aH i (Builtin.copy_ #[f,f] tn #[.slice (cx p (Int.toNat (XG .i64 (P+((a:Nat):Int)))) m j) (l-Int.toNat (XG .i64 (P+((a:Nat):Int)))) (m-Int.toNat (XG .i64 (P+((a:Nat):Int)))),.slice (cx h (Int.toNat P) c j) (b-Int.toNat P) (c-Int.toNat P)]) w (λL M=>∃(N:Int),L= XH N/\g (.returned (.slice p l m)) M) (λe k=>∀(_:bV) (_:cR),g (.panicked [{v:=e,recovered:=false}]) k))))) (λe d=>g (.panicked [{v:=e,recovered:=false}]) d))) (λe d=>g (.panicked [{v:=e,recovered:=false}]) d))) (((0:Int)<=(XG .i64 (((b:Nat):Int)+((a:Nat):Int)))/\((XG .i64 (((b:Nat):Int)+((a:Nat):Int))):Int)<=((c:Nat):Int)/\((0:Int)<=(XG .i64 (P+((a:Nat):Int)))/\((XG .i64 (P+((a:Nat):Int))):Int)<=(((Int.toNat (XG .i64 (((b:Nat):Int)+((a:Nat):Int)))):Nat):Int)/\QE i A #[.slice n a o,.slice (cx h (Int.toNat (XG .i64 (P+((a:Nat):Int)))) c j) ((Int.toNat (XG .i64 (((b:Nat):Int)+((a:Nat):Int))))-Int.toNat (XG .i64 (P+((a:Nat):Int)))) (c-Int.toNat (XG .i64 (P+((a:Nat):Int))))] u (λO x=>∃(y:Bool),O= .bool y/\an (!y) ((∀z,bQ x z->((0:Int)<=(XG .i64 (P+((a:Nat):Int)))/\((XG .i64 (P+((a:Nat):Int))):Int)<=(((Int.toNat (XG .i64 (((b:Nat):Int)+((a:Nat):Int)))):Nat):Int)/\((0:Int)<=P/\(P:Int)<=(((Int.toNat (XG .i64 (((b:Nat):Int)+((a:Nat):Int)))):Nat):Int)/\aH i (Builtin.copy_ #[f,f] tn #[.slice (cx h (Int.toNat (XG .i64 (P+((a:Nat):Int)))) c j) ((Int.toNat (XG .i64 (((b:Nat):Int)+((a:Nat):Int))))-Int.toNat (XG .i64 (P+((a:Nat):Int)))) (c-Int.toNat (XG .i64 (P+((a:Nat):Int)))),.slice (cx h (Int.toNat P) c j) ((Int.toNat (XG .i64 (((b:Nat):Int)+((a:Nat):Int))))-Int.toNat P) (c-Int.toNat P)]) z (λQ R=>∃(S:Int),Q= XH S/\((0:Int)<=P/\(P:Int)<=(((Int.toNat (XG .i64 (((b:Nat):Int)+((a:Nat):Int)))):Nat):Int)/\aH i (Builtin.copy_ #[f,f] tn #[.slice (cx h (Int.toNat P) c j) ((Int.toNat (XG .i64 (((b:Nat):Int)+((a:Nat):Int))))-Int.toNat P) (c-Int.toNat P),.slice n a o]) R (λT U=>∃(V:Int),T= XH V/\g (.returned (.slice h (Int.toNat (XG .i64 (((b:Nat):Int)+((a:Nat):Int)))) c)) U) (λe d=>g (.panicked [{v:=e,recovered:=false}]) d))) (λe k=>∀(_:bV) (_:cR),g (.panicked [{v:=e,recovered:=false}]) k))))) (((0:Int)<=((b:Nat):Int)/\(((b:Nat):Int):Int)<=(((Int.toNat (XG .i64 (((b:Nat):Int)+((a:Nat):Int)))):Nat):Int)/\aH i (Builtin.copy_ #[f,f] tn #[.slice (cx h (Int.toNat ((b:Nat):Int)) c j) ((Int.toNat (XG .i64 (((b:Nat):Int)+((a:Nat):Int))))-Int.toNat ((b:Nat):Int)) (c-Int.toNat ((b:Nat):Int)),.slice n a o]) x (λW X=>∃(Y:Int),W= XH Y/\((0:Int)<=P/\(P:Int)<=(((Int.toNat (XG .i64 (((b:Nat):Int)+((a:Nat):Int)))):Nat):Int)/\PC i q #[.slice (cx h (Int.toNat P) c j) ((Int.toNat (XG .i64 (((b:Nat):Int)+((a:Nat):Int))))-Int.toNat P) (c-Int.toNat P),XH ((a:Nat):Int)] X (λZ b8=>Z= .tuple #[]/\g (.returned (.slice h (Int.toNat (XG .i64 (((b:Nat):Int)+((a:Nat):Int)))) c)) b8) (λch d=>g (.panicked ch) d))) (λe d=>g (.panicked [{v:=e,recovered:=false}]) d)))) (λe d=>g (.panicked [{v:=e,recovered:=false}]) d))))) (λe d=>g (.panicked [{v:=e,recovered:=false}]) d))))
def Gs(m:Program)(f p:TypeId)(n:Nat)(i:ZH)(P c:Nat)(d a:Int)(g:World)(h:XT):Prop:=
 ((0:Int)<=d/\(d:Int)<=a/\(a:Int)<=((P:Nat):Int)/\(((P:Nat):Int):Int)<=((c:Nat):Int)/\an ((d:Int)==a) (h (.returned (.slice i P c)) g) ((∀o,bQ g o->((0:Int)<=d/\(d:Int)<=((c:Nat):Int)/\((0:Int)<=a/\(a:Int)<=((P:Nat):Int)/\aH m (Builtin.append_ #[f,f] f #[.slice i (Int.toNat d) c,.slice (cx i (Int.toNat a) c n) (P-Int.toNat a) (c-Int.toNat a)]) o (λq r=>∃(j:ZH) (b:Nat) (e:Nat),q= .slice j b e/\((0:Int)<=((b:Nat):Int)/\(((b:Nat):Int):Int)<=((P:Nat):Int)/\(((P:Nat):Int):Int)<=((e:Nat):Int)/\aH m (Builtin.clear_ #[f] p #[.slice (cx j (Int.toNat ((b:Nat):Int)) e n) (Int.toNat ((P:Nat):Int)-Int.toNat ((b:Nat):Int)) (e-Int.toNat ((b:Nat):Int))]) r (λt s=>h (.returned (.slice j b e)) s) (λk g=>h (.panicked [{v:=k,recovered:=false}]) g))) (λk l=>∀(_:bV) (_:cR),h (.panicked [{v:=k,recovered:=false}]) l))))))
def pQ(P:World)(a:Nat)(b:Array Value):ak (·=a) P (P.setRow a b):=by
 refine⟨rfl,rfl,rfl,by simp[World.setRow],λc f d=>?_⟩;show(P.heap.modify a _)[c]? =_;rw[Array.getElem?_modify,Zq (λe=>d e.symm)]
variable{d0:Addr}{p:Array Value}{z:XT}{g1 y:FuncId}{a2 e3:List Value}{F a c i n:Nat}{f:XN}{d:ZH}{h:Program}{j:Type}{B b6 g o:TypeId}{l s:XR}{b:World}
def Le{k bytes:Nat}(r:iH h g o k bytes){a e c f P d n:Nat}{cs:List Value}(m:b.heap[a]? =some (.cells p b6 (0,0)))(u:Nat.min P c=n)(v:cs.length=n*k)(w:∀t i,cs[t]? =some i->b.cell? (d0.add t)=some i)(x:e+cs.length<=p.size)(y:∀i∈cs,i.oneCell'=true)(q:∀j,j.heap[a]? =some (.cells (p.toList.take e++cs++p.toList.drop (e+cs.length)).toArray b6 (0,0))->ak (·=a) b j->j.heap.size=b.heap.size->l (XH (n:Int)) j):
  aH h (Builtin.copy_ #[g,g] B #[.slice (some ⟨a,e,none⟩) c f,.slice (some d0) P d]) b l s:=by
 obtain⟨F,H,z,I,A,J,K⟩:=iH.info r;have C:=run_firstCells_some (P:=h) b k n d0 P d cs v w;have E:=run_storeCells_at h a e b6 cs 0 p b m (by simpa using x) y;refine aH.mk (w':=b.setRow a (p.toList.take e++cs++p.toList.drop (e+cs.length)).toArray) ?_ (q _ (setRow_heap b a p _ b6 (0,0) m) (pQ b a _) ?_)
 ·simp[Builtin.copy_,run_underlying r.under,Builtin.lenOf,sizeOf,typeInfo,z,A,u,C,E,goInt]
 ·have L:=ay m
  simp[World.setRow]
def bJ.drop{d:Type}{a:ju d}{e:World}{D:XN}:∀{b:List d} {cs:List Value},bJ a e D b cs->∀(P:Nat),bJ a e D (b.drop P) (cs.drop (P*a.k))
 |b,cs,c,0=>by simpa using c
 |[],cs,c,P+1=>by
  have:cs=[]:=c;subst this;simp[bJ]
 |x::b,cs,⟨j,k,g,h,i⟩,P+1=>by
  subst g;have f:=a.len h;rw[List.drop_succ_cons,X7,Nat.one_mul,Nat.add_comm,<-List.drop_drop,<-f,List.drop_left];rw[f];exact bJ.drop i P
def fy(P:n≠i):cx (some ⟨a,c,none⟩) i n F=some ⟨a,c+i*F,none⟩:=by
 unfold cx;rw[Zq P];simp[Addr.add_lit]
def MH{cs news ROW:List Value}{A B C k:Nat}(e:cs.length=B)(f:news.length=k)(g:A<=B)(h:ROW.length=C)(i:B+k<=C)(b:ROW.take A=cs.take A)(P:a2=ROW.take A++news++ROW.drop (A+k))(a:e3=a2.take (A+k)++cs.drop A++a2.drop (A+k+(B-A))):a2.length=C/\e3.length=C/\e3.take (B+k)=cs.take A++news++cs.drop A:=by
 have c:a2.length=C:=by rw[P];simp;omega
 have d:a2.take (A+k)=cs.take A++news:=by
  rw[P,b,List.take_append_of_le_length bc,Qz bc]
 refine⟨c,by rw[a];simp;omega,?_⟩;rw[a,d,List.take_append_of_le_length bc,Qz bc]
def JL{cs news cur:List Value}{A B C k:Nat}(f:cs.length=B)(g:news.length=k)(h:A<=B)(i:cur.length=C)(j:B+k<=C)(b:cur.take A=cs.take A)(P:a2=cur.take (A+k)++cs.drop A++cur.drop (A+k+(B-A)))(a:e3=a2.take A++news++a2.drop (A+k)):a2.length=C/\e3.length=C/\e3.take (B+k)=cs.take A++news++cs.drop A:=by
 have c:a2.length=C:=by rw[P];simp;omega
 have d:a2.take A=cs.take A:=by
  rw[P,XQ,List.take_append_of_le_length bc,List.take_take,X2 oM,b]
 have e:a2.drop (A+k)=cs.drop A++cur.drop (A+k+(B-A)):=by
  rw[P,XQ,List.drop_left' bc]
 refine⟨c,by rw[a];simp;omega,?_⟩;rw[a,d,e,<-XQ,List.take_append_of_le_length bc,Qz bc]
def Gr.own{x tn c:TypeId}{k bytes:Nat}(q:iH h x c k bytes)(b2:h.underlying tn=some (.int .i64))(b3:∀t b,(callFunc y t).run h b=((Extern.SlicesOverlaps.overlaps #[x,x] #[g] t).run h b).andThen λl j=>.ok (.value l) j){n a P A:Nat}{cs:List Value}(B:Own b c k d n a cs)(hi:P<=n)(C:b.heap[A]? =some (.cells p c (0,0)))(J:p.size=k)(W:∀l∈p.toList,l.oneCell'=true)(h1:∀l∈cs,l.oneCell'=true)(b4:aI d≠some A)(O:(n+1)*bytes<=aO)(hm:n+1<=maxLen)(X:∀F u j,Own j c k F (n+1) u (cs.take (P*k)++p.toList++cs.drop (P*k))->ak (λH=>aI d=some H) b j->(aI F=aI d\/aI F=some b.heap.size)->z (.returned (.slice F (n+1) u)) j):
  Gr h x tn k y g1 d n a P (XM A) 1 1 b z:=by
 have hk:=q.pos;obtain⟨Q,Y,a6,hz,hs,a7,b5⟩:=iH.info q;have v:=B.length;have d5:=Own.OP B;unfold aO at O;unfold maxLen at hm;have b6:XG .i64 ((n:Int)+((1:Nat):Int))=((n+1:Nat):Int):=by rw[wrap_i64 bb];simp
 have b7:XG .i64 ((P:Int)+((1:Nat):Int))=((P+1:Nat):Int):=by rw[wrap_i64 bb];simp
 unfold Gr;rw[b6,b7];simp only[Qx];refine⟨oM,oM,an.ff rfl (an.dO (λhe=>?_) (λd6=>?_))⟩
 ·
  obtain rfl:P=n:=oM
  refine yw q (news:=p.toList) B C (by rw[Qz (by simp[J])]) (by simp[J]) W ba (by unfold maxLen;omega) λF c' K b8 b9 c0=>⟨_,_,_,rfl,X F c' K ?_ (b9.mono λH _ c=>c.symm) c0⟩
  rw[Qz oM,List.drop_of_length_le oM,List.append_nil];exact b8
 have c4:P<n:=oM
 rcases B.cases with⟨_,h0,_,_⟩|⟨w,cur,rfl,I,c5,Z,a1⟩
 ·omega
 have a5:w≠A:=λc=>b4 (by rw[c];rfl);have a2:P*k<=n*k:=Q0 _ hi;have d7:(P+1)*k<=n*k:=Q0 _ c4;have e1:(P+1)*k=P*k+k:=by rw[X7,Nat.one_mul]
 have e2:(n+1)*k=n*k+k:=by rw[X7,Nat.one_mul]
 have d8:n*k<=a*k:=Q0 _ c5;have c7:∀i,i<=n*k->cur.toList.take i=cs.take i:=λi e=>by rw[<-a1,List.take_take,X2 e]
 have a0:∀j:World,j.heap[w]? =some (.cells cur c (0,0))->∀i m,cs[i]? =some m->j.cell? ⟨w,i,none⟩=some m:=λj E i m e=>by
  refine ae E ?_;rw[<-a1,Xw]at e;split at e
  ·simpa using e
  ·cases e
 have o:(cs.drop (P*k)).length=(n-P)*k:=by rw[XZ,v,Nat.sub_mul]
 have s:p.toList.length=1*k:=by simp[J]
 have a3:a<=maxLen:=by
  obtain⟨_,cp,_,R,_,_,_,a3,_⟩:=B.row.2.resolve_left (by rintro⟨B,_⟩;cases B);simp only[XX]at R;rw[R.2.2];exact a3
 have a8:∀j:World,j.heap[A]? =some (.cells p c (0,0))->∀i m,p.toList[i]? =some m->j.cell? ((⟨A,0,none⟩:Addr).add i)=some m:=λj E i m e=>by
  rw[Addr.add_lit,Xz];exact ae E (by simpa using e)
 refine aH.mk (v:=XH (a:Int)) (w':=b) (by simp[Builtin.cap_,run_underlying q.under,goInt]) ⟨_,rfl,an.dec (λd9=>?_) (λe0=>?_)⟩
 ·
  have a4:a=n:=oM
  have c8:XG .i64 (((n+1:Nat):Int)-(P:Int))=((n+1-P:Nat):Int):=by rw[wrap_i64 bb];omega
  rw[c8];have c6:(Builtin.firstCells Q.size P (.slice (XM w) P a)).run h b.drew= .ok (cs.take (P*k)).toArray b.drew:=by
   rw[hs];exact run_firstCells_some b.drew k P ⟨w,0,none⟩ P a (cs.take (P*k)) (by rw[Qy,v];omega) (λi l e=>by
    rw[Addr.add_lit,Xz];rw[Xw]at e;split at e
    ·exact a0 b.drew I i l e
    ·cases e)
  have S:=Lib.run_append_grow_zeros (P:=h) b x tn x c Q Y .i64 .i64 q.under b2 a6 hz (XM w) P a (cs.take (P*k)) c6 (n+1-P) oM oM oM oM (by rw[a7];have:(n+1-P)*bytes<=(n+1)*bytes:=Q0 _ oM;omega)
   (by rw[a7,show P+(n+1-P)=n+1 by omega];exact growslice_fits oM O)
  rw[show P+(n+1-P)=n+1 by omega]at S;have hG:=grownCap_ge b (n+1) a c;have b0:=grownCap_le_maxLen b (n+1) a c (by unfold maxLen;omega);generalize grownCap b (n+1) a c=G at S hG b0;have e3:(n+1)*k<=G*k:=Q0 _ hG;generalize a9:(cs.take (P*k)).toArray++Builtin.zeroCells Y.cells (n+1-P)++Builtin.zeroCells Y.cells (G-(n+1))=f at S;have T:f.size=G*k:=by
   rw[<-a9];simp only[Array.size_append,List.size_toArray,Qy,v,Builtin.zeroCells,Array.size_map,Array.size_range,b5];rw[Nat.sub_mul,Nat.sub_mul];omega
  have R:(cs.take (P*k)).length=P*k:=by rw[Qy,v];omega
  have c9:f.toList.take (P*k)=cs.take (P*k):=by
   rw[<-a9];simp only[Array.toList_append,XQ];rw[List.take_left' R]
  have e4:=ay I;have e5:=ay C;have kd:ai b (b.drew.alloc (.cells f c)):=(ak.drewN b 1).then (ak.alloc _ _);have b1:(b.drew.alloc (.cells f c)).heap[b.heap.size]? =some (.cells f c (0,0)):=heap_alloc_new b.drew _;have d0:(b.drew.alloc (.cells f c)).heap.size=b.heap.size+1:=by
   rw[show b.heap.size=b.drew.heap.size from rfl];generalize b.drew=wd;simp
  refine⟨oM,oM,aH.mk S ?_⟩;generalize b.drew.alloc (.cells f c)=L at b1 kd d0;refine⟨_,_,_,rfl,oM,oM,?_⟩;have r:(n-P)*k=n*k-P*k:=Nat.sub_mul ..;have d2:=MH (cs:=cs) (news:=p.toList) (ROW:=f.toList) (A:=P*k) (B:=n*k) (C:=G*k) (k:=k) v (by simp[J]) a2 (by simp[T]) oM c9 rfl rfl;obtain⟨c1,c2,c3⟩:=d2;rw[fy (show G≠P by omega)];refine Le q b1 (n:=1) (by simp only[Nat.min_def];split<;>omega) s (a8 L (kd.get C id)) (by rw[s,T];omega) W λw2 g2 M s2=>⟨_,rfl,λK d3=>?_⟩
  have N:ai w2 K:=d3.af;have U:=N.get g2 id;have d4:=N.get (M.get (kd.get I id) oM) id;refine⟨oM,oM,oM,oM,?_⟩;rw[fy (show G≠P+1 by omega),fy (show a≠P by omega)];simp only[Xz,s,Nat.one_mul]at U⊢;rw[e1];refine Le q U (n:=n-P) (by simp only[Nat.min_def];split<;>omega) o (λi m e=>?_) (by rw[List.size_toArray,c1,o,r];omega) (λl hv=>h1 l (List.mem_of_mem_drop hv)) λw4 g4 k4 s4=>⟨_,rfl,X _ _ _ ⟨⟨?_,.inr ⟨b.heap.size,G,_,rfl,Qj _,g4,hG,b0,?_,?_⟩⟩⟩ ?_ (.inr rfl)⟩
  ·rw[Addr.add_lit]
   rw[List.getElem?_drop]at e;exact a0 K d4 _ m e
  ·simp only[QX,Qy,v,s,o,r];omega
  ·rw[o,r,List.size_toArray];exact c2
  ·rw[o,r,e2];exact c3
  ·exact ai.af ((kd.new M λH O=>.inr oM).then N|>.new k4 λH O=>.inr oM)
 ·
  have e6:Q=Q:=rfl;have a4:n+1<=a:=oM
  have r:(n-P)*k=n*k-P*k:=Nat.sub_mul ..;have e7:(n+1)*k<=a*k:=Q0 _ a4;obtain⟨c1,c2,c3⟩:=JL (cs:=cs) (news:=p.toList) (cur:=cur.toList) (A:=P*k) (B:=n*k) (C:=a*k) (k:=k) v (by simp[J]) a2 (by simp[Z]) oM (c7 _ a2) rfl rfl;rw[fy (show a≠P+1 by omega),fy (show a≠P by omega)];refine⟨oM,oM,oM,oM,_,b3 _,aH.mk (v:=.bool false) (w':=b) ?_ ⟨_,rfl,an.tt rfl λL d1=>?_⟩⟩
  ·have T:∀b,(sizeOf c).run h b= .ok k b:=λb=>by simp[sizeOf,typeInfo,a6,hs]
   refine Lib.run_overlaps_apart (P:=h) b x g c q.under k T ⟨A,0,none⟩ ⟨w,0+(P+1)*k,none⟩ 1 1 _ _ (λc=>a5 c.symm) c c p.size cur.size (by simp[World.shape?,C]) (by simp[World.shape?,I]) (by rw[Z];omega) ?_ ?_
   ·simp[World.frozen?,C]
   ·simp[World.frozen?,C]
  have V:ai b L:=d1.af;have s1:L.heap.size=b.heap.size:=by rw[d1.heap]
  refine⟨oM,oM,oM,oM,?_⟩;simp only[Xz,e1];refine Le q (V.get I id) (n:=n-P) (by simp only[Nat.min_def];split<;>omega) o (λi m e=>?_) (by rw[Z,o,r];omega) (λl hv=>h1 l (List.mem_of_mem_drop hv)) λw2 g2 M s2=>⟨_,rfl,oM,oM,?_⟩
  ·rw[Addr.add_lit]
   rw[List.getElem?_drop]at e;exact a0 L (V.get I id) _ m e
  refine Le q g2 (n:=1) (by simp only[Nat.min_def];split<;>omega) s (a8 w2 (M.get (V.get C id) (λc=>a5 c.symm))) (by rw[List.size_toArray,o,r,c1,s];omega) W λK U N s3=>⟨_,rfl,X _ _ _ ⟨⟨?_,.inr ⟨w,a,_,rfl,Qj _,U,a4,a3,?_,?_⟩⟩⟩ ?_ (.inl rfl)⟩
  ·simp only[QX,Qy,v,s,o,r];omega
  ·simp only[o,r,s,Nat.one_mul];rw[List.size_toArray];exact c2
  ·simp only[o,r,s,Nat.one_mul];rw[e2];exact c3
  ·exact((ai.af V).then (M.mono λH _ c=>by rw[c];rfl)).then (N.mono λH _ c=>by rw[c];rfl)
def Gr.one{h:Program}{q tn r:TypeId}{bytes:Nat}{H y:FuncId}{z:Type}{c:ju z}(I:iH h q r c.k bytes)(N:h.underlying tn=some (.int .i64)){tb:TypeId}(O:∀e w,(callFunc H e).run h w=((Extern.SlicesOverlaps.overlaps #[q,q] #[tb] e).run h w).andThen λA f=>.ok (.value A) f){w:World}{i:ZH}{j k g C:Nat}{l:Array Value}{E D:XN}{m:List z}{x:z}(n:aT c r E w i j k m)(Q:g<=j)(R:w.heap[C]? =some (.cells l r (0,0)))(F:c.rep w D x l.toList)(s:∀P,D P->P<w.heap.size/\aI i≠some P)(S:aI i≠some C)(a:(m.length+1)*bytes<=aO)(T:m.length+1<=maxLen){J:XT}(U:∀t b f K,aT c r K f t (j+1) b (m.take g++x::m.drop g)->ak (λP=>aI i=some P) w f->(∀P,K P->E P\/D P\/w.heap.size<=P)->J (.returned (.slice t (j+1) b)) f):
  Gr h q tn c.k H y i j k g (XM C) 1 1 w J:=by
 have L:=n.len I.pos;obtain⟨cs,V,W,M,u⟩:=n.body;have X:=c.len F;refine Gr.own I N O W Q R (by simpa using X) (c.one F) (λA Y=>M.OQ A Y) S (by rw[L];exact a) (by rw[L];exact T) λt b f o v B=>?_;have a0:=v.size;refine U t b f (λP=>E P\/D P\/(w.heap.size<=P/\P<f.heap.size)) ⟨⟨_,λP=>V P\/D P,o,?_,?_⟩,?_,?_⟩ v ?_
 ·rw[XQ]
  have p:=(M.af v λP a=>(u P a).2)
  exact bJ.append ((p.take g).mono λP a=>.inl a) (bJ.append (xs:=[x]) (bJ.one (c.mono (c.af F v λP a=>(s P a).2) λP a=>.inr a)) ((p.drop g).mono λP a=>.inl a))
 ·intro P a
  have a1:P<w.heap.size:=a.elim (λd=>n.aF P (u P d).1) λd=>(s P d).1;refine⟨a.elim (λd=>.inl (u P d).1) λd=>.inr (.inl d),?_⟩;rcases B with B|B
  ·rw[B];exact a.elim (λd=>(u P d).2) λd=>(s P d).2
  ·rw[B];intro Z;cases Z;omega
 ·intro P a
  rcases B with B|B
  ·exact .inl (n.self P (B▸a))
  ·have:=o.lt a
   rw[B]at a;cases a;exact .inr (.inr ⟨oM,this⟩)
 ·rintro P (a|a|a)
  ·have:=n.aF P a;omega
  ·have:=(s P a).1;omega
  ·exact a.2
 ·rintro P (a|a|a)
  ·exact .inl a
  ·exact .inr (.inl a)
  ·exact .inr (.inr a.1)
def LV(P:Program)(a:TypeId):Bool:=match(P.info? a).bind (·.zero)with
 |some b=>b.cells.toList.all (·.oneCell')
 |none=>false
def OR{e bytes:Nat}(j:iH h g o e bytes)(k:LV h o=true)(t:b.heap[a]? =some (.cells p b6 (0,0)))(v:c+i*e<=p.size)(f:∀m P,m.heap[a]? =some (.cells P b6 (0,0))->P.size=p.size->P.toList.take c=p.toList.take c->ak (·=a) b m->m.heap.size=b.heap.size->l (.tuple #[]) m):
  aH h (Builtin.clear_ #[g] B #[.slice (some ⟨a,c,none⟩) i n]) b l s:=by
 obtain⟨I,d,w,x,J,K,u⟩:=iH.info j;have A:∀q∈d.cells.toList,q.oneCell'=true:=by
  unfold LV at k;rw[w]at k;simp only[Option.bind_some,x,ZY]at k;exact k
 cases i with
 |zero=>exact aH.mk (w':=b) (by simp[Builtin.clear_,run_underlying j.under]) (f b p t rfl rfl (ak.refl _) rfl)
 |succ i=>
  have y:(Builtin.zeroCells d.cells (i+1)).toList.length=(i+1)*e:=by simp[Builtin.zeroCells,u]
  have C:∀q∈(Builtin.zeroCells d.cells (i+1)).toList,q.oneCell'=true:=by
   intro q r;simp only[Builtin.zeroCells,Array.toList_map,Xk,u]at r;obtain⟨z,-,rfl⟩:=r;have E:z % e<d.cells.size:=by rw[u];exact Nat.mod_lt _ j.pos
   rw[getElem!_pos d.cells (z % e) E];exact A _ sM
  have F:=run_storeCells_at h a c b6 _ 0 p b t (by rw[y];simpa using v) C;have r:(zeroValue o).run h b= .ok d b:=by simp[zeroValue,typeInfo,w,x]
  refine aH.mk (w':=b.setRow a (p.toList.take c++(Builtin.zeroCells d.cells (i+1)).toList++p.toList.drop (c+(Builtin.zeroCells d.cells (i+1)).toList.length)).toArray) ?_ (f _ _ (setRow_heap b a p _ b6 (0,0) t) ?_ ?_ (pQ b a _) ?_)
  ·simp[Builtin.clear_,run_underlying j.under,r,F]
  ·have H:p.size=p.toList.length:=sM
   simp only[List.size_toArray,QX,Qy,XZ,y];rw[H]at v⊢;omega
  ·rw[XQ,List.take_left']
   simp;omega
  ·simp[World.setRow]
def Gs.own{P bytes:Nat}(p:iH h g B P bytes)(Q:LV h B=true){cs:List Value}(m:Own b B P d a c cs)(R:i<a)(S:∀k∈cs,k.oneCell'=true)(T:a<=maxLen)(U:∀r,Own r B P d (a-1) c (cs.take (i*P)++cs.drop ((i+1)*P))->ak (λs=>aI d=some s) b r->z (.returned (.slice d (a-1) c)) r):
  Gs h g o P d a c i (XG .i64 ((i:Int)+1)) b z:=by
 have hk:=p.pos;obtain⟨iT,a5,V,hz,W,b2,b3⟩:=iH.info p;have q:=m.length;unfold maxLen at T;rcases m.cases with⟨_,h0,_,_⟩|⟨f,e,rfl,X,Y,F,H⟩
 ·omega
 have t:c<=maxLen:=by
  obtain⟨_,cp,_,I,_,_,_,t,_⟩:=m.row.2.resolve_left (by rintro⟨m,_⟩;cases m);simp only[XX]at I;rw[I.2.2];exact t
 have Z:XG .i64 ((i:Int)+1)=((i+1:Nat):Int):=by rw[wrap_i64 bb];simp
 have a6:i*P<=a*P:=Q0 _ oM;have b1:(i+1)*P<=a*P:=Q0 _ R;have e1:(i+1)*P=i*P+P:=by rw[X7,Nat.one_mul]
 have e3:(a-1)*P=a*P-P:=by rw[Nat.sub_mul,Nat.one_mul]
 have e4:(a-(i+1))*P=a*P-(i+1)*P:=Nat.sub_mul ..;have a7:a*P<=c*P:=Q0 _ Y;unfold Gs;rw[Z];simp only[Qx];refine⟨oM,oM,oM,oM,an.dO (λhe=>oM) (λu j J=>⟨oM,oM,oM,oM,?_⟩)⟩;have K:ai b j:=J.af;have s1:j.heap.size=b.heap.size:=by rw[J.heap]
 have v:=K.get X id;have w:(cs.drop ((i+1)*P)).length=(a-(i+1))*P:=by rw[XZ,q,Nat.sub_mul]
 have x:∃n,cx (XM f) (i+1) c P=some ⟨f,n,none⟩/\(a≠i+1->n=(i+1)*P):=by
  by_cases L:c=i+1
  ·exact⟨0,by unfold cx;rw[Zx L],λu=>oM⟩
  ·exact⟨_,fy L,λ_=>oM⟩
 obtain⟨n,x,a8⟩:=x;rw[x];have a0:∀y k,(cs.drop ((i+1)*P))[y]? =some k->j.cell? ((⟨f,n,none⟩:Addr).add y)=some k:=λy k l=>by
  have a9:=(Qv.1 l).1;have u:a≠i+1:=by
   intro B;rw[w,B,Nat.sub_self,Nat.zero_mul]at a9;omega
  rw[a8 u,Addr.add_lit];rw[List.getElem?_drop]at l;refine ae v ?_;rw[<-H,Xw]at l;split at l
  ·simpa using l
  ·cases l
 have hf:=run_firstCells_some (P:=h) j P (a-(i+1)) ⟨f,n,none⟩ (a-(i+1)) (c-(i+1)) _ w a0;have M:=run_storeCells_at h f (i*P) B (cs.drop ((i+1)*P)) 0 e j v (by rw[w,F];omega) (λk hv=>S k (List.mem_of_mem_drop hv));have a1:i+(a-(i+1))=a-1:=oM
 refine aH.mk (v:=.slice (XM f) (a-1) c) (w':=j.setRow f (e.toList.take (i*P)++cs.drop ((i+1)*P)++e.toList.drop (i*P+(cs.drop ((i+1)*P)).length)).toArray) ?_ ⟨_,_,_,rfl,oM,oM,oM,?_⟩
 ·have a2:i+(a-(i+1))<=c:=oM
  have a3:a<=c+1:=oM
  simp only[Nat.add_zero]at M;simp[Builtin.append_,run_underlying p.under,sizeOf,typeInfo,V,W,Builtin.lenOf,a2,a3,hf,Addr.add_lit,M,a1]
 have A:=setRow_heap j f e (e.toList.take (i*P)++cs.drop ((i+1)*P)++e.toList.drop (i*P+(cs.drop ((i+1)*P)).length)).toArray B (0,0) v;have C:=pQ j f (e.toList.take (i*P)++cs.drop ((i+1)*P)++e.toList.drop (i*P+(cs.drop ((i+1)*P)).length)).toArray;have b0:e.toList.length=c*P:=by simp[F]
 have E:(e.toList.take (i*P)++cs.drop ((i+1)*P)++e.toList.drop (i*P+(cs.drop ((i+1)*P)).length)).length=c*P:=by
  simp only[QX,Qy,XZ,q,b0];omega
 have N:(e.toList.take (i*P)++cs.drop ((i+1)*P)++e.toList.drop (i*P+(cs.drop ((i+1)*P)).length)).take ((a-1)*P)=cs.take (i*P)++cs.drop ((i+1)*P):=by
  rw[show e.toList.take (i*P)=cs.take (i*P) by rw[<-H,List.take_take,X2 a6]];rw[List.take_left'];simp only[QX,Qy,XZ,q];omega
 generalize e.toList.take (i*P)++cs.drop ((i+1)*P)++e.toList.drop (i*P+(cs.drop ((i+1)*P)).length)=R1 at A C E N;generalize j.setRow f R1.toArray=w2 at A C;rw[fy (show c≠a-1 by omega)];refine OR p Q A (by rw[List.size_toArray,E,show a-(a-1)=1 by omega];omega) λw3 a4 g3 c3 O k3 s3=>U w3 ⟨⟨?_,.inr ⟨f,c,a4,rfl,Qj _,g3,oM,t,?_,?_⟩⟩⟩ ?_
 ·simp only[QX,Qy,XZ,q];omega
 ·rw[c3,List.size_toArray,E]
 ·rw[Xz]at O;rw[O,N]
 ·exact((ai.af K).then (C.mono λs _ B=>by rw[B];rfl)).then (k3.mono λs _ B=>by rw[B];rfl)
def Gs.one{p tz k:TypeId}{bytes:Nat}{c:ju j}(t:iH h p k c.k bytes)(u:LV h k=true){w:World}{a P b:Nat}{q:List j}(l:aT c k f w d a P q)(v:b<a)(x:a<=maxLen)(y:∀e,aT c k f e d (a-1) P (q.eraseIdx b)->ak (λg=>aI d=some g) w e->z (.returned (.slice d (a-1) P)) e):
  Gs h p tz c.k d a P b (XG .i64 ((b:Int)+1)) w z:=by
 obtain⟨cs,A,B,r,s⟩:=l.body;refine Gs.own t u B v r.OQ x λe m n=>y e ⟨⟨_,A,m,?_,s⟩,l.self,λg o=>Qk (l.aF g o) n.size⟩ n;have i:=(r.af n λg o=>(s g o).2)
 rw[List.eraseIdx_eq_take_drop_succ];exact bJ.append (i.take b) (i.drop (b+1))
end Go.aw
namespace Go.Proofs.YtblabbpipmodgaaGreatDoor
open Go.aw
variable{e:Int}{t:List Int}{c3:List bj}{a9:List cQ}{a c i n:Nat}{f:XN}{d:ZH}{j:Type}{b:World}{x:XU}{b3:bj}
def oZ{P:List (Bx cQ)}{D:XN}(f:Row jP.jB 32 b D d a P)(g:∀e,D e->e<b.heap.size):ZG 210 #[.slice d a c] b (Ok (oK jP.jB 84 b P)):=
 gG (zb NX dC f g λi j h=>Ok.mk h)
def Qr(l:aT aM 3 f b d a c t)(q:i<=a)(r:b.heap[n]? =some (.cells #[XH e] 3 (0,0)))(s:aN e)(u:¬f n)(z:t.length<1000000):
  ZG 280 #[.slice d a c,XH (i:Int),.slice (XM n) 1 1] b (Ok λv m=>∃g h j,v= .slice g (a+1) h/\aT aM 3 j m g (a+1) h (t.take i++e::t.drop i)/\cK f b j m):=by
 refine mf (Gr.one (c:=aM) (tb:=4) (x:=e) (D:=λ_=>False) rC kR ?_ l q r ⟨rfl,s⟩ (λk P=>P.elim) (λw=>u (l.self n w)) ba (by unfold maxLen;omega) λg h m j o x y=>Ok.mk ⟨g,h,j,rfl,o,x.mono λk _ P=>l.self k P,λk P=>?_⟩)
 ·intro p b
  rw[run_callFunc_extern Tryz.func313 kR kR kR (e:=Extern.SlicesOverlaps.overlaps #[27,27] #[4]) kR]
 ·rcases y k P with P|P|P
  ·exact .inl P
  ·exact P.elim
  ·exact .inr P
def Qs(g:aT aM 3 f b d a c t)(h:i<a)(n:a<1000000):
  ZG 281 #[.slice d a c,XH (i:Int),XH (XG .i64 ((i:Int)+1))] b (Ok λj P=>j= .slice d (a-1) c/\aT aM 3 f P d (a-1) c (t.eraseIdx i)/\ak f b P):=
 mg (Gs.one (c:=aM) (tz:=0) rC kR g h (by unfold maxLen;omega) λP e k=>Ok.mk ⟨rfl,e,k.mono λl _ m=>g.self l m⟩)
def TL(b:bj)(P:cQ)(a arg:Int):cQ:=
 if a=1 then{P with n:=om (P.n+arg)}else if a=2 then{P with n:=arg}else if a=3 then{P with set:=oV arg P.set}
 else if a=4 then{P with set:=P.set.filter λc=>c !=arg}else{P with n:=(b.bq.getD arg.toNat ⟨0,0,0,0⟩).oN}
def SI{P a arg:Int}(b:1<=a)(c:a<=5):Qt c3 a9 P a arg=a9.set P.toNat (TL (c3.getD P.toNat ⟨0,0,false,[]⟩) (a9.getD P.toNat ⟨0,[]⟩) a arg):=by
 have:a=1\/a=2\/a=3\/a=4\/a=5:=oM
 rcases this with rfl|rfl|rfl|rfl|rfl<;>rfl
section
variable {w w':World} {D E F:XN} {f:bj} {ma ca:ZH} {mn mc cn cc i:Nat} {arg:Int} {L:List (Bx cQ)} {bx:Bx cQ}
structure jv (w:World) (ca:ZH) (cn cc:Nat) (L:List (Bx cQ)) (i:Nat) (bx:Bx cQ) (F:XN):Prop where
 nW:aT jP.jB 84 (λb=>aI ca=some b) w ca cn cc L
 at':L[i]? =some bx
 set:aT aM 3 F w bx.a bx.n bx.c bx.x.set
 ap:∀b,F b->¬aI ca=some b
 ok:aN bx.x.n/\vj bx.x.set/\bx.x.set.length<=64
 dB:L.length<=1000000
def jv.ah(P:jv w ca cn cc L i bx F)(a:ai w w'):jv w' ca cn cc L i bx F:=⟨P.nW.ah a,P.at',P.set.ah a,P.ap,P.ok,P.dB⟩
def jv.len(P:jv w ca cn cc L i bx F):i<cn:=by
 rw[P.nW.len dC];exact(Qv.1 P.at').1
def jv.cells(b:jv w ca cn cc L i bx F):∃P a,ca=some ⟨P,a,none⟩/\P<w.heap.size/\w.cell? ⟨P,a+i*2,none⟩=some (XH bx.x.n)/\w.cell? ⟨P,a+i*2+1,none⟩=some (.slice bx.a bx.n bx.c):=by
 obtain⟨P,a,f,d,e,g,c,rfl,-⟩:=(b.nW.row (bytes:=32) dC (by have:=b.dB;unfold aO;omega)).el i bx b.at';exact⟨P,a,d,e,c 0 dC,c 1 dC⟩
def o_(b:World)(ca:ZH)(cn cc:Nat)(L:List (Bx cQ))(i:Nat)(F:XN)(c:cQ)(w':World):Prop:=
 ∃(P:Bx cQ) (d:XN),P.x=c/\aT jP.jB 84 (λa=>aI ca=some a) w' ca cn cc (L.set i P)/\aT aM 3 d w' P.a P.n P.c c.set/\ak (λa=>aI ca=some a\/F a) b w'/\∀a,d a->F a\/b.heap.size<=a
def IV{f w:World}(g:ai f w)(b:jv w ca cn cc L i bx F)(h:ca=some ⟨a,c,none⟩)(j:∀w',ak (λa=>aI ca=some a) w w'->o_ f ca cn cc L i F {bx.x with n:=e} w'->x w'):
  PS w ⟨a,c+i*2,none⟩ (XH e) x:=by
 refine aT.set (j:=0) (x':=⟨{bx.x with n:=e},bx.a,bx.n,bx.c⟩) b.nW b.at' dC rfl h λk l d n=>j k d ⟨_,F,rfl,l,b.set.af d λa P m=>b.ap a P m,(ai.af g).then (d.mono λa _ P=>.inl P),λa P=>.inl P⟩
def Oc{q b w:World}{k l:Nat}{g:XN}(r:ai q b)(e:jv b ca cn cc L i bx F)(u:aT aM 3 g w d k l t)(h:cK F b g w)(m:ca=some ⟨a,c,none⟩)(v:∀w',o_ q ca cn cc L i F {bx.x with set:=t} w'->x w'):
  PS w ⟨a,c+i*2+1,none⟩ (.slice d k l) x:=by
 have n:aT jP.jB 84 (λa=>aI ca=some a) w ca cn cc L:=e.nW.af h.1 λa P j=>e.ap a j P;have z:=e.nW.aF a (by rw[m];rfl);have y:∀f,g f->¬aI ca=some f:=λf o p=>by
  rcases h.2 f o with j|j
  ·exact e.ap f j p
  ·rw[m]at p;simp only[aI,Q1]at p;omega
 have A:=r.size;refine aT.set (j:=1) (x':=⟨{bx.x with set:=t},d,k,l⟩) n e.at' dC rfl m λb n s B=>v b ⟨_,g,rfl,n,u.af s y,((ai.af r).then (h.1.mono λa _ P=>.inr P)).then (s.mono λa _ P=>.inl P),λa P=>(h.2 a P).imp id λP=>oM⟩
def do_1(P:jv w ca cn cc L i bx F):ZG 212 #[y_ f ma mn mc ca cn cc (i:Int) arg] w (Ok λj w'=>j= .tuple #[]/\o_ w ca cn cc L i F {bx.x with n:=om (bx.x.n+arg)} w'):=by
 have k:=P.len;refine ze (PA.mk λl m v n=>λo p=>⟨λa=>aI ca=some a,?_⟩);have e:ai l o:=p.af;have g:=e.get n id;have d:=m.then e;obtain⟨a,q,b,r,s,x⟩:=(P.ah d).cells;have y:=P.nW.aF a (by rw[b];rfl);refine ar (tC ..) g ⟨λh=>by rw[b]at h;simp only[aI,Q1]at h;omega,_,ae g rfl,PC.ok (gF b k) ?_⟩;rintro _ z ⟨rfl,c⟩;exact⟨_,rfl,ai.af c,_,_,rfl,_,(c.cell (a:=⟨a,q+i*2,none⟩) r id).trans s,_,_,rfl,IV (d.then c) (P.ah (d.then c)) b λA t u=>⟨t,Ok.mk ⟨rfl,u⟩⟩⟩
def Ve(P:jv w ca cn cc L i bx F):ZG 215 #[y_ f ma mn mc ca cn cc (i:Int) arg] w (Ok λj w'=>j= .tuple #[]/\o_ w ca cn cc L i F {bx.x with n:=arg} w'):=by
 have k:=P.len;refine zf (PA.mk λl m s n=>λo p=>⟨λb=>aI ca=some b,?_⟩);have e:ai l o:=p.af;have g:=e.get n id;have c:=m.then e;obtain⟨b,t,a,u,v,x⟩:=(P.ah c).cells;have y:=P.nW.aF b (by rw[a];rfl);refine ar (tC ..) g ⟨λh=>by rw[a]at h;simp only[aI,Q1]at h;omega,_,ae g rfl,PC.ok (gF a k) ?_⟩;rintro _ z ⟨rfl,d⟩;exact⟨_,rfl,ai.af d,_,_,rfl,IV (c.then d) (P.ah (c.then d)) a λA q r=>⟨q,Ok.mk ⟨rfl,r⟩⟩⟩
def Vf(b:jv w ca cn cc L i bx F)(h:Row fF 32 w E ma mn f.bq)(o:∀a,E a->¬aI ca=some a)(I:0<=arg)(J:arg<(mn:Int)):ZG 220 #[y_ f ma mn mc ca cn cc (i:Int) arg] w (Ok λp w'=>p= .tuple #[]/\o_ w ca cn cc L i F {bx.x with n:=(f.bq.getD arg.toNat ⟨0,0,0,0⟩).oN} w'):=by
 have q:=b.len;refine zh (PA.mk λr s K t=>λu v=>⟨λa=>aI ca=some a,?_⟩);have j:ai r u:=v.af;have e:=j.get t id;have c:=s.then j;obtain⟨a,M,d,N,O,Q⟩:=(b.ah c).cells;have R:=b.nW.aF a (by rw[d];rfl);have S:=h.len;obtain⟨P,rfl⟩:∃P:Nat,arg=P:=⟨arg.toNat,oM⟩
 have k:P<f.bq.length:=oM
 obtain⟨l,x,T,y,U,z,A,rfl,-⟩:=(h.ah c).el P f.bq[P] (by simp[k]);have B:f.bq.getD P ⟨0,0,0,0⟩=f.bq[P]:=by simp[QQ,k]
 simp only[Qx,B];have m:¬aI ca=some w.heap.size:=λn=>by rw[d]at n;simp only[aI,Q1]at n;omega
 refine ar (tC ..) e ⟨m,_,_,_,ae e rfl,m,_,ae e rfl,l,x,y,oM,oM,o l z,_,A 1 dC,PC.ok (gF d q) ?_⟩;rintro _ V ⟨rfl,g⟩;exact⟨_,rfl,ai.af g,_,_,rfl,IV (c.then g) (b.ah (c.then g)) d λW C H=>⟨C,Ok.mk ⟨rfl,H⟩⟩⟩
def Vg(P:jv w ca cn cc L i bx F)(v:aN arg):ZG 217 #[y_ f ma mn mc ca cn cc (i:Int) arg] w (Ok λx w'=>x= .tuple #[]/\o_ w ca cn cc L i F {bx.x with set:=oV arg bx.x.set} w'):=by
 have y:=P.len;obtain⟨-,b,S⟩:=P.ok;refine IW (PA.mk λT m U n=>ar (tC ..) n ?_);obtain⟨c,o,j,a,V,z⟩:=(P.ah m).cells;have W:=P.nW.aF c (by rw[j];rfl);refine PC.ok (gF j y) ?_;rintro _ A ⟨rfl,d⟩;refine⟨_,rfl,λp B=>?_⟩;have e:ai A p:=B.af;have g:=(m.then d).then e;have q:=e.get (d.get n id) id;have r:=((d.then e).cell (a:=⟨c,o+i*2+1,none⟩) a id).trans z;have s:=P.set.ah g;refine⟨_,_,rfl,_,_,_,r,_,ae q rfl,PC.ok (sg (s.row (bytes:=8) dC ba) b) ?_⟩;rintro _ _ ⟨rfl,rfl⟩;have X:=P.set.len dC;refine⟨_,_,rfl,an.not (an.mk (λC=>Ok.mk ⟨rfl,?_⟩) (λE=>λH I=>?_))⟩
 ·have h:arg∈bx.x.set:=XV C
  refine⟨bx,F,by rw[tx h b],?_,by rw[tx h b];exact s,ai.af g,λc a=>.inl a⟩;have:L.set i bx=L:=by
   apply X3;intro Y;rw[Xj];split
   ·rename_i J;subst J;rw[Zx (Qv.1 P.at').1,P.at']
   ·rfl
  rw[this];exact P.nW.ah g
 ·have h:arg∉bx.x.set:=Xy E
  have k:ai p H:=I.af;have K:=k.get q id;have t:=g.then k;refine⟨no,_,_,rfl,id,_,_,_,(k.cell (a:=⟨c,o+i*2+1,none⟩) (Qk a (d.then e).size) id).trans r,_,ae K rfl,PA.mk λZ u s5 M=>⟨ai.af u,?_⟩⟩;have l:=t.then u;have a1:=yU (λN=>decide (N<arg)) bx.x.set;have z4:=t.size;refine PC.ok (Qr (P.set.ah l) oM M v (λa=>by have:=P.set.aF _ a;omega) oM) ?_;rintro _ w6 ⟨a',c',F',rfl,O,Q⟩;rw[Gk b h];exact⟨_,_,_,rfl,_,_,rfl,Oc l (P.ah l) O Q j λw7 R=>Ok.mk ⟨rfl,R⟩⟩
def Vh(P:jv w ca cn cc L i bx F):ZG 218 #[y_ f ma mn mc ca cn cc (i:Int) arg] w (Ok λo w'=>o= .tuple #[]/\o_ w ca cn cc L i F {bx.x with set:=bx.x.set.filter λp=>p !=arg} w'):=by
 have q:=P.len;obtain⟨-,j,I⟩:=P.ok;refine BF (PA.mk λJ k K l=>ar (tC ..) l ?_);obtain⟨d,r,m,a,M,s⟩:=(P.ah k).cells;refine PC.ok (gF m q) ?_;rintro _ t ⟨rfl,e⟩;refine⟨_,rfl,λu v=>?_⟩;have g:ai t u:=v.af;have b:=(k.then e).then g;have x:=g.get (e.get l id) id;have n:=((e.then g).cell (a:=⟨d,r+i*2+1,none⟩) a id).trans s;have h:=P.set.ah b;refine⟨_,_,rfl,_,_,_,n,_,ae x rfl,PC.ok (sg (h.row (bytes:=8) dC ba) j) ?_⟩;rintro _ _ ⟨rfl,rfl⟩;have N:=P.set.len dC;refine⟨_,_,rfl,an.mk (λy=>?_) (λz=>Ok.mk ⟨rfl,?_⟩)⟩
 ·have c:arg∈bx.x.set:=XV y
  obtain⟨A,O⟩:=KQ j c;refine⟨_,_,rfl,_,_,_,n,PC.ok (Qs h oM oM) ?_⟩;rintro _ Q ⟨rfl,B,C⟩;rw[A];exact⟨_,_,_,rfl,_,_,rfl,Oc b (P.ah b) B ⟨C,λd a=>.inl a⟩ m λR E=>Ok.mk ⟨rfl,E⟩⟩
 ·have c:arg∉bx.x.set:=Xy z
  refine⟨bx,F,by rw[Gn c],?_,by rw[Gn c];exact h,ai.af b,λd a=>.inl a⟩;have:L.set i bx=L:=by
   apply X3;intro S;rw[Xj];split
   ·rename_i H;subst H;rw[Zx (Qv.1 P.at').1,P.at']
   ·rfl
  rw[this];exact P.nW.ah b
end
def KT(P:Int):aN (om P):=by
 unfold om XG aN;simp[IntKind.signed,IntKind.bits];omega
def Od(P:e∉t):(oV e t).length=t.length+1:=by
 induction t with
 |nil=>rfl
 |cons b t a=>
  simp only[Q2,not_or]at P;unfold oV;rw[Zq P.1];split
  ·rfl
  ·simp[a P.2]
def Oe{P:List j}{b:j}(c:P[a]? =some b):P.set a b=P:=by
 apply X3;intro e;rw[Xj];split
 ·rename_i d;subst d;rw[Zx (Qv.1 c).1,c]
 ·rfl
section
variable {w w':World} {D E F:XN} {t:List bj} {cells:List cQ} {op arg:Int} {ma ca ta:ZH} {mn mc cn cc tn tc i:Nat} {L:List (Bx cQ)} {bx:Bx cQ}
def SK{P:cQ}(b:∀g∈b3.bq,jw.Ok g)(i:aN P.n/\vj P.set/\P.set.length<=64)(j:aN arg)(k:op=3->arg∈P.set\/P.set.length<64):
  aN (TL b3 P op arg).n/\vj (TL b3 P op arg).set/\(TL b3 P op arg).set.length<=64:=by
 obtain⟨f,a,c⟩:=i;unfold TL
 split
 ·exact⟨KT _,a,c⟩
 split
 ·exact⟨j,a,c⟩
 split
 ·rename_i h
  refine⟨f,CE a,?_⟩
  by_cases b:arg∈P.set
  ·show(oV arg P.set).length<=64
   rw[tx b a];exact c
  ·show(oV arg P.set).length<=64
   rw[Od b];rcases k h with h|h
   ·exact Zz h b
   ·omega
 split
 ·exact⟨f,a.sublist List.filter_sublist,Xx (List.length_filter_le ..) c⟩
 ·refine⟨?_,a,c⟩
  show aN (b3.bq.getD arg.toNat ⟨0,0,0,0⟩).oN
  by_cases d:arg.toNat<b3.bq.length
  ·have e:b3.bq.getD arg.toNat ⟨0,0,0,0⟩=b3.bq[arg.toNat]:=by simp[QQ,d]
   rw[e];exact(b _ (XY d)).2.1
  ·have e:b3.bq.getD arg.toNat ⟨0,0,0,0⟩=⟨0,0,0,0⟩:=by simp[QQ,Q7 (Nat.le_of_not_lt d)]
   rw[e];simp[aN]
def Qu(a:Gv t cells (i:Int) op arg)(e:aN arg)(b:Row fF 32 w E ma mn (t.getD i ⟨0,0,false,[]⟩).bq)(f:∀c,E c->¬aI ca=some c)(P:jv w ca cn cc L i bx F):
  enters XP (UR op)=true/\ZG (UR op) (#[]++ #[y_ (t.getD i ⟨0,0,false,[]⟩) ma mn mc ca cn cc (i:Int) arg]++ #[]) w (Ok λg w'=>g= .tuple #[]/\o_ w ca cn cc L i F (TL (t.getD i ⟨0,0,false,[]⟩) bx.x op arg) w'):=by
 have j:=a.TW;have k:=a.TX;have:op=1\/op=2\/op=3\/op=4\/op=5:=oM
 rcases this with rfl|rfl|rfl|rfl|rfl
 ·exact⟨kR,do_1 P⟩
 ·exact⟨kR,Ve P⟩
 ·exact⟨kR,Vg P e⟩
 ·exact⟨kR,Vh P⟩
 ·obtain⟨h,d,l⟩:=a.mv rfl
  rw[Qx]at d;exact⟨kR,Vf P b f h (by rw[b.len];exact d)⟩
structure TZ (w9:World) (ca:ZH) (cn cc:Nat) (D:XN) (cells:List cQ) (j:Nat) (w':World) (L:List (Bx cQ)) (Fi:Nat->XN):Prop where
 nW:aT jP.jB 84 (λb=>aI ca=some b) w' ca cn cc L
 eq:L.map (·.x)=cells
 own:∀i b,i<j->L[i]? =some b->aT aM 3 (Fi i) w' b.a b.n b.c b.x.set
 aF:∀i x,Fi i x->w9.heap.size<=x/\x<w'.heap.size/\¬aI ca=some x
 ap:∀i k x,i≠k->Fi i x->¬Fi k x
 qy:∀i x,j<=i->¬Fi i x
 af:ak (λb=>aI ca=some b) w9 w'
def QA{s:Int}(o:Gv t cells s op arg)(M:vo t cells s op arg=0)(a2:aN arg)(e3:t.length<=64)(ht:Row oq 48 w E ta tn t)(hE:∀a,E a->a<w.heap.size)(h:Row fg 32 w D ca cn cells)(hD:∀a,D a->a<w.heap.size):
  ZG 204 #[.agg #[.slice ta tn tc],.slice ca cn cc,XH s,XH op,XH arg] w (Ok (oK fg 84 w (Qt t cells s op arg))):=by
 obtain⟨i,rfl⟩:∃i:Nat,s=i:=⟨s.toNat,by have:=o.f0;omega⟩
 obtain⟨m,A,l2,l3⟩:=eI.boxes h;have e4:=o.len;have e5:m.length=cells.length:=by rw[<-A];simp
 refine Mf (PA.mk λw1 k1 s1 g1=>PC.ok (oZ (l2.ah k1) λa c=>by have:=hD a c;omega) ?_);rintro _ N ⟨n,q,C,F9,rfl,v,O,d4⟩;have e6:=v.len dC;have e7:=h.len;have x:∀a,aI n=some a->w1.heap.size<=a:=λa c=>d4 a (v.self a c);have Q:∀a,aI n=some a->a<N.heap.size:=λa c=>v.aF a (v.self a c);refine⟨_,_,_,rfl,λR a8 w'=>∃f:Nat,a8=f/\f<=q/\R=q-f/\∃L p,TZ N n q C D cells f w' L p/\∀b,f<=b->L[b]? =m[b]?,
  ⟨_,0,rfl,Qj _,rfl,m,λ_ _=>False,⟨v.alone,A,λi a hi=>oM,λ_ _ h=>h.elim,λ_ _ _ _ h=>h.elim,λ_ _ _=>id,ak.refl _⟩,λb _=>rfl⟩,?_⟩
 rintro R _ _ b9 ⟨f,rfl,hj,rfl,L,p,d,a3⟩;have e8:L.length=cells.length:=by rw[<-d.eq];simp
 have F:ai w b9:=(k1.then O).new d.af λa c=>.inr (by have:=x a c;omega);refine an.dec (λe9=>?_) (λf0=>?_)
 ·have c0:f<m.length:=oM
  have S:m[f]? =some m[f]:=Qq c0;obtain⟨a,T,es,U,c,f6,a9,rfl,-⟩:=(l2.ah F).el f m[f] S;have d5:=l3 m[f] (XY c0);refine⟨a,T,U,oM,oM,_,_,_,a9 1 dC,PC.ok (b_ (d5.1.ah F) λa c=>by have:=hD a c;have:=F.size;omega) ?_⟩;rintro _ f7 ⟨g0,g2,g3,G,rfl,a4,H,I⟩;have a5:=d.nW.ah H;have hz:=d.af.size;obtain⟨y,c1⟩:∃y,n=XM y:=by
   rcases a5.body with⟨cs,D',ho,-⟩;rcases ho.cases with⟨-,hn,-⟩|⟨y,b0,e,-⟩
   ·omega
   ·exact⟨y,e⟩
  refine⟨_,_,_,rfl,y,0,c1,oM,oM,?_⟩;simp only[Qx];refine eI.set a5 (by rw[a3 f (Q4 _)];exact S) c1 λg4 c2 V g5=>⟨_,?_,f+1,aq oM,oM,rfl,_,λb=>if b=f then G else p b,⟨c2,?_,?_,?_,?_,?_,?_⟩,?_⟩
  ·omega
  ·rw[List.map_set,d.eq,Oe]
   rw[<-A,Q9,S];rfl
  ·intro b a l c
   rw[Xj]at c
   by_cases W:f=b
   ·subst W
    rw[Zx rfl,Zx oM]at c
    cases c
    rw[Zx rfl];exact a4.af V λP B e=>by have:=I P B;have:=Q P e;omega
   ·rw[Zq W]at c
    rw[Zq (λe=>W e.symm)];exact((d.own b a oM c).ah H).af V λP B e=>(d.aF b P B).2.2 e
  ·intro b P B
   split at B
   ·have:=I P B;have:=a4.aF P B;exact⟨oM,oM,λe=>by have:=Q P e;omega⟩
   ·have J:=d.aF b P B;have:=H.size;exact⟨J.1,oM,J.2.2⟩
  ·intro b k' P X B g
   split at B<;>split at g
   ·omega
   ·have:=I P B;have:=d.aF k' P g;omega
   ·have:=I P g;have:=d.aF b P B;omega
   ·exact d.ap b k' P X B g
  ·intro b P l B
   rw[Zq oM]at B;exact d.qy b P oM B
  ·exact(d.af.ah H).then V
  ·intro b l
   rw[Xj,Zq oM,a3 b oM]
 ·have g6:f=q:=oM
  refine PC.ok yZ ?_;rintro _ g7 ⟨f5,rfl,Y,Z⟩;refine⟨_,rfl,l_ yY Ef Y ?_⟩;rw[KR o.TW o.TX];refine⟨_,_,_,rfl,PA.mk λg8 d6 g9 d7=>aB (Oa op) d7 rfl λd8 d9 h0 b3=>an.tt rfl λb4 e0=>?_⟩;have c3:ai d8 b4:=e0.af;have u:ai b9 b4:=((Z.then d6).new d9 λa c=>.inr (by have:=Z.size;omega)).then c3;have c4:=F.then u;have b3:=c3.get b3 id;have z9:=d.af.size;have h2:=Z.size;have h4:=O.size;have gt:=u.get (d.af.get (O.get g1 id) (λe=>by have:=x _ e;omega)) id;have h5:=o.f1;have h6:=ht.len;obtain⟨a,T,f8,f9,b1,U,c,h7,f1,f2,f3,f4,c5⟩:=Ej (ht.ah c4) (i:=i) oM;have c6:i<L.length:=oM
  have K:L[i]? =some L[i]:=Qq c6;generalize L[i]=bx at K;have b5:cells[i]? =some bx.x:=by rw[<-d.eq,Q9,K];rfl
  have c7:cells.getD i ⟨0,[]⟩=bx.x:=by rw[QQ,b5];rfl
  have a0:∀(b:Nat) (P:cQ),cells[b]? =some P->aN P.n/\vj P.set/\P.set.length<=64:=λb P B=>by
   rw[<-A,Q9]at B
   cases hL:m[b]? with
   |none=>rw[hL]at B;cases B
   |some b2=>rw[hL]at B;cases B;exact(l3 b2 (QZ hL)).2
  have c8:jv b4 n q C L i bx (p i):=⟨d.nW.ah u,K,(d.own i bx oM K).ah u,λa c=>(d.aF i a c).2.2,a0 i _ b5,oM⟩
  obtain⟨a1,r⟩:=Qu (mc:=b1) o a2 c5 (λa c e=>by have:=hE a c;have:=x a e;omega) c8;refine⟨_,ae b3 rfl,_,_,_,ae gt rfl,a,T,U,oM,oM,_,_,_,_,_,_,f1,f2,f3,f4,_,_,_,rfl,a1,PC.ok r ?_⟩;rintro _ b6 ⟨rfl,j,z,g,d0,a6,b7,d1⟩;have h8:=b7.size;have zg:=u.size;have b8:∀P,z P->N.heap.size<=P:=λP B=>by
   rcases d1 P B with h|h
   ·exact(d.aF i P h).1
   ·omega
  have d2:∀b a,(L.set i j)[b]? =some a->aT aM 3 (λP=>if b=i then z P else p b P) b6 a.a a.n a.c a.x.set:=λb a c=>by
   rw[Xj]at c
   by_cases l:i=b
   ·subst l
    rw[Zx rfl,Zx c6]at c
    cases c
    simp only[if_true];rw[g];exact a6
   ·rw[Zq l]at c
    simp only[Zq (λe:b=i=>l e.symm)];have h9:=(Qv.1 c).1;refine((d.own b a oM c).ah u).af b7 λP B e=>?_;rcases e with e|e
    ·exact(d.aF b P B).2.2 e
    ·exact d.ap b i P (λe=>l e.symm) B e
  have a7:∀a∈L.set i j,aN a.x.n/\vj a.x.set/\a.x.set.length<=64:=λa c=>by
   obtain⟨b,l,rfl⟩:=List.getElem_of_mem c;have k:(L.set i j)[b]? =some (L.set i j)[b]:=Qq l;generalize(L.set i j)[b]=a at k;rw[Xj]at k
   by_cases d3:i=b
   ·rw[Zx d3,Zx oM]at k
    cases k
    rw[g];refine SK (λR Y=>?_) (a0 i _ b5) a2 λh3=>?_
    ·obtain⟨c9,hq,rfl⟩:=List.getElem_of_mem Y
     obtain⟨b',o',es,-,-,-,-,-,e1⟩:=c5.el c9 _ (Qq hq);exact e1
    ·rw[Eh]at M
     have c:NY t cells (i:Int) op arg=true:=by
      cases hq:NY t cells (i:Int) op arg
      ·rw[hq]at M;simp at M
      ·rfl
     unfold NY at c;subst h3;simp only[Qx,c7]at c;simpa using c
   ·rw[Zq d3]at k
    exact a0 b _ (by rw[<-d.eq,Q9,k];rfl)
  have e2:∀a∈L.set i j,a.x.set.length<=64:=λa c=>(a7 a c).2.2;have hU:aT jP.Me 84 (λP=>aI n=some P\/((∃b,b≠i/\p b P)\/z P)) b6 n q C ((L.set i j).map (·.x)):=by
   refine eI.unbox (N:=jP) (D:=λP=>(∃b,b≠i/\p b P)\/z P) d0 (λa c=>(⟨?_,a7 a c⟩:jP.In b6 _ a)) (λP B=>?_)
   ·obtain⟨b,l,rfl⟩:=List.getElem_of_mem c
    have J:=d2 b _ (Qq l);refine(J.row (bytes:=8) dC ?_).mono λP B=>?_
    ·have:=e2 _ c;unfold aO;omega
    ·split at B
     ·exact .inr B
     ·rename_i X;exact .inl ⟨b,X,B⟩
   ·rcases B with⟨b,-,B⟩|B
    ·have:=d.aF b P B;exact⟨oM,this.2.2⟩
    ·refine⟨a6.aF P B,λe=>?_⟩
     rcases d1 P B with h|h
     ·exact(d.aF i P h).2.2 e
     ·have:=Q P e;omega
  refine⟨rfl,Ok.mk ⟨n,q,C,(λP=>aI n=some P\/((∃b,b≠i/\p b P)\/z P)),rfl,?_,?_,?_⟩⟩
  ·rw[SI o.TW o.TX,Qx,c7,<-g,<-d.eq,<-List.map_set];exact hU
  ·exact c4.new b7 λP B=>.inr (by
    rcases B with B|B
    ·have:=x P B;omega
    ·have:=(d.aF i P B).1;omega)
  ·rintro P (B|⟨b,-,B⟩|B)
   ·have:=x P B;omega
   ·have:=(d.aF b P B).1;omega
   ·have:=b8 P B;omega
end
end Go.Proofs.YtblabbpipmodgaaGreatDoor
namespace Go.aw
open Go
variable{d:ZH}{x:XU}
section
variable {α β:Type} {N:eI α β} {w9 w w':World} {a:ZH} {n c j:Nat} {L0:List (Bx α)} {e:TypeId}
def dV(N:eI α β)(e:TypeId)(w9:World)(a:ZH)(n c:Nat)(L0:List (Bx α))(j:Nat)(w':World):Prop:=
 ∃(b:List (Bx α)) (g:XN),aT N.jB e (λP=>aI a=some P) w' a n c b/\b.map (·.x)=L0.map (·.x)/\(∀(h:Nat) (P:Bx α),h<j->b[h]? =some P->N.In w' g P)/\(∀f:Nat,j<=f->b[f]? =L0[f]?)/\
  ak (λP=>aI a=some P) w9 w'/\∀d,g d->w9.heap.size<=d/\d<w'.heap.size/\¬aI a=some d
def dV.start(P:aT N.jB e (λb=>aI a=some b) w9 a n c L0):dV N e w9 a n c L0 0 w9:=
 ⟨L0,λ_=>False,P,rfl,λd b f=>oM,λ_ _=>rfl,ak.refl _,λ_ P=>P.elim⟩
def dV.ah(b:dV N e w9 a n c L0 j w)(P:ai w w'):dV N e w9 a n c L0 j w':=by
 obtain⟨h,i,k,l,m,o,p,d⟩:=b;exact⟨h,i,k.ah P,l,λq r s t=>(m q r s t).af P λ_ _ b=>b,o,p.ah P,λf g=>⟨(d f g).1,Qk (d f g).2.1 P.size,(d f g).2.2⟩⟩
def dV.af(P:dV N e w9 a n c L0 j w):ak (λb=>aI a=some b) w9 w:=P.elim λd P=>P.elim λD P=>P.2.2.2.2.1
def dV.len(P:dV N e w9 a n c L0 j w):n=L0.length:=by
 obtain⟨g,h,b,d,-⟩:=P;have:=Zj List.length d;simp at this;have f:0<N.k:=Nat.lt_of_le_of_lt (Qj _) N.ho;rw[b.len f,this]
def dV.some(b:dV N e w9 a n c L0 j w)(h:j<n):∃P,a=XM P:=by
 obtain⟨i,k,d,-⟩:=b;rcases d.body with⟨cs,l,f,-⟩;rcases f.cases with⟨-,m,-⟩|⟨P,g,e,-⟩
 ·omega
 ·exact⟨P,e⟩
def dV.cell(l:dV N e w9 a n c L0 j w){g:Nat}(m:a=Option.some ⟨g,0,none⟩){P:Bx α}(o:L0[j]? =Option.some P)(p:n*N.k<=aO):∀d f,(N.hd P.x P.a P.n P.c)[d]? =Option.some f->w.cell? ⟨g,0+j*N.k+d,none⟩=Option.some f:=by
 obtain⟨t,u,h,v,x,q,y,z⟩:=l;have i:0<N.k:=Nat.lt_of_le_of_lt (Qj _) N.ho;have r:=h.row (bytes:=N.k) i (by rw[<-h.len i];exact p);obtain⟨A,B,C,b,-,-,s,rfl,-⟩:=r.el j P (by rw[q j (Q4 _)];exact o);rw[m]at b;cases b
 intro d f k;rw[<-k];exact s d (by have:=(Qv.1 k).1;rw[N.hl]at this;exact this)
def dV.step(v:dV N e w9 a n c L0 j w){g:Nat}(m:a=Option.some ⟨g,0,none⟩){b:Bx α}(h:L0[j]? =Option.some b){o y:Nat}{G:XN}(z:Row N.ci N.ib w G d o (N.inner b.x))(A:N.ok b.x)(i:∀P,G P->w9.heap.size<=P/\P<w.heap.size)(Q:g<w9.heap.size)(k:∀w',dV N e w9 a n c L0 (j+1) w'->ak (λb=>aI a=Option.some b) w w'->w'.heap.size=w.heap.size->x w'):
  PS w ⟨g,0+j*N.k+N.o,none⟩ (.slice d o y) x:=by
 obtain⟨C,E,F,H,I,p,J,q⟩:=v;have r:C[j]? =Option.some b:=by rw[p j (Q4 _)];exact h
 have K:=(Qv.1 r).1;have s:∀P,G P->¬aI a=Option.some P:=λP B e=>by
  have:=(i P B).1;rw[m]at e;simp only[aI,Q1]at e;omega
 refine eI.set F r m λL M f l=>k L ⟨_,λP=>E P\/G P,M,?_,?_,?_,J.then f,?_⟩ f l
 ·rw[List.map_set,H]
  apply X3;intro R;rw[Xj];split
  ·rename_i e;subst e
   rw[Zx (by simpa using(Qv.1 h).1),Q9,h];rfl
  ·rfl
 ·intro t P S B
  rw[Xj]at B
  by_cases u:j=t
  ·subst u
   rw[Zx rfl,Zx K]at B
   cases B
   exact⟨(z.af f λP B=>s P B).mono λP B=>.inr B,A⟩
  ·rw[Zq u]at B
   exact((I t P oM B).af f λP B=>(q P B).2.2).mono λP B=>.inl B
 ·intro O T
  rw[Xj,Zq oM,p O oM]
 ·rintro P (B|B)
  ·rw[l];exact q P B
  ·rw[l];exact⟨(i P B).1,(i P B).2,s P B⟩
def dV.done(f:dV N e w9 a n c L0 n w):∃g,aT N.Me e g w a n c (L0.map (·.x))/\∀P,g P->aI a=Option.some P\/w9.heap.size<=P:=by
 have q:=f.len;obtain⟨i,j,k,h,l,r,s,d⟩:=f;have t:i.length=L0.length:=by have:=Zj List.length h;simpa using this
 rw[<-h];refine⟨_,eI.unbox (D:=j) k (λu m=>?_) λP b=>⟨(d P b).2.1,(d P b).2.2⟩,λP b=>b.imp id λb=>(d P b).1⟩;obtain⟨o,p,rfl⟩:=List.getElem_of_mem m;exact l o _ oM (Qq p)
end
end Go.aw
namespace Go.Proofs.YtblabbpipmodgaaGreatDoor
open Go.aw
def oL:eI aj Int where
 k:=10
 ci:=aM
 ib:=8
 inner:=(·.aQ)
 hd:=aD
 ok:=aj.Ok
 hl:=λ_ _ _ _=>rfl
 h1:=λa b c d e P=>by
  simp only[aD,Q2,List.not_mem_nil,or_false]at P;rcases P with rfl|rfl|rfl|rfl|rfl|rfl|rfl|rfl|rfl|rfl<;>rfl
 o:=3
 ho:=dC
 fj:=λ_ _ _ _ _ _ _=>rfl
def QR:oL.Me=h_:=rfl
def IJ:eI bj jw where
 k:=4
 ci:=fF
 ib:=32
 inner:=(·.bq)
 hd:=dy
 ok:=λP=>aN P.kind/\aN P.dJ
 hl:=λ_ _ _ _=>rfl
 h1:=λb c d e f a=>by
  simp only[dy,Q2,List.not_mem_nil,or_false]at a;rcases a with rfl|rfl|rfl|rfl<;>rfl
 o:=3
 ho:=dC
 fj:=λ_ _ _ _ _ _ _=>rfl
def Gb:IJ.Me=oq:=rfl
variable{e:Int}{a9:List cQ}{a c:Nat}{d:ZH}
section
variable {w w':World} {D E F:XN}
def nw{e:aj}{w:World}{D:XN}(i:Row aM 8 w D d a e.aQ)(s:∀P,D P->P<w.heap.size):
  ZG 147 #[js e d a c] w (Ok λt w'=>∃d a c G,t=js e d a c/\Row aM 8 w' G d a e.aQ/\(∀P,G P->w.heap.size<=P/\P<w'.heap.size)/\ai w w'):=by
 have u:=i.dB;have v:=i.len;refine EA (PA.mk λz m A f=>PA.mk λB g C j=>⟨_,_,_,ae (g.get f id) rfl,PC.ok (b_ (i.ah (m.then g)) λP b=>by have:=s P b;omega) ?_⟩);rintro _ E ⟨n,o,p,G,rfl,q,h,k⟩;have f:=h.get (g.get f id) id;have j:=h.get j id;refine⟨_,_,_,rfl,PS.mk f (by simp[aD]) λF l H x=>?_⟩;refine ar (cs:=aD e n o p) (aZ _ _ _ _) x (aB (aZ _ _ _ _) (l.get j oM) rfl λI r J y=>ar (aZ _ _ _ _) y (Ok.mk ⟨n,o,p,G,rfl,?_,?_,?_⟩))
 ·refine(((q.af l λP b=>?_).af r λP b=>?_).row (bytes:=8) dC (by rw[<-v];exact u))
  ·have:=k P b;omega
  ·have:=k P b;omega
 ·intro P b
  have:=k P b;have:=q.aF P b;omega
 ·have K:=h.size
  exact((ak.new ((m.then g).then h) l λP b=>.inr oM).new r λP b=>.inr oM)
def JA(h:Row fg 32 w D d a a9)(C:∀P,D P->P<w.heap.size):
  ZG 153 #[.agg #[XH e,.slice d a c]] w (Ok λa0 w'=>∃E H I F,a0= .agg #[XH e,.slice E H I]/\aT fg 84 F w' E H I a9/\(∀P,F P->w.heap.size<=P)/\ai w w'):=by
 obtain⟨l,J,l2,l3⟩:=eI.boxes h;have K:=h.dB;have c1:=h.len;have c2:l.length=a9.length:=by rw[<-J];simp
 refine EB (PA.mk λL M s1 N=>PA.mk λw2 p s2 g2=>⟨_,_,_,ae (p.get N id) rfl,PC.ok (oZ (l2.ah (M.then p)) λP b=>by have:=C P b;omega) ?_⟩);rintro _ w9 ⟨j,m,v,F9,rfl,q,r,b6⟩;have n:∀P,aI j=some P->w2.heap.size<=P:=λP b=>b6 P (q.self P b);have a1:∀P,aI j=some P->P<w9.heap.size:=λP b=>q.aF P (q.self P b);refine⟨_,_,_,rfl,PS.mk (r.get (p.get N id) id) sM λs x c3 t=>⟨_,_,_,ae t rfl,?_⟩⟩;have z9:=r.size;have a2:=x.get (r.get g2 id) oM;have a3:aT jP.jB 84 (λP=>aI j=some P) s j m v l:=q.alone.af x λP b f=>by have:=n P b;omega
 have a4:ai w s:=((M.then p).then r).new x λP b=>.inr oM;refine⟨λO a5 w'=>∃g:Nat,a5=g/\g<=m/\O=m-g/\dV jP 84 s j m v l g w',⟨_,0,rfl,Qj _,rfl,dV.start a3⟩,?_⟩;rintro O _ _ Q ⟨g,rfl,hj,rfl,i⟩;have c4:=i.len;have y:ai w Q:=a4.new i.af λP b=>.inr (by have:=n P b;omega);have z:¬aI j=some w.heap.size:=λf=>by have:=n _ f;omega
 have R:¬aI j=some L.heap.size:=λf=>by have:=n _ f;omega
 refine an.dec (λc5=>λb7 b8=>?_) (λc6=>?_)
 ·have o:ai Q b7:=b8.af
  have S:=i.ah o;obtain⟨k,rfl⟩:=i.some oM;have c7:=n k rfl;have a7:k<s.heap.size:=by have:=a1 k rfl;omega
  have A:l[g]? =some l[g]:=Qq oM;have u:=l3 l[g] (XY oM);generalize l[g]=B at A u;have T:=o.get (i.af.get t z) id;refine⟨λP=>P=k,by show w.heap.size≠k;omega,_,_,_,ae T rfl,_,_,_,ae T rfl,k,0,rfl,by omega,by omega,_,_,_,S.cell rfl A (by show m*2<=aO;unfold aO at K⊢;omega) 1 _ rfl,PC.ok (b_ ((u.1.ah y).ah o) λP b=>by have:=C P b;have:=(y.then o).size;omega) ?_⟩;rintro _ c8 ⟨d0,d1,d2,G,rfl,U,V,hG⟩;refine⟨_,_,_,rfl,ai.af V,k,0,rfl,oM,oM,?_⟩;have d3:=i.af.size;have d4:=o.size;refine(S.ah V).step (g:=k) rfl A (U.row (bytes:=8) dC ?_) u.2 (λW X=>⟨by have:=hG W X;omega,U.aF W X⟩) a7 λd5 b0 b9 d6=>⟨b9.mono λP _ f=>(by simpa[aI]using f.symm),_,?_,g+1,aq (by unfold aO at K;omega),oM,rfl,b0⟩
  ·have:B.x.set.length<=64:=u.2.2.2
   show(jP.inner B.x).length*8<=aO;unfold aO;show B.x.set.length*8<=_;omega
  ·omega
 ·obtain rfl:g=m:=oM
  obtain⟨Fd,Y,Z⟩:=i.done;rw[J]at Y;have d7:=i.af.size;refine⟨_,_,_,_,ae (i.af.get t z) rfl,ae (i.af.get t z) rfl,PS.mk (i.af.get a2 R) sM λd8 b2 d9 c0=>PS.mk c0 sM λe0 b3 e1 b4=>⟨_,_,_,_,ae b4 rfl,ae b4 rfl,Ok.mk ⟨j,_,v,Fd,rfl,?_,?_,?_⟩⟩⟩
  ·have b5:∀P,Fd P->P≠L.heap.size:=λP b f=>by
    rcases Z P b with h|h
    ·exact R (f▸h)
    ·omega
   exact(Y.af b2 λP b f=>b5 P b f).af b3 λP b f=>b5 P b f
  ·intro P b
   rcases Z P b with h|h
   ·have:=n P h;omega
   ·omega
  ·exact(y.new b2 λP b=>.inr oM).new b3 λP b=>.inr oM
end
variable{r:ZH}{J:aR}
section
variable {w w':World} {D E F:XN}
def oS{P:List iG}(e:Row uq 40 w D d a P)(f:∀b,D b->b<w.heap.size):ZG 131 #[.slice d a c] w (Ok (oK uq 128 w P)):=
 gK (zb JB dC e f λh w' g=>Ok.mk g)
def oT{P:List (Bx bj)}(e:Row IJ.jB 48 w D d a P)(f:∀b,D b->b<w.heap.size):ZG 132 #[.slice d a c] w (Ok (oK IJ.jB 123 w P)):=
 fU (zb Oy dC e f λh w' g=>Ok.mk g)
def Cd{tn tc pn pc:Nat}(h:bf w D J d tn r pn)(S:∀P,D P->P<w.heap.size):
  ZG 145 #[.agg #[.slice d tn tc,.slice r pn pc]] w (Ok λa5 w'=>∃o Ab T e f g G,a5= .agg #[.slice o Ab T,.slice e f g]/\bf w' G J o Ab e f/\(∀P,G P->w.heap.size<=P/\P<w'.heap.size)/\ai w w'):=by
 have d3:=h.aX.len;have C:=h.aX.dB;have d4:=h.yO.len;have d5:=h.yO.dB;refine xV (PA.mk λw1 k1 s1 g1=>PA.mk λw2 E s2 g2=>⟨_,_,_,ae (E.get g1 id) rfl,PC.ok (oS (h.yO.ah (k1.then E)) λP B=>by have:=S P B;omega) ?_⟩);rintro _ p ⟨e,f,g,G1,rfl,U,F,b4⟩;have z8:=F.size;refine⟨_,_,_,rfl,PA.mk λg4 d6 g5 d7=>PS.mk d7 sM λg6 d8 g7 d9=>PS.mk d9 sM λq e0 g8 e1=>?_⟩;have s:ai p q:=(d6.new d8 λP B=>.inr oM).new e0 λP B=>.inr oM;have b5:ai w q:=((k1.then E).then F).then s;have ga:=s.get (F.get (E.get g1 id) id) id;have gz:=s.get (F.get g2 id) id;have g9:=s.size;have b6:q.heap[p.heap.size]? =some (.cells #[.slice none 0 0,.slice e f g] 25 (0,0)):=e1;refine⟨_,_,_,ae ga rfl,λt V w'=>∃a:Nat,V=a/\a<=tn/\t=tn-a/\ak (·=p.heap.size) q w'/\∃H I W u,w'.heap[p.heap.size]? =some (.cells #[.slice H I W,.slice e f g] 25 (0,0))/\aT jO 130 u w' H I W (J.types.take a)/\∀P,u P->q.heap.size<=P,
  ⟨_,0,rfl,Qj _,rfl,ak.refl _,none,0,0,λ_=>False,b6,aT.nil _,λ_ h=>h.elim⟩,?_⟩
 rintro t _ _ Y ⟨a,rfl,hj,rfl,v,H,I,W,u,Z,i,l⟩;have K:ai w Y:=b5.new v λP B=>.inr oM;have zk:=v.size;refine an.dec (λh0=>?_) (λh3=>?_)
 ·have b7:a<J.types.length:=oM
  obtain⟨P,a6,es,ha,B,h4,a8,fa,fn,fc,rfl,L⟩:=(h.aX.ah K).el a J.types[a] (by simp[b7]);have b8:J.types[a]? =some J.types[a]:=Qq b7;generalize J.types[a]=a1 at L b8;have c0:=a8 0 dC;have e2:jO.k=1:=rfl;rw[e2,Nat.mul_one]at c0;refine⟨P,a6,ha,oM,oM,fa,fn,fc,by rw[Qx];exact c0,PA.mk λh5 e3 h6 e4=>PS.mk e4 sM λb9 e5 h7 e6=>⟨_,_,_,ae e6 rfl,?_⟩⟩;have M:ai Y b9:=e3.new e5 λP B=>.inr oM;have c1:=K.then M;obtain⟨m,l1,l2,l3⟩:=eI.boxes (N:=IJ) L;have a7:=L.dB;refine PC.ok (oT (l2.ah M) λP B=>by have:=S P B;have:=c1.size;omega) ?_;rintro _ c2 ⟨a9,x,c9,F9,rfl,N,c3,e7⟩;have h8:=M.size;have h9:=c3.size;have O:∀P,aI a9=some P->b9.heap.size<=P:=λP B=>e7 P (N.self P B);have c4:∀P,aI a9=some P->P<c2.heap.size:=λP B=>N.aF P (N.self P B);refine⟨_,_,_,rfl,λt V w'=>∃a:Nat,V=a/\a<=x/\t=x-a/\dV IJ 123 c2 a9 x c9 m a w',⟨_,0,rfl,Qj _,rfl,dV.start N.alone⟩,?_⟩;rintro t _ _ e8 ⟨n,rfl,hi,rfl,j⟩;have i0:=j.len;have i1:m.length=a1.length:=by rw[<-l1];simp
  have e9:=L.len;have y:ai Y e8:=(M.then c3).new j.af λP B=>.inr (by have:=O P B;omega);have i2:=j.af.size;refine an.dec (λf7=>?_) (λg0=>?_)
  ·obtain⟨Q,rfl⟩:=j.some oM
   have c5:=c4 Q rfl;have a0:m[n]? =some m[n]:=Qq oM;have z:=l3 m[n] (XY oM);generalize m[n]=R at a0 z;refine⟨Q,0,rfl,oM,oM,_,_,_,j.cell rfl a0 (by show x*4<=aO;unfold aO at a7⊢;omega) 3 _ rfl,PC.ok (r_ (z.1.ah y) λP B=>by have:=S P B;have:=(K.then y).size;omega) ?_⟩;rintro _ i3 ⟨i4,i5,i6,G,rfl,a2,f2,hG⟩;refine⟨_,_,_,rfl,Q,0,rfl,oM,oM,?_⟩;refine(j.ah f2).step (g:=Q) rfl a0 (a2.row (bytes:=32) dC ?_) z.2 (λa3 hx=>⟨by have:=hG a3 hx;omega,a2.aF a3 hx⟩) c5 λi7 c6 i8 i9=>⟨_,?_,n+1,aq (by unfold aO at a7;omega),oM,rfl,c6⟩
   ·have c:=z.1.dB
    have X:=z.1.len;show R.x.bq.length*32<=aO;have j0:R.n=R.x.bq.length:=X;have j1:R.n*32<=aO:=c;omega
   ·omega
  ·obtain rfl:n=x:=oM
   obtain⟨Fd,hd,b0⟩:=j.done;rw[l1,Gb]at hd;have a4:=y.get Z id;refine⟨_,_,_,ae a4 rfl,Gc (c:=jO) (x:=a1) (i.ah y) KN (D:=Fd) ⟨_,_,_,rfl,hd.row dC (by rw[<-e9];exact a7)⟩ (λP B=>⟨hd.aF P B,λb=>?_⟩) ?_ ?_ λa' A j2 F' d0 b1 c7 g3=>⟨_,_,_,rfl,?_⟩⟩
   ·have c:=i.aF P (i.self P b)
    rcases b0 P B with X|X
    ·have:=O P X;omega
    ·omega
   ·have:=List.length_take_le a J.types;unfold aO at C⊢;omega
   ·have:=List.length_take_le a J.types;unfold aO at C;unfold maxLen;omega
   ·have k:¬aI H=some p.heap.size:=λb=>by have:=l _ (i.self _ b);omega
    have f3:=b1.get a4 k;have j3:=b1.size;refine PS.mk f3 sM λj4 c8 j5 f4=>⟨_,?_,a+1,aq (by unfold aO at C;omega),oM,rfl,?_,a',I+1,A,F',f4,?_,?_⟩
    ·omega
    ·exact((v.ah y).new b1 λP B=>.inr (l _ (i.self P B))).then c8
    ·rw[Qw,b8]
     refine d0.af c8 λP B b=>?_;rcases c7 P B with c|c|c
     ·have:=l P c;omega
     ·rcases b0 P c with X|X
      ·have:=O P X;omega
      ·omega
     ·omega
    ·intro P B
     rcases c7 P B with c|c|c
     ·exact l P c
     ·rcases b0 P c with X|X
      ·have:=O P X;omega
      ·omega
     ·omega
 ·obtain rfl:a=tn:=oM
  rw[Qz oM]at i;have d1:=v.get gz oM;have f0:=(U.ah s).af v λP B b=>by have:=U.aF P B;omega
  refine⟨_,_,_,_,_,_,ae Z rfl,ae Z rfl,PS.mk d1 sM λj6 b2 j7 f6=>PS.mk f6 sM λj8 b3 j9 d2=>⟨_,_,_,_,_,_,ae d2 rfl,ae d2 rfl,Ok.mk ⟨_,_,_,_,_,_,λP=>u P\/G1 P,rfl,⟨?_,?_⟩,?_,?_⟩⟩⟩
  ·have k:∀P,u P->P≠w1.heap.size:=λP B b=>by have:=l P B;omega
   exact((((i.row (bytes:=24) dC (by rw[<-d3];exact C)).af b2 λP B b=>k P B b).af b3 λP B b=>k P B b)).mono λP B=>.inl B
  ·have k:∀P,G1 P->P≠w1.heap.size:=λP B b=>by have:=b4 P B;omega
   exact((((f0.row (bytes:=40) dC (by rw[<-d4];exact d5)).af b2 λP B b=>k P B b).af b3 λP B b=>k P B b)).mono λP B=>.inr B
  ·rintro P (B|B)
   ·have:=l P B;have:=i.aF P B;omega
   ·have:=b4 P B;have:=U.aF P B;omega
  ·exact(K.new b2 λP B=>.inr oM).new b3 λP B=>.inr oM
end
end Go.Proofs.YtblabbpipmodgaaGreatDoor
namespace Go.aw
open Go
def nI{P a b:Type}(c:P->a->b->Prop):List (P×a)->List (P×b)->Prop
 |[],[]=>True
 |(d,e)::f,(g,h)::i=>d=g/\c d e h/\nI c f i
 |_,_=>False
section
variable {κ β γ:Type} {R R':κ->β->γ->Prop}
def nI.mono:∀{P:List (κ×β)} {a:List (κ×γ)},nI R P a->(∀e b c,R e b c->R' e b c)->nI R' P a
 |[],[],_,_=>trivial
 |(g,b)::P,(h,c)::a,d,f=>⟨d.1,f _ _ _ d.2.1,nI.mono d.2.2 f⟩
def nI.az[BEq κ][LawfulBEq κ](P:κ):∀{a:List (κ×β)} {b:List (κ×γ)},nI R a b->
  (aw.az a P=none/\aw.az b P=none)\/∃c d,aw.az a P=some c/\aw.az b P=some d/\R P c d
 |[],[],_=>.inl ⟨rfl,rfl⟩
 |(f,c)::a,(j,d)::b,g=>by
  obtain⟨rfl,h,i⟩:=g;unfold aw.az
  by_cases e:P==f
  ·obtain rfl:P=f:=by simpa using e
   simp only[e,if_true];exact .inr ⟨c,d,rfl,rfl,h⟩
  ·simp only[e];exact nI.az P i
def nI.off{g:κ}:∀{P:List (κ×β)} {a:List (κ×γ)},nI R P a->(∀b c d,b≠g->R b c d->R' b c d)->g∉P.map (·.1)->nI R' P a
 |[],[],_,_,_=>trivial
 |(j,c)::P,(k,d)::a,e,h,f=>by
  simp only[QY,Q2,not_or]at f;exact⟨e.1,h _ _ _ (λi=>f.1 i.symm) e.2.1,nI.off e.2.2 h f.2⟩
def nI.aK[BEq κ][LawfulBEq κ]{P:κ}{a:β}{b:γ}(f:R' P a b):∀{c:List (κ×β)} {g:List (κ×γ)},nI R c g->(∀h a b,h≠P->R h a b->R' h a b)->Tidy c->nI R' (aw.aK c P a) (aw.aK g P b)
 |[],[],_,_,_=>⟨rfl,f,trivial⟩
 |(j,p)::c,(q,r)::g,l,i,d=>by
  obtain⟨rfl,m,k⟩:=l;unfold Tidy at d;simp only[QY,List.nodup_cons]at d;unfold aw.aK
  by_cases e:P==j
  ·simp only[e,if_true]
   obtain rfl:P=j:=by simpa using e
   refine⟨rfl,f,?_⟩;have n:P∉c.map (·.1):=d.1;exact nI.off k i n
  ·simp only[e]
   exact⟨rfl,i _ _ _ (λo=>e (by simp[o])) m,nI.aK f k i d.2⟩
end
def uT{c:Type}(e:World)(f:Nat)(a:c->Value)(g:c)(h:Int):Prop:=
 ∃(d:Array MapEntry) (P i:Nat) (b:MapEntry),e.heap[f]? =some (.map d P)/\d[i]? =some b/\b.key=a g/\(b.born:Int)=h
variable{e:Int}{a:Nat}{j:Type}{u:Value}{l s:XR}{b k:World}{x:XU}
def uT.af{S:XN}{c:j->Value}{d:j}(f:uT b a c d e)(g:ak S b k)(h:¬S a):uT k a c d e:=by
 obtain⟨i,P,l,m,n,o⟩:=f;exact⟨i,P,l,m,g.get n h,o⟩
section
variable {κ:Type} [BEq κ] [LawfulBEq κ] {P:Program} {t kt vt:TypeId} {z:Value} {enc:κ->Value}
def Dt{κ d:Type}[BEq κ][LawfulBEq κ]{a:κ}{e:d}:∀{b:List (κ×d)},az b a=some e->aK b a e=b
 |(f,g)::b,P=>by
  unfold az at P;unfold aK
  by_cases c:a==f
  ·rw[Zx c]at P⊢
   obtain rfl:a=f:=by simpa using c
   cases P;rfl
  ·rw[Zq c]at P⊢
   rw[Dt P]
def Fg(w:lZ P t kt vt z)(o:ic P kt enc){e:List (κ×Value)}(x:bR b a enc e){k:κ}(p:∀w' C,bR w' a enc (aK e k ((az e k).getD z))->uT w' a enc k C->ak (·=a) b w'->w'.heap.size=b.heap.size->l (.tuple #[(az e k).getD z,XH C]) w'):aH P (Instr.mapEntry t (.map (some a)) (enc k)) b l s:=by
 obtain⟨d,c,j,m,y,E⟩:=x.at';have q:=iX o k d.toList e m b;have I:d.toList.length=e.length:=by have:=Zj List.length m;simpa using this
 have r:=ay j;have h:=wq e k 0
 cases u:lP e k 0 with
 |none=>
  rw[u]at q h;have v:az e k=none:=h.symm;rw[v]at p;have J:=w.Lw b;refine aH.mk (w':={b with heap:=b.heap.setIfInBounds a (.map (d.push {key:=enc k,val:=z,born:=c}) (c+1))}) ?_ (p _ c ⟨⟨_,_,cP b a _ r,?_,?_,?_⟩,x.tidy.aK k z⟩ ⟨_,_,d.size,{key:=enc k,val:=z,born:=c},cP b a _ r,sM,rfl,rfl⟩ (ak.setObj b a _) sM)
  ·simp[Instr.mapEntry,run_underlying w.under,dv j,dz o,q,ej j,J,goInt]
  ·rw[Option.getD_none,(qF u).1 z];simp[m]
  ·intro g i
   simp only[Array.toList_push,Q6,List.mem_singleton]at i;rcases i with i|rfl
   ·have:=y g i;omega
   ·show c<c+1;omega
  ·simp only[Array.toList_push,Q3,QY,List.map_nil]
   rw[List.nodup_append];refine⟨E,sM,?_⟩;intro K h L A T;simp only[List.mem_singleton]at A;obtain⟨g,i,rfl⟩:=Xk.1 h;have:=y g i;omega
 |some M=>
  obtain⟨f,F⟩:=M;rw[u]at q h;have v:az e k=some F:=h.symm;obtain⟨_,N,H,O⟩:=mK u;rw[Nat.sub_zero]at N H O;have B:f<d.size:=by
                 have:d.size=e.length:=by simpa using I
                 omega
  have n:d[f].key=enc k:=by
   have:=Zj (·[f]?) m;simp only[Q9,H,Option.map_some]at this;simp[B]at this;exact this.1
  have Q:(d.modify f λg=>{g with key:=enc k})=d:=by
   apply Array.ext
   ·simp
   ·intro U V W
    rw[Array.getElem_modify];split
    ·rename_i g;subst g
     cases R:d[f]with
     |mk K L l=>rw[R]at n;simp at n;simp[n]
    ·rfl
  rw[v]at p;refine aH.mk (w':={b with heap:=b.heap.setIfInBounds a (.map d c)}) ?_ (p _ (d[f].born) ⟨⟨_,_,cP b a _ r,?_,y,E⟩,x.tidy.aK k F⟩ ⟨_,_,f,d[f],cP b a _ r,by simp[B],n,rfl⟩ (ak.setObj b a _) sM)
  ·have S:(Instr.keyThatStays (enc k) (enc k)).run P b= .ok (enc k) b:=by simp[Instr.keyThatStays,o.same]
   simp[Instr.mapEntry,run_underlying w.under,dv j,dz o,q,B,n,S,ej j,Q,goInt]
  ·rw[Option.getD_some,Dt v];exact m
def AQ(J:ic P kt enc){d:List (κ×Value)}(s:bR b a enc d){i:κ}(K:uT b a enc i e)(L:∀o,bR o a enc (aK d i u)->ak (·=a) b o->o.heap.size=b.heap.size->x o):j_ P (Instr.entryStore t (.map (some a)) (XH e) u) b x l:=by
 obtain⟨g,m,p,v,M,z⟩:=s.at';obtain⟨N,q,c,j,n,O,A,Q⟩:=K;rw[p]at n;cases n
 subst Q;have R:g.toList.length=d.length:=by have:=Zj List.length v;simpa using this
 have S:=ay p;obtain⟨r,rfl⟩:=Q5.1 O;have w:c<d.length:=by
                have:g.size=d.length:=by simpa using R
                omega
 have B:d[c]? =some (i,g[c].val):=by
  have:=Zj (·[c]?) v;simp only[Q9,Qq w,Option.map_some]at this;simp[r]at this;have T:d[c].1=i:=J.inj (by rw[<-this.1,A]);rw[Qq w]
  congr 1
  exact Prod.ext T this.2.symm
 have U:aK d i u=d.set c (i,u):=by
  cases C:lP d i 0 with
  |none=>
   have E:=wq d i 0;rw[C]at E;have:=qG.1 E.symm;exact Zz (Xk.2 ⟨_,QZ B,rfl⟩) this
  |some V=>
   obtain⟨h,a2⟩:=V;obtain⟨_,f,F,H⟩:=mK C;rw[Nat.sub_zero]at f F H;have k:h=c:=by
    have W:(d.map (·.1))[h]? =some i:=by rw[Q9,F];rfl
    have X:(d.map (·.1))[c]? =some i:=by rw[Q9,B];rfl
    obtain⟨Y,Z⟩:=Qv.1 W;obtain⟨q3,q4⟩:=Qv.1 X;exact(List.getElem_inj (xs:=d.map (λe=>e.1)) (h₀:=Y) (h₁:=q3) (show(d.map (λe=>e.1)).Nodup from s.tidy)).1 (Z.trans q4.symm)
   rw[(H u).1,k]
 have a0:g.findIdx? (λj=>(j.born:Int)==(g[c].born:Int))=some c:=by
  rw[Array.findIdx?_eq_some_iff_getElem];refine⟨r,sM,λh f=>?_⟩;have a1:h<g.size:=oM
  have a3:g[h].born≠g[c].born:=λj=>by
   have:=(List.getElem_inj (xs:=g.toList.map (·.born)) (h₀:=by simpa using a1) (h₁:=by simpa using r) z).1 (by simpa using j);omega
  simp;omega
 refine j_.mk (w':={b with heap:=b.heap.setIfInBounds a (.map (g.modify c λj=>{j with val:=u}) m)}) ?_ (L _ ⟨⟨_,_,cP b a _ S,?_,?_,?_⟩,s.tidy.aK i u⟩ (ak.setObj b a _) sM)
 ·simp[Instr.entryStore,dv p,asInt,asIntOf,a0,ej p]
 ·rw[U]
  apply X3;intro h;have f:=Zj (·[h]?) v;simp only[Q9]at f;simp only[Array.toList_modify,Q9,Xj,List.getElem?_modify]
  by_cases k:c=h
  ·subst k
   simp[r,w,A]
  ·simp only[k,if_false,Option.map_map]at f⊢
   simpa using f
 ·intro j I
  rw[Array.toList_modify]at I;obtain⟨h,f⟩:=List.getElem?_of_mem I;rw[List.getElem?_modify]at f
  cases y:g.toList[h]? with
  |none=>rw[y]at f;simp at f
  |some e'=>
   rw[y]at f;have hm:=QZ y;have:=M e' hm
   by_cases k:c=h
   ·simp[k]at f;subst f;exact this
   ·simp[k]at f;subst f;exact this
 ·have:(g.modify c λj=>{j with val:=u}).toList.map (·.born)=g.toList.map (·.born):=by
   apply X3;intro h;simp only[Array.toList_modify,Q9,List.getElem?_modify,Option.map_map]
   by_cases k:c=h<;>simp[k]<;>rfl
  rw[this];exact z
end
end Go.aw
namespace Go.Proofs.YtblabbpipmodgaaGreatDoor
open Go.aw
def vg{f:Type}{d:f->Int}:∀{e:List f},cj d e=0->∀b∈e,d b=0
 |[],_,b,a=>by cases a
 |y::e,P,b,a=>by
  unfold cj at P
  by_cases c:d y=0
  ·rw[c]at P
   simp only[bne_self_eq_false,Bool.false_eq_true,if_false]at P;rcases Q2.1 a with rfl|a
   ·exact c
   ·exact vg P b a
  ·rw[Zx (by simpa using c)]at P
   exact Zz P c
variable{e q:Int}{c3:List bj}{a9:List cQ}{J:aR}{d1:aY}{b3:bj}
def lS(P:di J=0):ql J=false/\(∀a∈J.types,∀d∈a,fe a d=0)/\∀e∈J.projs,lr J e=0:=by
 unfold di at P;split at P
 ·simp at P
 ·rename_i f
  simp only at P;split at P
  ·rename_i b
   exact Zz P (by simpa using b)
  ·rename_i b
   refine⟨by simpa using f,λa g=>?_,vg P⟩;have c:cj (λa=>cj (fe a) a) J.types=0:=by simpa using b
   exact vg (vg c a g)
def yN(P:ql J=false):1<=J.types.length/\J.types.length<=8/\J.projs.length<=8/\∀a∈J.types,1<=a.length/\a.length<=8:=by
 unfold ql at P;split at P
 ·cases P
 ·rename_i b
  simp only[Bool.or_eq_true,Bool.not_eq_true',Zk,not_or,Bool.not_eq_false,Nat.not_lt]at b;obtain⟨b,c⟩:=b;rw[bB]at b;refine⟨oM,oM,c,λa d=>?_⟩;rw[List.any_eq_false]at P;have:=P a d;simp only[Bool.or_eq_true,Bool.not_eq_true',not_or,Bool.not_eq_false]at this;have:=bB.1 this.1;omega
def R_(P:fe c3 b3=0):∀a∈b3.bq,a.ku<(c3.length:Int):=by
 intro a c;unfold fe at P;split at P
 ·simp at P
 split at P
 ·simp at P
 split at P
 ·simp at P
 split at P
 ·simp at P
 ·rename_i b
  rw[Bool.not_eq_true,List.any_eq_false]at b;have:=b a c
  by_cases d:a.ku= -1
  ·omega
  ·have:Qd c3 a.ku 1=true:=by
    simpa[d]using this
   unfold Qd at this;simp only[QK]at this;have:=bB.1 this.1;omega
def vd(P:J.Cs e q=some b3):0<=e/\e<(J.types.length:Int)/\J.at e=J.types.getD e.toNat []/\0<=q/\q<((J.at e).length:Int)/\(J.at e).getD q.toNat ⟨0,0,false,[]⟩=b3/\b3∈J.at e:=by
 unfold aR.Cs at P;split at P
 ·rename_i a
  simp only[QK,bB]at a;refine⟨a.1.1,oM,?_,a.2.1,oM,by rw[QQ,P];rfl,QZ P⟩;unfold aR.at;rw[Zx (bB.2 a.1)]
 ·cases P
def at_mem(a:0<=e)(b:e<(J.types.length:Int)):J.at e∈J.types:=by
 unfold aR.at;rw[Zx (bB.2 ⟨a,oM⟩)];have P:e.toNat<J.types.length:=oM
 have:J.types.getD e.toNat []=J.types[e.toNat]:=by simp[QQ,P]
 rw[this];exact XY P
def LQ(n:di J=0){a c f arg:Int}(P:ko J a c f arg=0)(o:a9.length=(J.at a).length):
  Gv (J.at a) a9 c f arg/\0<=a/\a<(J.types.length:Int)/\(J.at a).length<=8:=by
 obtain⟨p,q,y⟩:=lS n;obtain⟨z,A,B,r⟩:=yN p;unfold ko at P
 cases d:J.Cs a c with
 |none=>rw[d]at P;simp at P
 |some b=>
  rw[d]at P;simp only at P;obtain⟨g,h,C,s,t,u,v⟩:=vd d;split at P
  ·simp at P
  ·rename_i i
   split at P
   ·simp at P
   ·rename_i j
    simp only[Bool.or_eq_true,Bool.not_eq_true',not_or,Bool.not_eq_false]at i j;have k:=bB.1 i.1;have l:=at_mem g h;refine⟨⟨s,t,o,k.1,k.2,λw=>?_⟩,g,h,(r _ l).2⟩;rw[u];have x:=R_ (q _ l b v);have e:within arg 0 (b.bq.length-1)=true:=by
     have:=j.2;simp only[QK,beq_iff_eq,Bool.not_eq_true',not_and,Bool.not_eq_false]at this;exact this w
    have e:=bB.1 e;have m:arg.toNat<b.bq.length:=oM
    refine⟨e.1,oM,?_⟩;have:b.bq.getD arg.toNat ⟨0,0,0,0⟩=b.bq[arg.toNat]:=by simp[QQ,m]
    rw[this];exact x _ (XY m)
structure aY.OK (V:aY):Prop where
 decl:di V.decl=0
 st:∀x∈V.et,x.2.cells.length=(V.decl.at x.1.1).length
def LR(a:List bj)(P:List cQ)(b c arg:Int):(Qt a P b c arg).length=P.length:=by
 unfold Qt
 simp only;split
 ·simp
 split
 ·simp
 split
 ·simp
 split
 ·simp
 split
 ·simp
 ·rfl
def aY.cellsOf(a:aY)(P:aj):List cQ:=match az a.et (P.aX,P.agg)with
 |some b=>b.cells
 |none=>dK (a.decl.at P.aX)
def aY.OK.len(a:d1.OK)(P:aj):(d1.cellsOf P).length=(d1.decl.at P.aX).length:=by
 unfold aY.cellsOf
 cases b:az d1.et (P.aX,P.agg)with
 |none=>simp[dK]
 |some c=>exact a.st _ (bW b)
def aY.qJ(a:aY)(P:aj):a.try P=if ko a.decl P.aX P.field P.op P.arg≠0 then(true,(0,0),a)else
  match((az a.done (P.aX,P.agg,P.field)).getD []).find? λb=>lF ((a.decl.at P.aX).getD P.field.toNat ⟨0,0,false,[]⟩) b P with
  |some b=>(true,bd b,a)
  |none=>if vo (a.decl.at P.aX) (a.cellsOf P) P.field P.op P.arg≠0 then(true,(0,0),a)else
   (false,(0,0),{a with et:=aK a.et (P.aX,P.agg) ⟨om (((az a.et (P.aX,P.agg)).getD ⟨0,[]⟩).version+1),Qt (a.decl.at P.aX) (a.cellsOf P) P.field P.op P.arg⟩,done:=aK a.done (P.aX,P.agg,P.field) ((az a.done (P.aX,P.agg,P.field)).getD []++[P])}):=rfl
def aY.Qb(P:d1.OK)(b:aj):(d1.try b).2.2.OK/\(d1.try b).2.2.decl=d1.decl:=by
 rw[aY.qJ];split
 ·exact⟨P,rfl⟩
 split
 ·exact⟨P,rfl⟩
 split
 ·exact⟨P,rfl⟩
 ·refine⟨⟨P.decl,λc a=>?_⟩,rfl⟩
  rcases eW a with rfl|a
  ·show(Qt _ _ _ _ _).length=_
   rw[LR,P.len]
  ·exact P.st c a
def aY.yR(b:d1.OK)(P:aj):(d1.add P).2.OK/\(d1.add P).2.decl=d1.decl:=by
 obtain⟨a,c⟩:=aY.Qb b P;exact⟨⟨a.decl,a.st⟩,c⟩
def aY.se(P:di J=0):(aY.new J).OK:=⟨P,λb a=>by cases a⟩

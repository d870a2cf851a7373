import Derived.Test.YtjgjkeponbeekaaGreatDoorYkCodeR
import Derived.Lib.AppendZerosOnto
import Derived.Lib.Overlaps
set_option maxHeartbeats 4000000
set_option linter.all false
set_option maxRecDepth 20000
open Go.IntKind renaming wrap→ZG
namespace Go.Proofs.YtjgjkeponbeekaaGreatDoor
open Go.aw
variable{Y m:Array Value}{b3 s:List Int}{a4:List Value}{a:Nat}{f:ZN}{d:WP}{h:Program}{j:Type}{C g p:TypeId}{o t:ZR}{b:World}{N l:ah}{B:au}
def fK{c:ky j}{q l:Nat}{r:List j}{bytes:Nat}{M:Nat×Nat}{x:j}(k:aV c g f b d q l r)(I:kQ h p g c.k bytes)(N:b.heap[a]? =some (.cells m g M)){D:ZN}(z:c.rep b D x m.toList)(s:∀n,D n->n<b.heap.size/\aG d≠some n)(P:(r.length+1)*bytes<=aT)(O:r.length+1<=maxLen)(A:∀u i B v,aV c g v B u (q+1) i (r++[x])->aj (λF=>aG d=some F) b B->(∀n,v n->f n\/D n\/b.heap.size<=n)->o (.slice u (q+1) i) B):
  aJ h (Builtin.append_ #[p,p] C #[.slice d q l,.slice (ZM a) 1 1]) b o t:=by
 have J:=k.len I.pos;obtain⟨cs,Q,R,S,w⟩:=k.body;have V:=c.len z;refine Ae I (news:=m.toList) R N (by rw[Qz oM]) oM (c.one z) (by rw[J];exact P) (by rw[J];exact O) λu T y K L E=>?_;have H:aj (λF=>aG d=some F) b y:=(L.mono λ_ _ k=>k.symm)
 let v:ZN:=λn=>f n\/D n\/(b.heap.size<=n/\n<y.heap.size)
 have W:b.heap.size<=y.heap.size:=L.size;refine A u T y v ⟨⟨_,λn=>Q n\/D n,K,bV.append ((S.keep H λn P=>(w n P).2).mono λn P=>.inl P) (bV.one (c.mono (c.keep z H λn P=>(s n P).2) λn P=>.inr P)),?_⟩,?_,?_⟩ H ?_
 ·intro n P
  have X:n<b.heap.size:=P.elim (λe=>k.aE n (w n e).1) λe=>(s n e).1;refine⟨P.elim (λe=>.inl (w n e).1) λe=>.inr (.inl e),?_⟩;rcases E with E|E
  ·rw[E];exact P.elim (λe=>(w n e).2) λe=>(s n e).2
  ·rw[E];intro U;cases U;omega
 ·intro n P
  rcases E with E|E
  ·exact .inl (k.self n (E▸P))
  ·have:=K.lt P
   rw[E]at P;cases P;exact .inr (.inr ⟨oM,this⟩)
 ·rintro n (P|P|P)
  ·have:=k.aE n P;omega
  ·have:=(s n P).1;omega
  ·exact P.2
 ·rintro n (P|P|P)
  ·exact .inl P
  ·exact .inr (.inl P)
  ·exact .inr (.inr P.1)
def Mv{D h:ZN}(c:Row aP 8 b D d a s)(e:Row aP 8 b h d a b3):s=b3:=by
 have o:=c.len;have p:=e.len;apply List.ext_getElem oM;intro i j k;obtain⟨q,r,t,l,f,-,m⟩:=c.oF (i:=i) oM;obtain⟨u,v,w,n,g,-,P⟩:=e.oF (i:=i) oM;rw[l]at n;cases n
 rw[m]at P;cases P
 rw[Qq j]at f;rw[Qq k]at g;rw[XJ f,XJ g]
section
def CI(b:World)(D:ZN)(c:au)(d:List Value)(n:ah):Prop:=∃P a e,d=[kN n P a e]/\Row aP 8 b D P a n.aN/\n.Ok/\n∈c.l
def sg{n P:Type}(b:n->P->Prop):List n->List P->Prop
 |[],[]=>True
 |a::c,d::e=>b a d/\sg b c e
 |_,_=>False
def sg.snoc{n P:Type}{a:n->P->Prop}{b:n}{c:P}(d:a b c):∀{e:List n} {f:List P},sg a e f->sg a (e++[b]) (f++[c])
 |[],[],_=>⟨d,trivial⟩
 |_::_,_::_,g=>⟨g.1,sg.snoc d g.2⟩
def sg.length{n P:Type}{c:n->P->Prop}:∀{a:List n} {b:List P},sg c a b->a.length=b.length
 |[],[],_=>rfl
 |_::_,_::_,d=>by simp[sg.length d.2]
def CI.unique{D:ZN}(P:CI b D B a4 l)(a:CI b D B a4 N):l=N:=by
 obtain⟨e,f,g,rfl,c,-,-⟩:=P;obtain⟨h,i,j,n,d,-,-⟩:=a;simp only[aH,List.cons.injEq,Value.agg.injEq,Array.mk.injEq,Value.int.injEq,XX,and_true,true_and]at n;obtain⟨k,m,o,⟨rfl,rfl,rfl⟩,p,q,r,s,t,u⟩:=n;have:=Mv c d
 cases l;cases N;simp_all
def sg.unique{P:World}{D:ZN}{a:au}:∀{n:List (List Value)} {b c:List ah},sg (CI P D a) n b->sg (CI P D a) n c->b=c
 |[],[],[],_,_=>rfl
 |_::_,_::_,_::_,d,e=>by rw[d.1.unique e.1,sg.unique d.2 e.2]
variable {w w9 w1 A B:World} {p bo:Nat} {F:ZN} {S:au} {q:Sz} {Pr:ah->Bool} {s:World×(ZN)} {pre:List (List Value)}
structure SJ (w9:World) (bo:Nat) (D:ZN) (S:au) (Pr:ah->Bool) (s:World×(ZN)) (pre:List (List Value)) (A:World):Prop where
 keep:aj (·=bo) w9 A
 own:aj (dS s.2) s.1 A
 out:∀b,s.2 b->b≠w9.heap.size/\b≠w9.heap.size+1/\b≠bo
 aE:∀b,s.2 b->b<A.heap.size
 fj:w9.heap.size+2<=A.heap.size
 nx:∃a n c G L,A.heap[bo]? =some (.cells #[.slice a n c] 59 (0,0))/\aV ku 63 G A a n c (L.filter Pr)/\(∀b,G b->w9.heap.size+2<=b/\¬s.2 b)/\sg (CI w9 D S) pre L/\L.length<=S.l.length
def SJ.af(P:SJ w9 bo q.D S Pr s pre A)(n:ai A B):SJ w9 bo q.D S Pr s pre B:=by
 obtain⟨a,b,c,d,e,f,g,h,G,i,j,k,l,m⟩:=P;exact⟨a.af n,b.af n,c,λo p=>Qk (d o p) n.size,Xx e n.size,f,g,h,G,i,n.get j id,k.af n,l,m⟩
def SJ.fk(t:bo<w9.heap.size)(b:SJ w9 bo q.D S Pr s pre A)(e:qQ (w9.heap.size+1) A B):SJ w9 bo q.D S Pr s pre B:=by
 obtain⟨f,g,c,h,u,i,j,k,G,l,m,o,d,p⟩:=b;obtain⟨a,v⟩:=e;exact⟨f.new a λn P=>.inr oM,g.trans a (λ_ _ b=>b) λn _ P r=>(c n r).2.1 P,c,λn P=>by have:=h n P;omega,oM,i,j,k,G,l,a.get m oM,o.keep a λn P w=>by have:=(d n P).1;omega,d,p⟩
def SJ.re(n:SJ w9 bo q.D S Pr s pre A):SJ w9 bo q.D S Pr (A,s.2) pre A:=⟨n.keep,aj.refl _,n.out,n.aE,n.fj,n.nx⟩
def SB{R:ZU}(c1:bo<w9.heap.size)(hS:S.OK)(e:sf w9 p F S q)(v:∃c a3,w9.heap[a]? =some (.cells #[.map (some q.r)] c a3))(w:a≠bo)(x:¬F bo)(y:∀A B,R A->aj (oR w9) A B->R B)(hy:∀s pre m A,SJ w9 bo q.D S Pr s pre A->R A->tV [kN sH none 0 0] m->(pre.length<S.l.length/\∃c,CI w9 q.D S m c)->kD ZP (w9.heap.size+1) m A λn z=>n=true/\SJ w9 bo q.D S Pr s (pre++[m]) z/\R z)(o:SJ w9 bo q.D S Pr (w9,no) [] w1)(a7:R w1):
  PP 216 #[.func (.yield (w9.heap.size+1)) #[] #[],ZL a] w1 (Ok λa4 f=>R f/\∃s k,SJ w9 bo q.D S Pr s k f/\∃r,sg (CI w9 q.D S) k r/\r.Perm S.l):=by
 obtain⟨e2,f2,v⟩:=v;have c2:=e.map.lt;have a8:sf w1 p F S q:=e.keep o.keep λn P c=>x (c▸P);have hD:∀n,q.D n->n<w9.heap.size/\n≠bo:=λn P=>⟨e.aE n (e.sub n (.inr (.inr (.inr P)))),λc=>x (c▸e.sub n (.inr (.inr (.inr P))))⟩
 have c3:=o.fj;have c4:q.r≠bo:=λc=>x (c▸e.sub _ (.inr (.inl rfl)));refine dB ⟨_,ae (o.keep.get v w) rfl,mapRange Sx a8.map λN b0 t s6=>?_⟩;obtain⟨j1,j2,j3,jd,j5,ja,jn,jc,G0,L0,j4,O,Q,j8⟩:=o;have b1:SJ w9 bo q.D S Pr (N,λn=>n=w1.heap.size\/n=q.r) [] N:=by
  refine⟨j1.af t,aj.refl _,λn P=>by rcases P with rfl|rfl<;>omega,λn P=>by rcases P with rfl|rfl<;>omega,oM,ja,jn,jc,G0,L0,t.get j4 id,O.af t,λn P=>⟨(Q n P).1,λc=>?_⟩,j8⟩;rcases c with rfl|rfl
  ·have:=O.aE _ P;omega
  ·have:=(Q _ P).1;omega
 refine⟨λT f=>∃pre left b j,T=left.length/\cT f w1.heap.size q.r Fu q.l left/\fI (Us w9 q.D) left b/\sg (CI w9 q.D S) pre j/\(j++b.map (·.2)).Perm S.l/\SJ w9 bo q.D S Pr (f,λn=>n=w1.heap.size\/n=q.r) pre f/\R f,
  ⟨_,[],q.l,q.L,[],rfl,b0,e.rel,trivial,by simpa using e.Xl,b1,y _ _ a7 (ai.keep t)⟩,?_⟩
 rintro T _ c5 ⟨pre,left,b,j,rfl,hr,U,C,E,V,W⟩;refine ot hr (λh0=>.inl ⟨rfl,?_⟩) (λc6 a4 l1 l2 H a6 a9 b2 u c7=>.inr ⟨_,_,rfl,?_⟩)
 ·subst h0
  obtain rfl:b=[]:=by
   have:=U.length;simp at this;exact QW this.symm
  exact Ok.mk ⟨W,_,pre,V,j,C,by simpa using E⟩
 subst a6;obtain⟨X,d,Y,rfl,⟨g,h,i,rfl,Z,a0⟩,b3⟩:=U.Za;have a1:d∈S.l:=E.mem_iff.1 sM;have a2:((j++[d])++(X++Y).map (·.2)).Perm S.l:=by
  refine List.Perm.trans ?_ E;simp only[Q3,QY,XQ,List.singleton_append];exact List.Perm.append_left _ List.perm_middle.symm
 have b4:pre.length<S.l.length:=by
  have I:=a2.length_eq;have w:=C.length;simp at I;omega
 have b5:SJ w9 bo q.D S Pr (H,λn=>n=w1.heap.size\/n=q.r) pre H:=by
  obtain⟨I,w,h3,hd,h5,g,h,i,G,r,h4,h6,h7,h8⟩:=V;exact⟨I.new u λn P=>.inr oM,aj.refl _,h3,λn P=>by have:=hd n P;omega,oM,g,h,i,G,r,u.get h4 (λc=>(h3 _ (.inl rfl)).2.2 c.symm),h6.keep u λn P c=>(h7 n P).2 (.inl c),h7,h8⟩
 have b6:=y _ _ W (u.mono λn _ P=>(⟨oM,oM⟩:oR w9 n));refine rr b2 ⟨_,_,_,_,_,_,_,_,_,_,_,_,_,rfl,PA.mk λc8 J c9 b7=>aC (bg d g h i) b7 rfl λa5 K d0 b8=>ar (bg d g h i) b8 ⟨_,rfl,(hy _ pre _ a5 ((b5.af (J.new K λn P=>.inr oM)).re) ?_ ?_ ⟨b4,d,g,h,i,rfl,Z,a0,a1⟩).mono ?_⟩⟩
 ·exact y _ _ b6 (ai.keep (J.new K λn P=>.inr oM))
 ·exact λφ L=>L d.origin d.seq d.aB g h i d.aZ d.agg d.field d.op d.arg d.key
 ·rintro _ z ⟨rfl,l,b9⟩
  have c0:ai H a5:=J.new K λn P=>.inr oM;refine al.ff rfl ⟨_,?_,pre++[_],l1++l2,X++Y,j++[d],rfl,(a9.af c0).keep l.own (λM=>M (.inl rfl)) (λM=>M (.inr rfl)),b3,C.snoc ⟨g,h,i,rfl,Z,a0,a1⟩,a2,l.re,b9⟩;simp
def CK(c:cI w p F S)(hl:S.l.length<=20000000)(hg:enters ZP a=true)(hp:∀b i y M D w1,ai w w1->Row aP 8 w1 D i y b.aN->b.Ok->b∈S.l->PP a (m++ #[kN b i y M]++Y) w1 (Ok λz C=>z= .bool (Pr b)/\ai w1 C)):
  PP 93 #[ZL p,.func (.func a) m Y] w (Ok (qC ku 63 w (S.l.filter Pr))):=by
 have fO:=c;obtain⟨W,q,c⟩:=c;refine vF (PA.mk λj k3 s3 g3=>PA.mk λN k4 s4 g4=>?_);have b4:=k3.then k4;have c7:=c.af b4;refine⟨p,0,rfl,_,ae c7.at' rfl,PC.ok (φ:=λz C=>z= .func (.func 216) #[] #[ZL N.heap.size]/\(∃b c8,C.heap[N.heap.size]? =some (.cells #[.map (some q.r)] b c8))/\ai N C/\C.heap.size=N.heap.size+1)
  (dT (PA.mk λw5 E s5 g5=>Ok.mk ⟨rfl,⟨_,_,g5⟩,E,s5⟩)) ?_⟩
 rintro _ w9 ⟨rfl,c9,X,s9⟩;have Z:=b4.then X;have b5:=c.af Z;have hw:=c.aE;have b6:=aA c.at';have d0:=X.get (k4.get g3 id) id;have d1:=X.get g4 id;have b7:¬F j.heap.size:=λhf=>by have:=hw _ hf;omega
 have a0:j.heap.size<w9.heap.size:=oM
 refine⟨_,rfl,216,_,rfl,kR,World×(ZN),(w9,no),SJ w9 j.heap.size q.D S Pr,λ_ _ _=>False,
  λpre vs=>pre.length<S.l.length/\∃b,CI w9 q.D S vs b,λf=>∃d,sg (CI w9 q.D S) f d/\d.Perm S.l,?_,λs pre A B k g=>k.fk a0 g,λ_ _ _ _ c _=>c,?_,?_,?_,trivial⟩
 ·intro w6 k6 s6
  exact⟨ai.keep k6,ai.keep k6,λP n=>n.elim,λP n=>n.elim,oM,none,0,0,λ_=>False,[],k6.get d1 id,aV.nil _,λP n=>n.elim,trivial,Qj _⟩
 ·rintro s pre A k f8 t1 t2 t3 r tn t t4 t5 t6 t7 t8 t9 ⟨f9,b,i,y,M,he,hr,O,a1⟩
  simp only[aH,List.cons.injEq,Value.agg.injEq,Array.mk.injEq,Value.int.injEq,XX,and_true,true_and]at he;obtain⟨rfl,rfl,rfl,⟨rfl,rfl,rfl⟩,rfl,rfl,rfl,rfl,rfl,rfl⟩:=he;refine PA.mk λg0 d2 g1 d3=>aC (bg b r tn t) d3 rfl λd4 d5 g2 d6=>?_;have k2:ai A d4:=d2.new d5 λP n=>.inr oM;refine⟨ai.keep k2,λb8 g=>?_⟩;have H:=(k.af k2).fk a0 g;have b9:=g.1.get d6 oM;have g6:=g.2;have c0:∀P,q.D P->P<w9.heap.size/\P≠j.heap.size:=λP n=>⟨b5.aE P (c.sub P (.inr (.inr (.inr n)))),λb=>b7 (b▸c.sub P (.inr (.inr (.inr n))))⟩
  have c1:=hr.keep H.keep λP n=>(c0 P n).2;have d7:ai w b8:=Z.new H.keep λP n=>.inr oM;refine⟨_,ae (H.keep.get d0 oM) rfl,ar (bg b r tn t) b9 ⟨a,m,Y,rfl,hg,PC.ok (hp b r tn t _ b8 d7 c1 O a1) ?_⟩⟩;rintro _ d8 ⟨rfl,a2⟩;refine⟨_,rfl,al.mk (λg=>λc2 d9=>?_) (λhf=>?_)⟩
  ·have e0:ai d8 c2:=d9.keep
   have Q:=a2.then e0;have e1:=H.af Q;obtain⟨I,R,J,u,h5,T,ln,lc,G,d,l,h,e,o,h9⟩:=e1;have e2:=c1.af Q;have b6:=o.length;refine⟨no,id,_,_,_,ae l rfl,ar (bg b r tn t) (Q.get b9 id) (PC.ok (nw e2 λP n=>by have:=(c0 P n).1;omega) ?_)⟩;rintro _ g7 ⟨e3,cn,cc,G2,rfl,e4,U,a3⟩;have g8:=a3.size;refine⟨_,_,_,_,_,_,_,_,_,_,_,_,rfl,ai.keep a3,PA.mk λg9 a4 h0 e5=>⟨ai.keep a4,?_⟩⟩;have kk:=a3.then a4;refine fK (c:=ku) (h.af kk) Kh e5 (D:=G2) (x:=b) ⟨e3,cn,cc,rfl,e4.af a4,O⟩ (λP n=>⟨by have:=U P n;omega,λb=>by have:=U P n;have:=h.aE _ (h.self _ b);omega⟩) ?_ ?_ λa' K h1 F' e6 a5 c4=>⟨_,_,_,rfl,?_⟩
   ·have:=List.length_filter_le Pr d;unfold aT;omega
   ·have:=List.length_filter_le Pr d;unfold maxLen;omega
   have V:=h.self;have a6:¬aG T=some j.heap.size:=λb=>by have:=(e _ (V _ b)).1;omega
   have e7:=a5.get (kk.get l id) a6;refine PS.mk e7 sM λe8 c5 h2 e9=>?_;have E:aj (λP=>aG T=some P\/P=j.heap.size) c2 e8:=((ai.keep kk).then (a5.mono λP _ n=>.inl n)).then (c5.mono λP _ n=>.inr n);have h3:=a5.size;refine⟨(ai.keep Q).trans E (λ_ _ c=>c) λP _ n=>?_,?_⟩
   ·rcases n with n|rfl
    ·have:=(e _ (V _ n)).1;exact⟨oM,oM⟩
    ·exact⟨oM,oM⟩
   refine⟨I.new E ?_,R.trans E (λ_ _ c=>c) λP _ n v=>?_,J,λP n=>by have:=u P n;omega,oM,a',ln+1,K,F',d++[b],?_,?_,?_,o.snoc ⟨r,tn,t,rfl,hr,O,a1⟩,?_⟩
   ·rintro P (n|n)
    ·exact .inr (by have:=(e _ (V _ n)).1;omega)
    ·exact .inl n
   ·rcases n with n|n
    ·exact(e _ (V _ n)).2 v
    ·exact(J P v).2.2 n
   ·rw[e9];rfl
   ·have a7:(d++[b]).filter Pr=d.filter Pr++[b]:=by rw[List.filter_append];simp[g]
    rw[a7];refine e6.keep c5 λP n b=>?_;rcases c4 P n with n|n|n
    ·have:=(e P n).1;omega
    ·have:=U P n;omega
    ·omega
   ·intro P n
    rcases c4 P n with n|n|n
    ·exact e P n
    ·have:=U P n;exact⟨oM,λv=>by have:=u P v;omega⟩
    ·exact⟨oM,λv=>by have:=u P v;omega⟩
   ·simp;omega
  ·refine⟨ai.keep a2,?_⟩
   obtain⟨I,R,J,u,h5,T,ln,lc,G,d,l,h,e,o,h9⟩:=H.af a2;have b6:=o.length;refine⟨I,R,J,u,h5,T,ln,lc,G,d++[b],l,?_,e,o.snoc ⟨r,tn,t,rfl,hr,O,a1⟩,by simp;omega⟩;have a7:(d++[b]).filter Pr=d.filter Pr:=by rw[List.filter_append];simp[hf]
   rw[a7];exact h
 ·intro f0 Rx hR _ h4 hy w6 f1 f2
  refine Calls.mono (SB (R:=f0) a0 W b5 c9 oM b7 hR (λs pre vs A k f3 g hN=>(hy s pre vs A k f3 g hN).mono ?_) f1 f2) ?_
  ·rintro P A' (c|⟨-,x,c,-⟩)
   ·exact c
   ·exact c.elim
  ·rintro _ A' ⟨z,rfl,f4,s,f,a8,hT⟩
   exact⟨⟨z,rfl⟩,.inl ⟨f4,s,f,a8,hT⟩⟩
 ·rintro s f A k ⟨L',f5,f6⟩ hm
  obtain⟨I,R,J,u,h5,i,y,M,G,d,l,h,e,o,h9⟩:=k;obtain rfl:=sg.unique o f5;have a9:(d.filter Pr).Perm (S.l.filter Pr):=f6.filter _;refine⟨_,_,_,ae l rfl,PC.ok (JV h (by rw[a9.length_eq];exact Xx (List.length_filter_le ..) hl)) ?_⟩;rintro _ i0 ⟨rfl,l',L,b0,b1,b2⟩;have b3:=h.self;have a6:¬aG i=some j.heap.size:=λb=>by have:=(e _ (b3 _ b)).1;omega
  have f7:¬aG i=some w9.heap.size:=λb=>by have:=(e _ (b3 _ b)).1;omega
  refine⟨rfl,_,_,_,ae (b2.get l a6) rfl,b2.get hm f7,λi1 ⟨c6,i2⟩=>Ok.mk ?_⟩;have c3:=List.filter_sublist (p:=Pr) (l:=S.l);obtain rfl:l'=S.l.filter Pr:=Mw b0 (W.Qi.sublist c3) (L.trans a9) (((L.trans a9).map bd).nodup_iff.2 (W.ids.sublist (c3.map _)));refine⟨i,y,M,G,rfl,b1.keep c6 λP n b=>by have:=(e P n).1;omega,?_,λP n=>by have:=(e P n).1;omega⟩;exact((Z.new I λP n=>.inr oM).new b2 λP n=>.inr (by have:=(e P (b3 P n)).1;omega)).new c6 λP n=>.inr oM
end
end Go.Proofs.YtjgjkeponbeekaaGreatDoor
namespace Go.aw
variable{s:List Int}{a:Nat}{f:ZN}{d:WP}{j:Type}{g:TypeId}{b:World}
def Row.tU{D:ZN}(n:Row aP 8 b D d a s):Ints b d a s:=by
 have m:=n.len;refine⟨m,n.fj,λg o=>?_,λi g P=>?_⟩
 ·obtain⟨i,P,rfl⟩:=List.getElem_of_mem o
  obtain⟨h,j,p,f,c,k,l⟩:=n.oF (i:=i) oM;rw[Qq P]at c;rw[XJ c];exact k
 ·have r:=(Qv.1 P).1
  obtain⟨h,j,t,f,q,u,v,w⟩:=n.el i g P;obtain⟨x,y,p,e,c,k,l⟩:=n.oF (i:=i) oM;rw[P]at c;rw[f]at e;cases e
  exact⟨h,j,f,q,by rw[l,XJ c]⟩
def Own.take{b:World}{c:TypeId}{k:Nat}{d:WP}{P e m:Nat}{cs:List Value}(f:Own b c k d P e cs)(g:m<=P):Own b c k d m e (cs.take (m*k)):=by
 have h:=f.length;have i:m*k<=P*k:=Q0 _ g;refine⟨⟨by rw[Qy,h];omega,?_⟩⟩;rcases f.row.2 with⟨n,rfl⟩|⟨j,l,a,n,o,p,t,q,r,s⟩
 ·obtain rfl:m=0:=oM
  exact .inl ⟨n,rfl⟩
 ·simp only[XX]at n
  refine .inr ⟨j,l,a,by rw[n.1,n.2.2],o,p,oM,q,r,?_⟩;rw[<-s,List.take_take,X2 i]
def aV.take{a:ky j}{c n m:Nat}{e:List j}(P:aV a g f b d c n e)(h:m<=c):aV a g f b d m n (e.take m):=by
 obtain⟨cs,D,i,k,l⟩:=P.body;exact⟨⟨_,D,i.take h,k.take m,l⟩,P.self,P.aE⟩
end Go.aw
namespace Go.Proofs.YtjgjkeponbeekaaGreatDoor
section
open Go.aw
variable{e:Int}{s:List Int}{a c:Nat}{d:WP}
section
variable {w w' w1:World} {p:Nat} {F T:ZN} {S:au} {q:Sz}
def si(c:cI w p F S)(n:S.l.length<=20000000):PP 59 #[ZL p] w (Ok (qC ku 63 w S.l)):=by
 refine xi (PC.ok (CK c n (Pr:=λ_=>true) kR λg P a b D w1 h i j k=>?_) ?_)
 ·exact ug (PA.mk λl d m o=>Ok.mk ⟨rfl,d⟩)
 ·rintro _ q ⟨P,a,b,G,rfl,n,e,f⟩
  rw[List.filter_eq_self.2 sM]at n;exact⟨_,_,_,rfl,Ok.mk ⟨P,a,b,G,rfl,n,e,f⟩⟩
def yM(q:cI w p F S)(r:S.l.length<=20000000){D:ZN}(t:Row aP 8 w D d a s):
  PP 122 #[ZL p,.slice d a c,ZH e] w (Ok (qC ku 63 w (S.missing s e))):=by
 refine qU (PA.mk λw1 g E u=>PC.ok (CK (q.af g) r (Pr:=λn=>decide (max 0 (fV s n.origin)<n.seq)) kR λn j b k H I v J K L=>?_) ?_)
 ·refine pd (PA.mk λl m M f=>λx y=>⟨no,id,?_⟩)
  have h:ai l x:=y.keep;have f:=h.get f id;have o:=v.then (m.then h);refine⟨_,ae f rfl,_,_,_,ae (o.get u id) rfl,_,ae f rfl,PC.ok (oP (t.tU.af (g.then o))) ?_⟩;rintro _ _ ⟨rfl,rfl⟩;refine⟨_,rfl,aj.refl _,Ok.mk ⟨?_,m.then h⟩⟩
  congr 1
  rw[decide_eq_decide];split<;>omega
 ·rintro _ l ⟨j,b,k,G,rfl,P,z,A⟩
  have N:=P.len dC;have O:=P.lA;have i:(if e>0 then e else 0)=max 0 e:=by split<;>omega
  refine⟨_,_,_,rfl,?_⟩;refine⟨by rw[i];split<;>omega,by rw[i];split<;>omega,Ok.mk ⟨j,_,k,G,rfl,?_,g.then z,λB C=>by have:=A B C;omega⟩⟩;rw[i];have:=P.take (m:=Int.toNat (if max 0 e<(b:Int)then max 0 e else(b:Int))) (by split<;>omega);unfold au.missing;have n:(List.filter (λn=>decide (max 0 (fV s n.origin)<n.seq)) S.l).take (Int.toNat (if max 0 e<(b:Int)then max 0 e else(b:Int)))=(List.filter (λn=>decide (max 0 (fV s n.origin)<n.seq)) S.l).take (max 0 e).toNat:=by
   split
   ·rfl
   ·rw[Qz oM,Qz oM]
  rw[<-n];exact this
def yP{P:Type}(p:P->Bool):∀n:List P,n.find? p=(n.filter p).head?
 |[]=>rfl
 |x::n=>by
  rw[List.find?_cons,List.filter_cons]
  cases p x
  ·exact yP p n
  ·rfl
def PB(C:cI w p F S)(q:S.l.length<=20000000){key:Int}:
  PP 126 #[ZL p,ZH key] w (Ok λE w'=>∃r s H G,E= .tuple #[kN ((S.keyed key).getD sH) r s H,.bool (S.keyed key).isSome]/\Row aP 8 w' G r s ((S.keyed key).getD sH).aN/\(∀n,G n->w.heap.size<=n/\n<w'.heap.size)/\ai w w'):=by
 refine uh (PA.mk λw1 l Z t=>PA.mk λw2 i s2 I=>PC.ok (CK ((C.af l).af i) q (Pr:=λP=>key !=0&&P.key==key) kR λP J K L D' M N hr u hm=>?_) ?_)
 ·refine qX (PA.mk λv c x e=>?_)
  have y:=(i.then N).then c;refine⟨_,ae (y.get t id) rfl,al.eO (λO=>⟨_,ae e rfl,_,ae (y.get t id) rfl,Ok.mk ⟨?_,c⟩⟩) (λu=>Ok.mk ⟨?_,c⟩)⟩
  ·rw[show(key !=0)=true by simpa using O];rfl
  ·rw[u];rfl
 ·rintro _ M ⟨J,K,L,G,rfl,a,m,z⟩
  have j:=a.len dC;have A:=m.get I id;have B:S.keyed key=(S.l.filter λP=>key !=0&&P.key==key).head? :=yP _ _;refine⟨_,_,_,rfl,al.eN (λQ=>?_) (λQ=>?_)⟩
  ·have:(S.l.filter λP=>key !=0&&P.key==key)=[]:=QW oM
   rw[B,this];refine aC (bg sH none 0 0) A rfl λv c x e=>ar (bg sH none 0 0) e (Ok.mk ⟨none,0,0,λ_=>False,rfl,Row.nil _ _,λn b=>b.elim,((l.then i).then m).new c λn b=>.inr oM⟩)
  ·cases k:S.l.filter λP=>key !=0&&P.key==key with
   |nil=>rw[k]at j;simp at j;omega
   |cons d R=>
    rw[k]at a j;have a0:(d::R).length<=20000000:=by rw[<-k];exact Xx (List.length_filter_le ..) q
    have T:=a.row (bytes:=96) dC ba;obtain⟨n,U,es,V,b,a1,W,f,g,h,rfl,X,a3⟩:=T.el 0 d rfl
    with_reducible (conv=>whnf)
    rw[B,k];refine⟨n,U,V,oM,by simp at j;omega,?_⟩;refine ck (es:=aH d f g h) (k:=10) (bg d f g h) rfl (λY o=>?_) (aC (bg d f g h) A rfl λv c x e=>ar (bg d f g h) e (Ok.mk ⟨f,g,h,G,rfl,?_,?_,?_⟩))
    ·have:=W Y o
     simpa using this
    ·exact X.keep c λn b P=>by have:=z n b;omega
    ·intro n b;have:=z n b;have:=a.aE n b;omega
    ·exact((l.then i).then m).new c λn b=>.inr oM
end
end
section
open Go.aw
variable{e q:Int}{s:List Int}{a c:Nat}{d:WP}{j:Type}
def Vj(P:a+c<4611686018427387904):ZG .i64 (kv .u64 (ZG .u64 (ZG .i64 ((a:Int)+(c:Int)))) 1)=(((a+c)/2:Nat):Int):=by
 rw[wrap_i64 (x:=(a:Int)+c) bc];have n:ZG .u64 ((a:Int)+(c:Int))=((a+c:Nat):Int):=by
  unfold ZG;simp[IntKind.signed,IntKind.bits];omega
 rw[n,show(1:Int)=((1:Nat):Int)from rfl,NP dC,wrap_i64 bc]
def posOf{n:Type}(P:n->Bool)(a:List n):Nat:=(a.takeWhile P).length
def AF(n:j->Bool)(P:List j):posOf n P<=P.length:=(List.takeWhile_sublist n).length_le
def AG{c:Type}{p:c->Bool}:∀{l:List c} {i:Nat},i<=l.length->(∀n x,n<i->l[n]? =some x->p x=true)->(∀x,l[i]? =some x->p x=false)->posOf p l=i
 |[],i,P,_,_=>by simp at P;subst P;rfl
 |x::l,0,_,_,e=>by
  have:=e x rfl;simp[posOf,this]
 |x::l,i+1,P,d,f=>by
  have g:=d 0 x oM rfl;have:=AG (p:=p) (l:=l) (i:=i) (by simpa using P) (λn a h b=>d (n+1) a oM (by simpa using b)) (λa b=>f a (by simpa using b));unfold posOf at this⊢;rw[List.takeWhile_cons,g];simp[this]
section
variable {w w':World} {D:ZN}
def Vk{w:World}:PP 341 #[ZH e] w (Ok λn w'=>n= .bool false/\w=w'):=tO (Ok.mk ⟨sM,rfl⟩)
def Qf{w:World}:PP 337 #[ZH e,ZH q] w (Ok λn w'=>n= .bool (decide (e<q))/\w=w'):=by
 refine AH (PC.ok isNaN ?_);rintro _ _ ⟨rfl,rfl⟩;exact⟨_,rfl,al.ff rfl (Ok.mk ⟨rfl,rfl⟩)⟩
abbrev wS(n:List Int):Prop:=n.Pairwise (·<·)
def tP(t:Row aP 8 w D d a s)(F:wS s):
  PP 311 #[.slice d a c,ZH e] w (Ok λH w'=>H= .tuple #[ZH (posOf (λn=>decide (n<e)) s:Nat),.bool (decide (e∈s))]/\w=w'):=by
 have N:=t.len;have I:=t.fj;unfold aT at I;have z:∀{i j:Nat} {n l:Int},s[i]? =some n->s[j]? =some l->i<=j->n<=l:=λ{i j n l} f m O=>by
  obtain⟨o,rfl⟩:=Qv.1 f;obtain⟨p,rfl⟩:=Qv.1 m;rcases Nat.lt_or_ge i j with h|h
  ·exact Int.le_of_lt (List.pairwise_iff_getElem.1 F i j o p h)
  ·obtain rfl:i=j:=oM
   exact Int.le_refl _
 refine jB ⟨λE i j w'=>∃P g:Nat,i=P/\j=g/\E=g-P/\P<=g/\g<=a/\(∀b n,b<P->s[b]? =some n->n<e)/\(∀b n,g<=b->s[b]? =some n->e<=n)/\w=w',
  ⟨_,0,a,rfl,rfl,rfl,oM,oM,λb n k=>oM,λb n k f=>by have:=(Qv.1 f).1;omega,rfl⟩,?_⟩
 rintro E _ _ _ _ ⟨P,g,rfl,rfl,rfl,Q,J,o,p,rfl⟩;refine al.dec (λR=>?_) (λS=>?_)
 ·rw[Vj oM]
  obtain⟨u,v,n,x,f,-,y⟩:=t.oF (i:=(P+g)/2) oM;refine⟨u,v,x,oM,oM,n,by rw[Qx];exact y,PC.ok Qf ?_⟩;rintro _ _ ⟨rfl,rfl⟩;refine⟨_,rfl,al.dec (λK=>⟨_,?_,(P+g)/2+1,g,an oM,rfl,rfl,oM,J,λb l k m=>?_,p,rfl⟩) (λK=>⟨_,?_,P,(P+g)/2,rfl,rfl,rfl,oM,oM,o,λb l k m=>?_,rfl⟩)⟩
  ·omega
  ·have:=z m f oM;omega
  ·omega
  ·have:=z f m k;omega
 ·obtain rfl:P=g:=oM
  have L:posOf (λn=>decide (n<e)) s=P:=AG oM (λb n k f=>by simpa using o b n k f) (λn f=>by have:=p P n (Q4 _) f;simp;omega);rw[L];have A:e∈s↔s[P]? =some e:=by
   constructor
   ·intro q
    obtain⟨b,k,rfl⟩:=List.getElem_of_mem q;have r:s[b]? =some s[b]:=Qq k;rcases Nat.lt_or_ge b P with h|h
    ·have:=o b _ h r;omega
    ·have B:P<s.length:=oM
     have T:=p P _ (Q4 _) (Qq B);have U:=z (Qq B) r h;rw[Qq B];congr 1;omega
   ·exact QZ
  refine al.dec (λM=>?_) (λM=>?_)
  ·obtain⟨u,v,n,x,f,-,y⟩:=t.oF (i:=P) oM
   refine⟨u,v,x,oM,oM,n,y,al.eN (λC=>Ok.mk ⟨?_,rfl⟩) (λC=>⟨u,v,x,oM,oM,n,y,PC.ok Vk ?_⟩)⟩
   ·rw[Zy (A.2 (C▸f))]
   ·rintro _ _ ⟨rfl,rfl⟩
    refine⟨_,rfl,al.ff rfl (Ok.mk ⟨?_,rfl⟩)⟩;rw[Xv];intro q;have:=A.1 q;rw[f]at this;exact C (XJ this)
  ·refine Ok.mk ⟨?_,rfl⟩
   rw[Xv];intro q;have:=(Qv.1 (A.1 q)).1;omega
end
def HH{P:Int}:∀{n:List Int},wS n->P∉n->qE P n=n.take (posOf (λy=>decide (y<P)) n)++P::n.drop (posOf (λy=>decide (y<P)) n)
 |[],_,_=>rfl
 |y::n,c,a=>by
  obtain⟨e,d⟩:=List.pairwise_cons.1 c;simp only[Q2,not_or]at a;unfold qE posOf
  by_cases b:P<y
  ·rw[Zx b,List.takeWhile_cons,Xv oM];rfl
  ·rw[Zq b,Zq a.1,List.takeWhile_cons,Zy (show y<P by omega),HH d a.2];rfl
def uS{a:Int}:∀{n:List Int},a∈n->wS n->qE a n=n
 |y::n,P,b=>by
  obtain⟨c,d⟩:=List.pairwise_cons.1 b;unfold qE;rcases Q2.1 P with rfl|P
  ·rw[Zq oM,Zx rfl]
  ·have:=c a P
   rw[Zq oM,Zq oM,uS P d]
def HI{a n:Int}:∀{P:List Int},n∈qE a P↔n=a\/n∈P
 |[]=>by simp[qE]
 |y::P=>by
  unfold qE;split
  ·simp
  ·split
   ·rename_i h;subst h;simp
   ·simp only[Q2,HI]
    constructor
    ·rintro(h|h|h)<;>simp[h]
    ·rintro(h|h|h)<;>simp[h]
def Eb{d:Int}:∀{P:List Int},wS P->wS (qE d P)
 |[],_=>List.pairwise_singleton ..
 |y::P,a=>by
  obtain⟨c,e⟩:=List.pairwise_cons.1 a;unfold qE;split
  ·rename_i f
   exact List.pairwise_cons.2 ⟨λb n=>by
    rcases Q2.1 n with rfl|n
    ·exact f
    ·have:=c b n;omega,a⟩
  ·split
   ·exact a
   ·refine List.pairwise_cons.2 ⟨λb n=>?_,Eb e⟩
    rcases HI.1 n with rfl|n
    ·omega
    ·exact c b n
def MH{P:Int}:∀{n:List Int},wS n->P∈n->(n.filter λy=>y !=P)=n.eraseIdx (posOf (λy=>decide (y<P)) n)/\posOf (λy=>decide (y<P)) n<n.length
 |y::n,e,b=>by
  obtain⟨d,f⟩:=List.pairwise_cons.1 e;rcases Q2.1 b with rfl|b
  ·have c:posOf (λy=>decide (y<P)) (P::n)=0:=by simp[posOf]
   rw[c];refine⟨?_,sM⟩;rw[List.filter_cons_of_neg sM,List.eraseIdx_zero,List.tail_cons];refine List.filter_eq_self.2 λa g=>?_;have:=d a g;simp;omega
  ·have h:=d P b
   obtain⟨i,j⟩:=MH f b;have c:posOf (λa=>decide (a<P)) (y::n)=posOf (λa=>decide (a<P)) n+1:=by simp[posOf,h]
   rw[c,List.filter_cons_of_pos be,List.eraseIdx_cons_succ,i];exact⟨rfl,by simp;exact j⟩
def HJ(n:e∉s):(s.filter λP=>P !=e)=s:=List.filter_eq_self.2 λb a=>by
 simp only[bne_iff_ne,ne_eq];rintro rfl;exact n a
end
end Go.Proofs.YtjgjkeponbeekaaGreatDoor
namespace Go.aw
open Go
variable{A:ZT}{F a c i r:Nat}{f:ZN}{X a1:Operand}{d x:WP}{j:Type}{g p:TypeId}{o t:ZR}{b:World}{y:ZU}
def wW{k:Program}{f bytes:Nat}{e:j->List Value}{l:j->Prop}{hl hone}(r:kQ k g p f bytes)(H:0<bytes){i:List j}{D:ZN}(h:Row (flat f e l hl hone) bytes b D d a i)(s:∀n,D n->n<b.heap.size)(u:∀v w,qC (flat f e l hl hone) p b i v w->A (.returned v) w):
  aJ k (do eqGuard .eql g X a1 (.slice d a c) (.slice none 0 0);binOp .eql g (.slice d a c) (.slice none 0 0)) b (λI m=>∃(x:Bool),I= .bool x/\al x (A (.returned (.slice none 0 0)) m) (PA m (.cells #[] p) λJ=>
   aJ k (Builtin.append_ #[g,g] g #[.slice (ZM m.heap.size) 0 0,.slice d a c]) J (λK L=>∃(y:WP) (z:Nat) (B:Nat),K= .slice y z B/\A (.returned (.slice y z B)) L) o)) t:=by
 have C:=h.len;have P:=h.fj;refine k_ r.under ⟨_,rfl,al.mk (λq=>?_) (λq=>PA.mk λM E Z N=>?_)⟩
 ·have:i=[]:=by
   cases d with
   |none=>
    cases i with
    |nil=>rfl
    |cons X a0=>obtain⟨n,O,es,Q,_⟩:=h.el 0 X rfl;cases Q
   |some R=>cases q
  subst this;exact u _ _ ⟨none,0,0,λ_=>False,rfl,aV.nil b,aj.refl _,λ_ h=>h.elim⟩
 ·cases d with
  |none=>cases q
  |some R=>
   have S:aV (flat f e l hl hone) p (·=b.heap.size) M (ZM b.heap.size) 0 0 []:=
    ⟨⟨[],λ_=>False,Own.AD (cur:= #[]) N sM (Qj _),rfl,λ_ h=>h.elim⟩,λn P=>by simpa[aG]using P.symm,λn P=>oM⟩
   have T:a<=maxLen:=by
    unfold aT at P;unfold maxLen;have:a*1<=a*bytes:=Nat.mul_le_mul_left _ H;omega
   refine lK S r (D:=D) (h.af E) (λn P=>⟨by have:=s n P;omega,by have:=s n P;simp only[aG];intro p;cases p;omega⟩) (by rw[ZQ,Xz,<-C];exact P) (by rw[ZQ,Xz,<-C];exact T) λF U w2 F' V W _ Y=>?_;refine⟨_,_,_,rfl,u _ _ ⟨F,_,U,λn=>aG F=some n,rfl,by have h:=V.alone;rw[List.nil_append]at h;exact h,E.new W λn P=>.inr ?_,λn P=>?_⟩⟩
   ·simp only[aG,Q1]at P;omega
   ·rcases Y n P with h|h<;>omega
structure Bx (α:Type) where
 x:α
 a:WP
 n:Nat
 c:Nat
structure fl (α β:Type) where
 k:Nat
 ci:ky β
 ib:Nat
 inner:α->List β
 hd:α->WP->Nat->Nat->List Value
 ok:α->Prop
 hl:∀x a n c,(hd x a n c).length=k
 h1:∀x a n c,∀u∈hd x a n c,u.oneCell'=true
 o:Nat
 ho:o<k
 fO:∀x a n c a' n' c',(hd x a n c).set o (.slice a' n' c')=hd x a' n' c'
section
variable {α β:Type} (N:fl α β)
def fl.kr:ky (Bx α):=flat N.k (λn=>N.hd n.x n.a n.n n.c) (λ_=>True) (λn=>N.hl ..) (λn=>N.h1 n.x n.a n.n n.c)
def fl.NU:ky α where
 k:=N.k
 rep:=λh D c cs=>∃n P a,cs=N.hd c n P a/\Row N.ci N.ib h D n P (N.inner c)/\N.ok c
 keep:=λ⟨n,P,a,b,d,e⟩ i f=>⟨n,P,a,b,d.keep i f,e⟩
 mono:=λ⟨n,P,a,b,d,e⟩ f=>⟨n,P,a,b,d.mono f,e⟩
 len:=λ⟨n,P,a,b,_,_⟩=>by rw[b];exact N.hl ..
 one:=λ⟨n,P,a,b,_,_⟩ j g=>by rw[b]at g;exact N.h1 _ _ _ _ j g
variable {N} {w w':World} {D:ZN}
def fl.In(N:fl α β)(w:World)(D:ZN)(n:Bx α):Prop:=Row N.ci N.ib w D n.a n.n (N.inner n.x)/\N.ok n.x
def fl.In.keep{S:ZN}{n:Bx α}(P:N.In w D n)(a:aj S w w')(b:∀n,D n->¬S n):N.In w' D n:=⟨P.1.keep a b,P.2⟩
def fl.In.mono{n:Bx α}(P:N.In w D n)(a:∀n,D n->f n):N.In w f n:=⟨P.1.mono a,P.2⟩
def fl.aD:∀{P:List α} {cs:List Value},bV N.NU w D P cs->∃n:List (Bx α),n.map (·.x)=P/\bV N.kr w D n cs/\∀a∈n,N.In w D a
 |[],_,c=>⟨[],rfl,c,sM⟩
 |x::P,_,⟨d,e,f,⟨g,h,i,j,k,l⟩,m⟩=>by
  obtain⟨n,o,p,q⟩:=fl.aD m;refine⟨⟨x,g,h,i⟩::n,by simp[o],⟨d,e,f,⟨j,trivial⟩,p⟩,λa b=>?_⟩;rcases Q2.1 b with rfl|b
  ·exact⟨k,l⟩
  ·exact q a b
def fl.Sc{a:ZN}:∀{n:List (Bx α)} {cs:List Value},bV N.kr w a n cs->(∀b∈n,N.In w D b)->bV N.NU w D (n.map (·.x)) cs
 |[],_,c,_=>c
 |b::n,_,⟨d,e,f,⟨g,_⟩,h⟩,P=>⟨d,e,f,⟨b.a,b.n,b.c,g,P b (QV ..)⟩,fl.Sc h λi j=>P i (QJ _ j)⟩
def fl.boxes{bytes:Nat}{b:List α}(c:Row N.NU bytes w D d a b):∃n:List (Bx α),n.map (·.x)=b/\Row N.kr bytes w D d a n/\∀h∈n,N.In w D h:=by
 obtain⟨cs,m,o⟩:=c.aD;obtain⟨n,i,p,q⟩:=fl.aD m;have e:n.length=b.length:=by rw[<-i];simp
 have r:0<N.NU.k:=Nat.lt_of_le_of_lt (Qj _) N.ho;refine⟨n,i,⟨by rw[e];exact c.len,c.fj,λB h f=>?_⟩,q⟩;have s:b≠[]:=by rintro rfl;rw[ZQ]at e;rw[QW e]at f;simp at f
 obtain⟨t,g,u,v,x,y⟩:=o s r;obtain⟨j,z,k⟩:=p.at f;refine⟨t,g,j,u,v,x,λl A=>?_,k⟩;have C:=N.kr.len k;have P:=z l A;rw[Qq (show l<j.length by omega)]at P⊢;rw[Nat.add_assoc];exact y _ _ P
def fl.unbox{b:List (Bx α)}(i:aV N.kr g f w d a c b)(P:∀n∈b,N.In w D n)(e:∀n,D n->n<w.heap.size/\aG d≠some n):aV N.NU g (λn=>aG d=some n\/D n) w d a c (b.map (·.x)):=by
 obtain⟨cs,k,h,j,l⟩:=i.body;refine⟨⟨cs,D,h,fl.Sc j P,λn P=>⟨.inr P,(e n P).2⟩⟩,λn P=>.inl P,λn P=>?_⟩;rcases P with P|P
 ·exact h.lt P
 ·exact(e n P).1
def fl.set{b:List (Bx α)}(k:aV N.kr g f w d a c b){n:Bx α}(l:b[i]? =some n){h P:Nat}(m:d=some ⟨h,P,none⟩)(e:∀j,aV N.kr g f j d a c (b.set i ⟨n.x,x,r,F⟩)->aj (λn=>aG d=some n) w j->j.heap.size=w.heap.size->y j):PS w ⟨h,P+i*N.k+N.o,none⟩ (.slice x r F) y:=
 aV.set (x':=⟨n.x,x,r,F⟩) k l N.ho (N.fO ..).symm m e
end
end Go.aw
namespace Go.Proofs.YtjgjkeponbeekaaGreatDoor
open Go.aw
def kV.Ok(n:kV):Prop:=aM n.bM/\aM n.mR/\aM n.lZ/\aM n.least
def oK(n:kV):List Value:=[ZH n.bM,ZH n.mR,ZH n.lZ,ZH n.least]
def jr:ky kV:=flat 4 oK kV.Ok (λ_=>rfl) (λP a n=>by simp[oK]at n;rcases n with rfl|rfl|rfl|rfl<;>rfl)
def ft(n:bu)(P:WP)(a b:Nat):List Value:=[ZH n.kind,ZH n.dW,.bool n.floor,.slice P a b]
def sG:ky bu where
 k:=4
 rep:=λh D c cs=>∃n P a,cs=ft c n P a/\Row jr 32 h D n P c.bG/\aM c.kind/\aM c.dW
 keep:=λ⟨n,P,a,b,d,e⟩ i f=>⟨n,P,a,b,d.keep i f,e⟩
 mono:=λ⟨n,P,a,b,d,e⟩ f=>⟨n,P,a,b,d.mono f,e⟩
 len:=λ⟨n,P,a,b,_,_⟩=>by rw[b];rfl
 one:=λ⟨n,P,a,b,_,_⟩ j g=>by
  rw[b]at g;simp[ft]at g;rcases g with rfl|rfl|rfl|rfl<;>rfl
def nB:ky (List bu) where
 k:=1
 rep:=λf D g cs=>∃n P a,cs=[.slice n P a]/\Row sG 48 f D n P g
 keep:=λ⟨n,P,a,b,c⟩ h d=>⟨n,P,a,b,c.keep h d⟩
 mono:=λ⟨n,P,a,b,c⟩ d=>⟨n,P,a,b,c.mono d⟩
 len:=λ⟨n,P,a,b,_⟩=>by rw[b];rfl
 one:=λ⟨n,P,a,b,_⟩ i e=>by rw[b]at e;simp at e;subst e;rfl
def jV.Ok(n:jV):Prop:=aM n.aZ/\aM n.field/\aM n.group/\aM n.FE/\aM n.make
def oI(n:jV):List Value:=[ZH n.aZ,ZH n.field,ZH n.group,ZH n.FE,ZH n.make]
def BO:ky jV:=flat 5 oI jV.Ok (λ_=>rfl) (λP a n=>by simp[oI]at n;rcases n with rfl|rfl|rfl|rfl|rfl<;>rfl)
def Ss:kQ ZP 119 188 4 32:=⟨kR,kR,dC⟩
def UI:kQ ZP 116 121 4 48:=⟨kR,kR,dC⟩
def Qc:kQ ZP 22 118 1 24:=⟨kR,kR,dC⟩
def Rr:kQ ZP 23 138 5 40:=⟨kR,kR,dC⟩
def Kr(n:kV):iL ZP 188 (oK n)=true:=kR
def gM(n:bu)(P:WP)(a b:Nat):iL ZP 121 (ft n P a b)=true:=kR
def JA(n:bu)(P:WP)(a b:Nat):TU (ej ZP 121) (.agg (ft n P a b).toArray)=true:=kR
def qx(n:jV):iL ZP 138 (oI n)=true:=kR
def Xh:bu:=⟨0,0,false,[]⟩
structure bt (w:World) (D:ZN) (d:aS) (ta:WP) (tn:Nat) (pa:WP) (pn:Nat):Prop where
 aZ:Row nB 24 w D ta tn d.types
 FG:Row BO 40 w D pa pn d.projs
variable{m:Array Value}{z:FuncId}{R e q:Int}{f8:List kV}{a c:Nat}{c4:bu}
section
variable {w w':World} {D D' S:ZN} {d:aS} {ta pa:WP} {tn tc pn pc:Nat}
def bt.keep(n:bt w D d ta tn pa pn)(P:aj S w w')(a:∀b,D b->¬S b):bt w' D d ta tn pa pn:=⟨n.aZ.keep P a,n.FG.keep P a⟩
def bt.af(n:bt w D d ta tn pa pn)(P:ai w w'):bt w' D d ta tn pa pn:=n.keep P λ_ _ n=>n
def bt.mono(n:bt w D d ta tn pa pn)(P:∀a,D a->D' a):bt w D' d ta tn pa pn:=⟨n.aZ.mono P,n.FG.mono P⟩
structure fw (w:World):Prop where
 kinds:∀i,i<6->w.cell? ⟨1,i,none⟩=some (ZH (rF i))
 Xi:∀i,i<5->w.cell? ⟨0,i,none⟩=some (ZH (([0,2,14,6,6]:List Int).getD i 0))
 lt:1<w.heap.size/\0<w.heap.size
def fw.af(n:fw w)(a:ai w w'):fw w':=
 ⟨λP b=>(a.cell (a:=⟨1,P,none⟩) n.lt.1 id).trans (n.kinds P b),λP b=>(a.cell (a:=⟨0,P,none⟩) n.lt.2 id).trans (n.Xi P b),
  Qk n.lt.1 a.size,Qk n.lt.2 a.size⟩
def bH:within e q R=true↔q<=e/\e<=R:=by simp[within]
def cB:PP 97 #[ZH e,ZH q,ZH R] w (Ok λn w'=>n= .bool (within e q R)/\w=w'):=by
 refine zy (al.dec (λP=>Ok.mk ⟨?_,rfl⟩) (λP=>Ok.mk ⟨?_,rfl⟩))
 ·simp[within];omega
 ·simp[within];omega
def tL{b:WP}(h:Row jr 32 w D b a f8)(e:∀n,D n->n<w.heap.size):
  PP 102 #[.slice b a c] w (Ok (qC jr 188 w f8)):=by
 have v:=h.len;have P:=h.fj;refine iV (k_ Ss.under ⟨_,rfl,al.mk (λd=>?_) (λd=>PA.mk λi f x j=>?_)⟩)
 ·have:f8=[]:=by
   cases b with
   |none=>
    cases f8 with
    |nil=>rfl
    |cons k y=>obtain⟨n,l,z,m,_⟩:=h.el 0 k rfl;cases m
   |some o=>cases d
  subst this;exact Ok.mk ⟨none,0,0,λ_=>False,rfl,aV.nil w,aj.refl _,λ_ h=>h.elim⟩
 ·cases b with
  |none=>cases d
  |some o=>
   have p:aV jr 188 (·=w.heap.size) i (ZM w.heap.size) 0 0 []:=
    ⟨⟨[],λ_=>False,Own.AD (cur:= #[]) j rfl (Qj _),rfl,λ_ h=>h.elim⟩,λn P=>by simpa[aG]using P.symm,λn P=>oM⟩
   refine lK p Ss (D:=D) (h.af f) (λn P=>⟨by have:=e n P;omega,by have:=e n P;simp only[aG];intro q;cases q;omega⟩) be (by unfold aT at P;unfold maxLen;simp;omega) λg r A B s t _ u=>?_;refine⟨_,_,_,rfl,Ok.mk ⟨g,_,r,λn=>aG g=some n,rfl,by have h:=s.alone;rw[List.nil_append]at h;exact h,f.new t λn P=>.inr ?_,λn P=>?_⟩⟩
   ·simp only[aG,Q1]at P;omega
   ·rcases u n P with h|h<;>omega
def JN{p:kV->Bool}{o:WP}(h:Row jr 32 w D o a f8)(t:enters ZP z=true)(u:∀b d,ai w d->PP z (#[]++ #[.agg (oK b).toArray]++m) d (Ok λe q=>e= .bool (p b)/\ai d q)):
  PP 101 #[.slice o a c,.func (.func z) #[] m] w (Ok λe w'=>e= .bool (f8.any p)/\ai w w'):=by
 have E:=h.len;have v:=h.fj;unfold aT at v;refine fQ (PC.ok (φ:=λe w'=>(∃P:Int,e= ZH P/\(0<=P↔f8.any p=true))/\ai w w') (gF ⟨λb P w'=>∃n:Nat,P=n/\n<=a/\b=a-n/\(f8.take n).any p=false/\ai w w',
  ⟨_,0,rfl,Qj _,rfl,sM,aj.refl _⟩,?_⟩) ?_)
 ·rintro b P _ d ⟨n,rfl,F,rfl,i,f⟩
  refine al.dec (λx=>?_) (λx=>?_)
  ·obtain⟨y,j,k,H,rfl,_,_,r,A,rfl,_⟩:=(h.af f).HU (i:=n) oM
   refine⟨y,j,rfl,oM,oM,ck (Kr k) rfl A ⟨z,_,_,rfl,t,PC.ok (u k d f) ?_⟩⟩;rintro _ q ⟨rfl,s⟩;refine⟨_,rfl,al.mk (λl=>?_) (λl=>?_)⟩
   ·exact Ok.mk ⟨⟨_,rfl,λ_=>List.any_eq_true.2 ⟨k,QZ r,l⟩,λ_=>oM⟩,f.then s⟩
   ·refine⟨_,oM,n+1,an oM,oM,rfl,?_,f.then s⟩
    rw[Qw,r,List.any_append,i];simp[l]
  ·rw[Qz oM]at i
   exact Ok.mk ⟨⟨_,rfl,λg=>oM,λg=>by rw[i]at g;cases g⟩,f⟩
 ·rintro _ w' ⟨⟨P,rfl,B⟩,C⟩
  exact⟨_,rfl,Ok.mk ⟨by cases g:f8.any p<;>simp[g]at B⊢<;>omega,C⟩⟩
def aS.wL(n:d.DP e q=some c4):0<=e/\e<d.types.length/\∃P,d.types[e.toNat]? =some P/\d.at e=P/\0<=q/\q<P.length/\P[q.toNat]? =some c4:=by
 unfold aS.DP at n;split at n
 ·rename_i a
  simp only[QK,bH]at a;have b:e.toNat<d.types.length:=oM
  have c:d.at e=d.types[e.toNat]:=by unfold aS.at;rw[Zx (bH.2 a.1)];simp[b]
  rw[c]at a n;exact⟨oM,oM,_,by simp[b],c,oM,oM,n⟩
 ·cases n
def pI(m:bt w D d ta tn pa pn)(y:∀n,D n->n<w.heap.size):
  PP 70 #[.agg #[.slice ta tn tc,.slice pa pn pc],ZH e,ZH q] w (Ok λz w'=>ai w w'/\match d.DP e q with
   |none=>z= .tuple #[.agg (ft Xh none 0 0).toArray,.bool false]
   |some b=>∃A B C E,z= .tuple #[.agg (ft b A B C).toArray,.bool true]/\aV jr 188 E w' A B C b.bG/\(∀n,E n->w.heap.size<=n)):=by
 have o:=m.aZ.len;have P:=m.aZ.fj;unfold aT at P;have a:within e 0 ((tn:Int)-1)=false->d.DP e q=none:=λF=>by unfold aS.DP;rw[o]at F;rw[Zq (by simp[F])]
 refine Bk (PA.mk λw1 V s1 p=>PA.mk λw2 j s2 r=>⟨_,_,_,ae (j.get p id) rfl,PC.ok cB ?_⟩);rintro _ _ ⟨rfl,rfl⟩;rw[wrap_i64 bc];have c:=V.then j;refine⟨_,rfl,al.not (al.mk (λg=>?_) (λg=>?_))⟩
 rotate_left
 ·refine aC (cs:=ft Xh none 0 0) (gM _ _ _ _) r rfl λH f I h=>ar (gM _ _ _ _) h (Ok.mk ⟨c.new f λn P=>.inr oM,?_⟩)
  rw[a g]
 have W:=bH.1 g;refine⟨_,_,_,ae (j.get p id) rfl,?_⟩;obtain⟨n,i,X,es,rfl,a8,a9,Y,Z,b0,n1,c1,rfl,s⟩:=((m.af c).aZ).at (i:=e) oM oM;have J:=s.len;have a0:=s.fj;unfold aT at a0;have K:d.at e=X:=by
  unfold aS.at;rw[Zx (by rw[<-o];exact g),QQ,Y];rfl
 have t:=Z 0 dC;simp only[nB,Nat.mul_one,Nat.add_zero]at t;refine⟨n,i,rfl,oM,oM,_,_,_,t,PC.ok cB ?_⟩;rintro _ _ ⟨rfl,rfl⟩;rw[wrap_i64 bc];refine⟨_,rfl,al.not (al.mk (λk=>?_) (λk=>?_))⟩
 rotate_left
 ·refine aC (cs:=ft Xh none 0 0) (gM _ _ _ _) r rfl λH f I h=>ar (gM _ _ _ _) h (Ok.mk ⟨c.new f λn P=>.inr oM,?_⟩)
  rw[show d.DP e q=none by unfold aS.DP;rw[K,<-J,Zq (by simp[k])]]
 have a1:=bH.1 k;refine⟨_,_,_,ae (j.get p id) rfl,n,i,rfl,oM,oM,_,_,_,t,?_⟩;obtain⟨b2,a2,b,b1,rfl,b3,b4,a3,a4,L,M,N,rfl,hM,b5,b6⟩:=s.at (i:=q) oM oM;have a5:d.DP e q=some b:=by unfold aS.DP;rw[K,<-J,<-o,Zx (by simp[g,k])];exact a3
 refine⟨b2,a2,rfl,oM,oM,ck (gM b L M N) rfl a4 (PA.mk λH f I h=>aC (gM b L M N) h rfl λw4 u s4 O=>⟨_,_,_,ae O rfl,PC.ok (tL ((hM.af f).keep u λn P Q=>by have:=y n P;have:=c.size;omega) λn P=>by have:=y n P;have:=c.size;omega) ?_⟩)⟩;rintro _ w5 ⟨R,S,T,F5,rfl,a6,l,v⟩;have z5:=l.size;refine⟨_,_,_,rfl,PS.mk (l.get O id) (by simp[ft]) λw6 x s6 g6=>ar (cs:=ft b R S T) (gM _ _ _ _) g6 (aC (gM _ _ _ _) (x.get (l.get (u.get (f.get r id) oM) id) oM) rfl λw7 U s7 g7=>ar (gM _ _ _ _) g7 (Ok.mk ⟨?_,?_⟩))⟩
 ·have a7:ai w w6:=((((c.then f).new u λn P=>.inr oM).then l)).new x λn P=>.inr oM
  exact a7.new U λn P=>.inr oM
 ·rw[a5]
  exact⟨R,S,T,F5,rfl,(a6.keep x λn P Q=>by have:=v n P;omega).keep U λn P Q=>by have:=v n P;omega,λn P=>by have:=v n P;have:=c.size;omega⟩
end
variable{c1:Int}{F c3 i r:Nat}{d f9 x:WP}{N l:ah}
section
variable {w w':World} {D E:ZN}
def vI(g:Row aP 8 w E x i N.aN):PP 340 #[kN l d a c,kN N x i r] w (Ok λh w'=>h= .bool (Bz l N)/\ai w w'):=by
 refine Bq (PA.mk λp j q n=>PA.mk λk e s P=>λm o=>⟨no,?_⟩);have b:ai k m:=o.keep;have n:=b.get (e.get n id) id;have P:=b.get P id;have f:=(j.then e).then b;refine⟨_,_,_,ae P rfl,_,ae n rfl,id,_,ae n rfl,PC.ok (oP (g.tU.af f)) ?_⟩;rintro _ _ ⟨rfl,rfl⟩;exact⟨_,rfl,aj.refl _,Ok.mk ⟨rfl,f⟩⟩
def IC(j:Row aP 8 w D d a l.aN)(k:Row aP 8 w E x i N.aN):PP 309 #[kN l d a c,kN N x i r] w (Ok λm w'=>m= .bool (vJ l N)/\ai w w'):=by
 refine DA (PA.mk λs o t n=>PA.mk λu h v e=>?_);have n:=h.get n id;have P:=o.then h;refine⟨_,_,ae n rfl,ae n rfl,_,_,ae e rfl,ae e rfl,MD.neq ⟨_,rfl,?_⟩⟩;have p:(!(l.origin==N.origin&&l.seq==N.seq))=(bd l !=bd N):=rfl;rw[p];refine al.mk (λf=>ar (bg l d a c) n (ar (bg N x i r) e (PC.ok (vI (k.af P)) ?_))) (λf=>Ok.mk ⟨by unfold vJ;rw[f];rfl,P⟩);rintro _ y ⟨rfl,b⟩;refine⟨_,rfl,al.not (al.mk (λg=>Ok.mk ⟨by unfold vJ;rw[f,g];rfl,P.then b⟩) (λg=>ar (bg N x i r) (b.get e id) (ar (bg l d a c) (b.get n id) (PC.ok (vI (j.af (P.then b))) ?_))))⟩;rintro _ z ⟨rfl,q⟩;exact⟨_,rfl,Ok.mk ⟨by unfold vJ;rw[f,g];rfl,(P.then b).then q⟩⟩
def mE:Ke ZP 420 3:=⟨kR,kR,⟨ "op", "arg",kR,dC,dC⟩,kR,kR,kR⟩
abbrev YX(n:bu)(P:WP)(a b:Nat):Value:=.agg (ft n P a b).toArray
def xE:PP 308 #[YX c4 d a c,ZH e,ZH q,ZH R,ZH c1] w (Ok λx w'=>x= .bool (eX c4 (e,q) (R,c1))/\ai w w'):=by
 refine uw (PA.mk λN C T E=>PA.mk λO y U F=>PA.mk λV o W H=>PS.mk (o.get F id) sM λX p Y I=>PS.mk I sM λZ r s5 J=>PS.mk (r.get (p.get H oM) oM) sM λw6 s s6 K=>PS.mk K sM λt u s7 L=>?_);have Q:ai w t:=(((((C.then y).then o).new p λh z=>.inr oM).new r λh z=>.inr oM).new s λh z=>.inr oM).new u λh z=>.inr oM;have S:=u.get (s.get (r.get (p.get (o.get (y.get E id) id) oM) oM) oM) oM;have P:t.heap[N.heap.size]? =some (.cells #[ZH e,ZH q] 420 (0,0)):=u.get (s.get J oM) oM;have b:t.heap[O.heap.size]? =some (.cells #[ZH R,ZH c1] 420 (0,0)):=L
 clear E F H I J K L C y o p r s u
 have n:∀{h:Bool},eX c4 (e,q) (R,c1)=h->Ok (λx w'=>x= .bool (eX c4 (e,q) (R,c1))/\ai w w') (.returned (.bool h)) t:=λ{h} i=>Ok.mk ⟨by rw[i],Q⟩;have M:(((e,q):Int×Int) !=(R,c1))= !(e==R&&q==c1):=rfl;refine⟨_,ae S rfl,al.eN (λf=>?_) (λf=>al.eN (λl=>?_) (λl=>al.eN (λA=>?_) (λA=>n ?_)))⟩
 ·refine⟨_,ae P rfl,al.eN (λg=>⟨_,ae b rfl,al.eN (λj=>⟨_,_,ae P rfl,ae P rfl,_,_,ae b rfl,ae b rfl,mE.neq ⟨_,rfl,n ?_⟩⟩) (λj=>n ?_)⟩) (λg=>n ?_)⟩
  ·unfold eX;rw[Zx f,M,show e=2 from g,show R=2 from j];rfl
  ·unfold eX;rw[Zx f,show e=2 from g,show(R==2)=false by simpa using j];rfl
  ·unfold eX;rw[Zx f,show(e==2)=false by simpa using g];rfl
 ·refine⟨_,ae P rfl,al.eN (λg=>⟨_,ae b rfl,al.eN (λj=>⟨_,_,ae P rfl,ae P rfl,_,_,ae b rfl,ae b rfl,mE.neq ⟨_,rfl,n ?_⟩⟩) (λj=>n ?_)⟩) (λg=>n ?_)⟩
  ·unfold eX;rw[Zq f,Zx l,M,show e=5 from g,show R=5 from j];rfl
  ·unfold eX;rw[Zq f,Zx l,show e=5 from g,show(R==5)=false by simpa using j];rfl
  ·unfold eX;rw[Zq f,Zx l,show(e==5)=false by simpa using g];rfl
 ·have m:eX c4 (e,q) (R,c1)=((e==3&&q==c1)&&(R==4&&c1==q)||(e==4&&q==c1)&&(R==3&&c1==q)):=by
   unfold eX;rw[Zq f,Zq l,Zx A];rfl
  refine⟨_,_,ae P rfl,ae P rfl,mE.eql ⟨_,rfl,al.mk (λv=>⟨_,_,ae b rfl,ae b rfl,mE.eql ⟨_,rfl,al.mk (λB=>n ?_) (λB=>?_)⟩⟩) (λv=>?_)⟩⟩
  ·rw[m,v,B];rfl
  ·have i:((e==3&&q==c1)&&(R==4&&c1==q))=false:=by rw[v,B];rfl
   exact⟨_,_,ae P rfl,ae P rfl,mE.eql ⟨_,rfl,al.mk (λk=>⟨_,_,ae b rfl,ae b rfl,mE.eql ⟨_,rfl,n (by rw[m,i,k];rfl)⟩⟩) (λk=>n (by rw[m,i,k];rfl))⟩⟩
  ·have i:((e==3&&q==c1)&&(R==4&&c1==q))=false:=by rw[v];rfl
   exact⟨_,_,ae P rfl,ae P rfl,mE.eql ⟨_,rfl,al.mk (λk=>⟨_,_,ae b rfl,ae b rfl,mE.eql ⟨_,rfl,n (by rw[m,i,k];rfl)⟩⟩) (λk=>n (by rw[m,i,k];rfl))⟩⟩
 ·unfold eX;rw[Zq f,Zq l,Zq A]
def BA{f:bu}(s:Row aP 8 w D x i l.aN)(t:Row aP 8 w E f9 F N.aN):
  PP 251 #[YX f d a c,kN l x i r,kN N f9 F c3] w (Ok λu w'=>u= .bool (nj f l N)/\ai w w'):=by
 refine xy (PA.mk λC v H y=>PA.mk λI p J z=>PA.mk λA h K e=>?_);have j:=h.get (p.get y id) id;have g:=h.get z id;have b:=(v.then p).then h;refine⟨λq w'=>q=(f.dW==2||f.dW==3&&decide (N.arg<l.arg))/\A=w',?_,?_⟩
 ·refine⟨_,ae j rfl,al.eN (λn=>⟨by rw[show f.dW=2 from n];rfl,rfl⟩) (λn=>⟨_,ae j rfl,al.eN (λk=>⟨_,ae g rfl,_,ae e rfl,?_,rfl⟩) (λk=>⟨?_,rfl⟩)⟩)⟩
  ·rw[show f.dW=3 from k];rfl
  ·rw[show(f.dW==2)=false by simpa using n,show(f.dW==3)=false by simpa using k];rfl
 ·rintro q _ _ ⟨m,rfl⟩
  refine al.mk (λn=>?_) (λn=>Ok.mk ⟨by unfold nj;rw[<-m,n];rfl,b⟩);refine ar (gM f d a c) j ⟨_,ae g rfl,_,ae g rfl,_,ae e rfl,_,ae e rfl,PC.ok xE ?_⟩;rintro _ L ⟨rfl,P⟩;refine⟨_,rfl,al.mk (λo=>ar (bg l x i r) (P.get g id) (ar (bg N f9 F c3) (P.get e id) (PC.ok (IC (s.af (b.then P)) (t.af (b.then P))) ?_))) (λo=>Ok.mk ⟨by unfold nj;rw[<-m,n,o];rfl,b.then P⟩)⟩;rintro _ M ⟨rfl,B⟩;exact⟨_,rfl,Ok.mk ⟨by unfold nj;rw[<-m,n,o];rfl,(b.then P).then B⟩⟩
end
def lC:fl cZ Int where
 k:=2
 ci:=aP
 ib:=8
 inner:=(·.set)
 hd:=λn P a b=>[ZH n.n,.slice P a b]
 ok:=λn=>aM n.n/\wS n.set/\n.set.length<=64
 hl:=λ_ _ _ _=>rfl
 h1:=λn P a b d c=>by simp at c;rcases c with rfl|rfl<;>rfl
 o:=1
 ho:=dC
 fO:=λ_ _ _ _ _ _ _=>rfl
abbrev gB:ky cZ:=lC.NU
def Ql:kQ ZP 47 78 2 32:=⟨kR,kR,dC⟩
abbrev Tb(n:Int):Nat:=if n=1 then 254 else if n=3 then 259 else if n=5 then 262 else 257
abbrev XD(n:Int):Nat:=if n=1 then 255 else if n=2 then 258 else if n=3 then 260 else if n=4 then 261 else 263
def qH(n:Int):Value:=.agg #[.func (.func (Tb n)) #[] #[],.func (.func (XD n)) #[] #[]]
def AJ:mQ ZP 312 3 310 (.agg #[.nilFunc,.nilFunc]):=⟨kR,kR⟩
def lD:ji ZP 3 (Value.int .i64):=Wu kR
variable{b5:List cZ}
section
variable {w w':World} {D E:ZN}
def AK:PP 204 #[] w (Ok λb w'=>∃a,b= .map (some a)/\bQ w' a (Value.int .i64) [((1:Int),qH 1),(2,qH 2),(3,qH 3),(4,qH 4),(5,qH 5)]/\ai w w'):=by
 refine FQ (PA.mk λp c q d=>?_);refine dy (k:=(1:Int)) AJ lD (bQ.new d) λr e f s=>dy (k:=(2:Int)) AJ lD e λt g h u=>dy (k:=(3:Int)) AJ lD g λv i j x=>dy (k:=(4:Int)) AJ lD i λy k l z=>dy (k:=(5:Int)) AJ lD k λA m o B=>Ok.mk ⟨_,rfl,m,?_⟩;exact((((c.new f λn P=>.inr oM).new h λn P=>.inr oM).new j λn P=>.inr oM).new l λn P=>.inr oM).new o λn P=>.inr oM
def MI(n:1<=e)(P:e<=5):aq [((1:Int),qH 1),(2,qH 2),(3,qH 3),(4,qH 4),(5,qH 5)] e=some (qH e):=by
 have:e=1\/e=2\/e=3\/e=4\/e=5:=oM
 rcases this with rfl|rfl|rfl|rfl|rfl<;>rfl
def Wv(n:bu)(P:WP)(a b:Nat)(c:WP)(d e:Nat)(f arg:Int):List Value:=[ZH n.kind,ZH n.dW,.bool n.floor,.slice P a b,.slice c d e,ZH f,ZH arg]
abbrev AL(n:bu)(P:WP)(a b:Nat)(c:WP)(d e:Nat)(f arg:Int):Value:=.agg (Wv n P a b c d e f arg).toArray
def uV(n:bu)(P:WP)(a b:Nat)(c:WP)(d e:Nat)(f arg:Int):iL ZP 315 (Wv n P a b c d e f arg)=true:=kR
variable {f:bu} {ma ca:WP} {mn mc cn cc i:Nat} {arg:Int}
def iM(P:ca=some ⟨a,c,none⟩)(e:i<cn):PP 256 #[AL f ma mn mc ca cn cc (i:Int) arg] w (Ok λb w'=>b= .pointer (some ⟨a,c+i*2,none⟩)/\ai w w'):=
 ze (PA.mk λg d h n=>⟨_,_,_,ae n rfl,_,ae n rfl,a,c,P,oM,oM,Ok.mk ⟨rfl,d⟩⟩)
def Qm(d:List bu)(c:List cZ)(n b arg:Int):Bool:=
 let f:=d.getD n.toNat ⟨0,0,false,[]⟩
 let P:=c.getD n.toNat ⟨0,[]⟩
 if b=1 then(arg==0||MJ P.n arg)&& !(f.floor&&decide (qd (P.n+arg)<0))
 else if b=3 then decide (arg∈P.set)||decide (P.set.length<64)
 else if b=5 then(let a:=f.bG.getD arg.toNat ⟨0,0,0,0⟩;P.n==a.bM&&(decide (a.lZ<0)||decide (a.least<=(c.getD a.lZ.toNat ⟨0,[]⟩).n)))
 else true
def FR(P:List bu)(a:List cZ)(n b arg:Int):wV P a n b arg=if Qm P a n b arg then 0 else 10:=rfl
def nz{bytes:Nat}(e:Row gB bytes w D ca cn b5)(f:i<cn):∃n P a b c,ca=some ⟨n,P,none⟩/\n<w.heap.size/\D n/\w.cell? ⟨n,P+i*2,none⟩=some (ZH (b5.getD i ⟨0,[]⟩).n)/\w.cell? ⟨n,P+i*2+1,none⟩=some (.slice a b c)/\Row aP 8 w D a b (b5.getD i ⟨0,[]⟩).set/\aM (b5.getD i ⟨0,[]⟩).n/\wS (b5.getD i ⟨0,[]⟩).set/\(b5.getD i ⟨0,[]⟩).set.length<=64:=by
 have g:=e.len;obtain⟨n,P,p,j,k,l,h,a,b,c,rfl,m,d⟩:=e.el i b5[i] (by simp[g▸f]);have o:b5.getD i ⟨0,[]⟩=b5[i]:=by simp[QQ,g▸f]
 rw[o];exact⟨n,P,a,b,c,j,k,l,by have:=h 0 dC;simpa[lC,fl.NU]using this,by have:=h 1 dC;simpa[lC,fl.NU]using this,m,d.1,d.2.1,d.2.2⟩
def Qn:PP 310 #[ZH e,ZH q] w (Ok λn w'=>n= .bool (MJ e q)/\w=w'):=Kq (Ok.mk ⟨rfl,rfl⟩)
def HN{bytes:Nat}(k:Row gB bytes w D ca cn b5)(g:i<cn):
  PP 254 #[AL f ma mn mc ca cn cc (i:Int) arg] w (Ok λl w'=>l= .bool ((arg==0||MJ (b5.getD i ⟨0,[]⟩).n arg)&& !(f.floor&&decide (qd ((b5.getD i ⟨0,[]⟩).n+arg)<0)))/\ai w w'):=by
 refine CY (PA.mk λs h t j=>ar (uV ..) j ?_);obtain⟨m,o,u,v,x,p,q,y,r,a,-⟩:=nz (k.af h) g;refine PC.ok (iM p g) ?_;rintro _ z ⟨rfl,d⟩;have P:=d.get j id;have b:=h.then d;refine⟨_,rfl,_,_,rfl,_,(d.cell (a:=⟨m,o+i*2,none⟩) q id).trans r,_,ae P rfl,al.eN (λc=>⟨_,ae P rfl,al.mk (λn=>⟨_,ae P rfl,Ok.mk ⟨?_,b⟩⟩) (λn=>Ok.mk ⟨?_,b⟩)⟩) (λc=>⟨_,ae P rfl,PC.ok Qn ?_⟩)⟩
 ·rw[show(arg==0)=true by simpa using c,n];rfl
 ·rw[show(arg==0)=true by simpa using c,n];rfl
 ·rintro _ _ ⟨rfl,rfl⟩
  have e:(arg==0)=false:=by simpa using c
  refine⟨_,rfl,al.mk (λa=>⟨_,ae P rfl,al.mk (λn=>⟨_,ae P rfl,Ok.mk ⟨?_,b⟩⟩) (λn=>Ok.mk ⟨?_,b⟩)⟩) (λa=>Ok.mk ⟨?_,b⟩)⟩
  ·rw[e,a,n];rfl
  ·rw[e,a,n];rfl
  ·rw[e,a];rfl
def HO{bytes:Nat}(m:Row gB bytes w D ca cn b5)(P:i<cn):
  PP 259 #[AL f ma mn mc ca cn cc (i:Int) arg] w (Ok λo w'=>o= .bool (decide (arg∈(b5.getD i ⟨0,[]⟩).set)||decide ((b5.getD i ⟨0,[]⟩).set.length<64))/\ai w w'):=by
 refine CZ (PA.mk λp q A r=>λs t=>⟨no,?_⟩);have c:ai p s:=t.keep;have a:=c.get r id;have b:=q.then c;obtain⟨d,e,B,C,E,g,h,F,H,u,j,-,v,-⟩:=nz (m.af b) P;refine ar (uV ..) a ⟨id,_,ae a rfl,PC.ok (iM g P) ?_⟩;rintro _ I ⟨rfl,n⟩;have k:=(n.cell (a:=⟨d,e+i*2+1,none⟩) h id).trans u;refine⟨_,rfl,ai.keep n,_,_,rfl,_,_,_,k,PC.ok (tP (j.af n) v) ?_⟩;rintro _ _ ⟨rfl,rfl⟩;refine⟨_,_,rfl,aj.refl _,al.mk (λx=>Ok.mk ⟨by rw[x];rfl,b.then n⟩) (λy=>ar (uV ..) (n.get a id) (PC.ok (iM g P) ?_))⟩;rintro _ J ⟨rfl,l⟩;have z:=j.len;refine⟨_,rfl,_,_,rfl,_,_,_,(l.cell (a:=⟨d,e+i*2+1,none⟩) (Qk h n.size) id).trans k,Ok.mk ⟨?_,(b.then n).then l⟩⟩;rw[y,z]
 congr 1
 rw[Bool.false_or,decide_eq_decide];omega
def FT{bytes:Nat}(m:Row gB bytes w D ca cn b5)(o:i<cn)(p:Row jr 32 w E ma mn f.bG)(h0:0<=arg)(h1:arg<(mn:Int))(q:((f.bG.getD arg.toNat ⟨0,0,0,0⟩).lZ)<(cn:Int)):
  PP 262 #[AL f ma mn mc ca cn cc (i:Int) arg] w (Ok λC w'=>C= .bool (let n:=f.bG.getD arg.toNat ⟨0,0,0,0⟩;(b5.getD i ⟨0,[]⟩).n==n.bM&&(decide (n.lZ<0)||decide (n.least<=(b5.getD n.lZ.toNat ⟨0,[]⟩).n)))/\ai w w'):=by
 refine AM (PA.mk λF r s1 e=>?_);have a0:=p.len;obtain⟨P,rfl⟩:∃P:Nat,arg=P:=⟨arg.toNat,oM⟩
 have s:P<f.bG.length:=oM
 obtain⟨H,I,es,J,a1,-,t,rfl,-⟩:=(p.af r).el P f.bG[P] (by simp[s]);have K:f.bG.getD P ⟨0,0,0,0⟩=f.bG[P]:=by simp[QQ,s]
 simp only[Qx,K]at q⊢;generalize f.bG[P]=n at t q;refine⟨_,_,_,ae e rfl,_,ae e rfl,H,I,J,oM,oM,ck (es:=oK n) (k:=4) (Kr n) rfl (λL M=>t L M) (PA.mk λw2 N s2 O=>aC (Kr n) O rfl λu Q s3 R=>λS T=>⟨no,?_⟩)⟩;have v:ai F u:=N.new Q λx y=>.inr oM;have g:ai u S:=T.keep;have z:=(r.then v).then g;have A:=g.get (v.get e id) id;have a:=g.get R id;obtain⟨x,U,a2,a3,a4,V,y,a5,W,hs,-⟩:=nz (m.af z) o;refine ar (uV ..) A ⟨id,_,ae a rfl,PC.ok (iM V o) ?_⟩;rintro _ w5 ⟨rfl,b⟩;have a:=b.get a id;have c:=z.then b;refine⟨_,rfl,ai.keep b,_,_,rfl,_,(b.cell (a:=⟨x,U+i*2,none⟩) y id).trans W,al.eN (λd=>⟨_,ae a rfl,al.dec (λh=>Ok.mk ⟨?_,c⟩) (λh=>?_)⟩) (λd=>Ok.mk ⟨?_,c⟩)⟩
 ·rw[show((b5.getD i ⟨0,[]⟩).n==n.bM)=true by simpa using d,Zy h];rfl
 ·obtain⟨j,B⟩:∃j:Nat,n.lZ=j:=⟨n.lZ.toNat,oM⟩
  obtain⟨X,Y,a',n',c',k,Z,-,l,-⟩:=nz (m.af c) (i:=j) oM;refine⟨_,_,_,ae (b.get A id) rfl,_,ae a rfl,X,Y,k,oM,oM,_,by rw[B,Qx];exact l,_,ae a rfl,Ok.mk ⟨?_,c⟩⟩;rw[show((b5.getD i ⟨0,[]⟩).n==n.bM)=true by simpa using d,Xv h,B,Qx];rfl
 ·rw[show((b5.getD i ⟨0,[]⟩).n==n.bM)=false by simpa using d];rfl
end
variable{a4:List Value}{h:Program}
section
variable {w w':World} {D E:ZN}
structure HP (t:List bu) (cells:List cZ) (fi op arg:Int):Prop where
 f0:0<=fi
 f1:fi<(t.length:Int)
 len:cells.length=t.length
 Ww:1<=op
 Wx:op<=5
 mv:op=5->0<=arg/\arg<((t.getD fi.toNat ⟨0,0,false,[]⟩).bG.length:Int)/\(((t.getD fi.toNat ⟨0,0,false,[]⟩).bG.getD arg.toNat ⟨0,0,0,0⟩).lZ)<(t.length:Int)
variable {t:List bu} {cells:List cZ} {op arg:Int} {ma ca ta:WP} {mn mc cn cc tn tc i:Nat} {bytes:Nat}
def Qo(n:HP t cells (i:Int) op arg)(P:Row gB bytes w D ca cn cells)(c:Row jr 32 w E ma mn (t.getD i ⟨0,0,false,[]⟩).bG):
  enters ZP (Tb op)=true/\PP (Tb op) (#[]++ #[AL (t.getD i ⟨0,0,false,[]⟩) ma mn mc ca cn cc (i:Int) arg]++ #[]) w (Ok λf w'=>f= .bool (Qm t cells (i:Int) op arg)/\ai w w'):=by
 have a:i<cn:=by have:=P.len;have:=n.f1;have:=n.len;omega
 have l:=n.Ww;have m:=n.Wx;have:op=1\/op=2\/op=3\/op=4\/op=5:=oM
 rcases this with rfl|rfl|rfl|rfl|rfl
 ·exact⟨kR,HN P a⟩
 ·exact⟨kR,tl (PA.mk λg b h j=>Ok.mk ⟨rfl,b⟩)⟩
 ·exact⟨kR,HO P a⟩
 ·exact⟨kR,tl (PA.mk λg b h j=>Ok.mk ⟨rfl,b⟩)⟩
 ·obtain⟨k,d,e⟩:=n.mv rfl
  rw[Qx]at d e;exact⟨kR,FT P a c k (by rw[c.len];exact d) (by rw[P.len,n.len];exact e)⟩
def Qp(op:Int):iL ZP 310 [.func (.func (Tb op)) #[] #[],.func (.func (XD op)) #[] #[]]=true:=kR
def FU{bytes:Nat}(e:Row sG bytes w D ta tn t)(f:i<tn):∃n P a b d,ta=some ⟨n,P,none⟩/\n<w.heap.size/\D n/\w.cell? ⟨n,P+i*4,none⟩=some (ZH (t.getD i ⟨0,0,false,[]⟩).kind)/\w.cell? ⟨n,P+i*4+1,none⟩=some (ZH (t.getD i ⟨0,0,false,[]⟩).dW)/\w.cell? ⟨n,P+i*4+2,none⟩=some (.bool (t.getD i ⟨0,0,false,[]⟩).floor)/\w.cell? ⟨n,P+i*4+3,none⟩=some (.slice a b d)/\Row jr 32 w D a b (t.getD i ⟨0,0,false,[]⟩).bG:=by
 have g:=e.len;obtain⟨n,P,o,h,j,k,c,a,b,d,rfl,l,p⟩:=e.el i t[i] (by simp[g▸f]);have m:t.getD i ⟨0,0,false,[]⟩=t[i]:=by simp[QQ,g▸f]
 rw[m];exact⟨n,P,a,b,d,h,j,k,c 0 dC,c 1 dC,c 2 dC,c 3 dC,l⟩
def HQ(n:HP t cells e op arg)(f:Row sG 48 w E ta tn t)(m:Row gB bytes w D ca cn cells):
  PP 131 #[.agg #[.slice ta tn tc],.slice ca cn cc,ZH e,ZH op,ZH arg] w (Ok λo w'=>o= ZH (wV t cells e op arg)/\ai w w'):=by
 obtain⟨i,rfl⟩:∃i:Nat,e=i:=⟨e.toNat,by have:=n.f0;omega⟩
 refine Ks (PA.mk λL p M q=>PC.ok AK ?_);rintro _ N ⟨O,rfl,r,a⟩;refine⟨_,rfl,jC AJ lD r ?_⟩;rw[MI n.Ww n.Wx];refine⟨_,_,_,rfl,PA.mk λQ g R s=>aC (Qp op) s rfl λu h S c=>λj v=>al.tt rfl ?_⟩;have d:ai u j:=v.keep;have b:ai w j:=((p.then (a.then g)).new h λk P=>.inr (by have:=a.size;omega)).then d;have c:=d.get c id;have x:=d.get (h.get (g.get (a.get q id) id) (by have:=a.size;omega)) id;have T:=n.f1;have U:=f.len;obtain⟨k,y,V,W,z,A,P,X,B,C,F,H,I⟩:=FU (f.af b) (i:=i) oM;obtain⟨J,K⟩:=Qo (mc:=z) (cc:=cc) n (m.af b) I;refine⟨_,ae c rfl,_,_,_,ae x rfl,k,y,A,oM,oM,_,_,_,_,_,_,B,C,F,H,_,_,_,rfl,J,PC.ok K ?_⟩;rintro _ Y ⟨rfl,l⟩;rw[FR];exact⟨_,rfl,al.not (al.mk (λP=>Ok.mk ⟨by rw[P];rfl,b.then l⟩) (λP=>Ok.mk ⟨by rw[P];rfl,b.then l⟩))⟩
def Qr(n:c<a*a4.length):((List.replicate a a4).flatten)[c]? =a4[c % a4.length]? :=by
 induction a generalizing c with
 |zero=>simp at n
 |succ a d=>
  rw[List.replicate_succ,List.flatten_cons]
  by_cases P:c<a4.length
  ·rw[XW P,Nat.mod_eq_of_lt P]
  ·rw[X8 oM,d (by rw[X7,Nat.one_mul]at n;omega)]
   obtain⟨b,rfl⟩:∃b,c=b+a4.length:=⟨c-a4.length,oM⟩
   rw[Nat.add_sub_cancel,Nat.add_mod_right]
def Wy{t b:TypeId}{n bytes:Nat}(f:kQ h t b n bytes){z:Value}(g:(h.info? b).bind (·.zero)=some z)(k:a<=c)(r:c*bytes<=aT)(s:c<=aT){w:World}{l u:ZR}(v:∀w',Own w' b n (ZM w.heap.size) a c (List.replicate a z.cells.toList).flatten->ai w w'->w'.heap.size=w.heap.size+1->l (.slice (ZM w.heap.size) a c) w'):
  aJ h (Instr.makeSlice t (ZH (a:Int)) (ZH (c:Int))) w l u:=by
 unfold aT at r s;obtain⟨i,P,m,o,x,y,d⟩:=kQ.info f;have A:P=z:=by
  rw[m]at g;simp only[Option.bind_some,o]at g;exact XJ g
 subst A;have p:=run_make (P:=h) w t b i _ f.under m o .i64 .i64 a c oM oM (by rw[y,Int.mul_comm,<-Int.natCast_mul];omega) oM;rw[Qx,Qx,x]at p;have B:ai w (w.alloc (.cells (madeCells P.cells (c*n)) b)):=aj.alloc w _;have H:a*n<=c*n:=Q0 _ k;have C:(madeCells P.cells (c*n)).size=c*n:=size_madeCells ..;have E:((List.replicate a P.cells.toList).flatten).length=a*n:=by simp[d]
 refine aJ.mk p (v _ ⟨⟨E,.inr ⟨w.heap.size,c,_,rfl,Qj _,heap_alloc_new w _,k,by unfold maxLen;omega,C,?_⟩⟩⟩ B sM);apply X3;intro e
 by_cases j:e<a*n
 ·rw[Xw,Zx j,Qr (by simp[d];exact j)]
  unfold madeCells;have F:=f.pos;have q:e % n<P.cells.size:=by rw[d];exact Nat.mod_lt _ F
  simp[d,show e<c*n by omega];rw[getElem!_pos P.cells (e % n) q,X6 q]
 ·rw[Xw,Zq j,Q7 oM]
def HR(i:ta=ta)(c:tn=t.length)(n:tn<=20000000):PP 128 #[.agg #[.slice ta tn tc]] w (Ok (qC gB 78 w (dX t))):=by
 refine Kt (PA.mk λd e j P=>⟨_,_,_,ae P rfl,Wy Ql (z:=.agg #[ZH 0,.slice none 0 0]) kR (Q4 _) ba ba λk a f l=>⟨_,_,_,rfl,Ok.mk ⟨_,_,_,(·=d.heap.size),rfl,⟨⟨_,λ_=>False,a,?_,λ_ g=>g.elim⟩,λb n=>by simpa[aG]using n.symm,λb n=>oM⟩,e.then f,λb n=>oM⟩⟩⟩);subst c
 clear a P
 unfold dX
 induction t with
 |nil=>rfl
 |cons m t h=>exact⟨_,_,rfl,⟨none,0,0,rfl,Row.nil _ _,by simp[aM],List.Pairwise.nil,sM⟩,h (by simp at n;omega)⟩
end
end Go.Proofs.YtjgjkeponbeekaaGreatDoor
namespace Go.aw
open Go
def HM(h:Program)(e tn:TypeId)(i:Nat)(A q:FuncId)(g:WP)(a b:Nat)(n:Int)(m:WP)(P o:Nat)(c:World)(f:ZT):Prop:=
 ((0:Int)<=n/\(n:Int)<=((a:Nat):Int)/\al ((((P:Nat):Int):Int)==0) (f (.returned (.slice g a b)) c) (al ((n:Int)==((a:Nat):Int)) (aJ h (Builtin.append_ #[e,e] e #[.slice g a b,.slice m P o]) c (λB C=>∃(r:WP) (s:Nat) (t:Nat),B= .slice r s t/\f (.returned (.slice r s t)) C) (λd c=>f (.panicked [{v:=d,recovered:=false}]) c)) (aJ h (Builtin.cap_ #[e] tn #[.slice g a b]) c (λE u=>∃(v:Int),E= ZH v/\al (decide (((ZG .i64 (((a:Nat):Int)+((P:Nat):Int))):Int)>v)) (((0:Int)<=n/\(n:Int)<=((b:Nat):Int)/\aJ h (Builtin.append_ #[e,tn] e #[.slice g (Int.toNat n) b,ZH (ZG .i64 ((ZG .i64 (((a:Nat):Int)+((P:Nat):Int)))-n))]) u (λF H=>∃(p:WP) (k:Nat) (l:Nat),F= .slice p k l/\((0:Int)<=n/\(n:Int)<=((k:Nat):Int)/\aJ h (Builtin.copy_ #[e,e] tn #[.slice (dd p (Int.toNat n) l i) (k-Int.toNat n) (l-Int.toNat n),.slice m P o]) H (λI J=>∃(K:Int),I= ZH K/\(∀w,cy J w->((0:Int)<=(ZG .i64 (n+((P:Nat):Int)))/\((ZG .i64 (n+((P:Nat):Int))):Int)<=((k:Nat):Int)/\((0:Int)<=n/\(n:Int)<=((a:Nat):Int)/\aJ h (Builtin.copy_ #[e,e] tn #[.slice (dd p (Int.toNat (ZG .i64 (n+((P:Nat):Int)))) l i) (k-Int.toNat (ZG .i64 (n+((P:Nat):Int)))) (l-Int.toNat (ZG .i64 (n+((P:Nat):Int)))),.slice (dd g (Int.toNat n) b i) (a-Int.toNat n) (b-Int.toNat n)]) w (λL M=>∃(N:Int),L= ZH N/\f (.returned (.slice p k l)) M) (λd j=>∀(_:cd) (_:cP),f (.panicked [{v:=d,recovered:=false}]) j))))) (λd c=>f (.panicked [{v:=d,recovered:=false}]) c))) (λd c=>f (.panicked [{v:=d,recovered:=false}]) c))) (((0:Int)<=(ZG .i64 (((a:Nat):Int)+((P:Nat):Int)))/\((ZG .i64 (((a:Nat):Int)+((P:Nat):Int))):Int)<=((b:Nat):Int)/\((0:Int)<=(ZG .i64 (n+((P:Nat):Int)))/\((ZG .i64 (n+((P:Nat):Int))):Int)<=(((Int.toNat (ZG .i64 (((a:Nat):Int)+((P:Nat):Int)))):Nat):Int)/\Tx h A #[.slice m P o,.slice (dd g (Int.toNat (ZG .i64 (n+((P:Nat):Int)))) b i) ((Int.toNat (ZG .i64 (((a:Nat):Int)+((P:Nat):Int))))-Int.toNat (ZG .i64 (n+((P:Nat):Int)))) (b-Int.toNat (ZG .i64 (n+((P:Nat):Int))))] u (λO x=>∃(y:Bool),O= .bool y/\al (!y) ((∀z,cy x z->((0:Int)<=(ZG .i64 (n+((P:Nat):Int)))/\((ZG .i64 (n+((P:Nat):Int))):Int)<=(((Int.toNat (ZG .i64 (((a:Nat):Int)+((P:Nat):Int)))):Nat):Int)/\((0:Int)<=n/\(n:Int)<=(((Int.toNat (ZG .i64 (((a:Nat):Int)+((P:Nat):Int)))):Nat):Int)/\aJ h (Builtin.copy_ #[e,e] tn #[.slice (dd g (Int.toNat (ZG .i64 (n+((P:Nat):Int)))) b i) ((Int.toNat (ZG .i64 (((a:Nat):Int)+((P:Nat):Int))))-Int.toNat (ZG .i64 (n+((P:Nat):Int)))) (b-Int.toNat (ZG .i64 (n+((P:Nat):Int)))),.slice (dd g (Int.toNat n) b i) ((Int.toNat (ZG .i64 (((a:Nat):Int)+((P:Nat):Int))))-Int.toNat n) (b-Int.toNat n)]) z (λQ R=>∃(S:Int),Q= ZH S/\((0:Int)<=n/\(n:Int)<=(((Int.toNat (ZG .i64 (((a:Nat):Int)+((P:Nat):Int)))):Nat):Int)/\aJ h (Builtin.copy_ #[e,e] tn #[.slice (dd g (Int.toNat n) b i) ((Int.toNat (ZG .i64 (((a:Nat):Int)+((P:Nat):Int))))-Int.toNat n) (b-Int.toNat n),.slice m P o]) R (λT wP=>∃(U:Int),T= ZH U/\f (.returned (.slice g (Int.toNat (ZG .i64 (((a:Nat):Int)+((P:Nat):Int)))) b)) wP) (λd c=>f (.panicked [{v:=d,recovered:=false}]) c))) (λd j=>∀(_:cd) (_:cP),f (.panicked [{v:=d,recovered:=false}]) j))))) (((0:Int)<=((a:Nat):Int)/\(((a:Nat):Int):Int)<=(((Int.toNat (ZG .i64 (((a:Nat):Int)+((P:Nat):Int)))):Nat):Int)/\aJ h (Builtin.copy_ #[e,e] tn #[.slice (dd g (Int.toNat ((a:Nat):Int)) b i) ((Int.toNat (ZG .i64 (((a:Nat):Int)+((P:Nat):Int))))-Int.toNat ((a:Nat):Int)) (b-Int.toNat ((a:Nat):Int)),.slice m P o]) x (λV W=>∃(X:Int),V= ZH X/\((0:Int)<=n/\(n:Int)<=(((Int.toNat (ZG .i64 (((a:Nat):Int)+((P:Nat):Int)))):Nat):Int)/\PC h q #[.slice (dd g (Int.toNat n) b i) ((Int.toNat (ZG .i64 (((a:Nat):Int)+((P:Nat):Int))))-Int.toNat n) (b-Int.toNat n),ZH ((P:Nat):Int)] W (λY Z=>Y= .tuple #[]/\f (.returned (.slice g (Int.toNat (ZG .i64 (((a:Nat):Int)+((P:Nat):Int)))) b)) Z) (λch c=>f (.panicked ch) c))) (λd c=>f (.panicked [{v:=d,recovered:=false}]) c)))) (λd c=>f (.panicked [{v:=d,recovered:=false}]) c))))) (λd c=>f (.panicked [{v:=d,recovered:=false}]) c))))
def FM(l:Program)(e p:TypeId)(m:Nat)(h:WP)(n b:Nat)(c P:Int)(f:World)(g:ZT):Prop:=
 ((0:Int)<=c/\(c:Int)<=P/\(P:Int)<=((n:Nat):Int)/\(((n:Nat):Int):Int)<=((b:Nat):Int)/\al ((c:Int)==P) (g (.returned (.slice h n b)) f) ((∀o,cy f o->((0:Int)<=c/\(c:Int)<=((b:Nat):Int)/\((0:Int)<=P/\(P:Int)<=((n:Nat):Int)/\aJ l (Builtin.append_ #[e,e] e #[.slice h (Int.toNat c) b,.slice (dd h (Int.toNat P) b m) (n-Int.toNat P) (b-Int.toNat P)]) o (λq r=>∃(i:WP) (a:Nat) (d:Nat),q= .slice i a d/\((0:Int)<=((a:Nat):Int)/\(((a:Nat):Int):Int)<=((n:Nat):Int)/\(((n:Nat):Int):Int)<=((d:Nat):Int)/\aJ l (Builtin.clear_ #[e] p #[.slice (dd i (Int.toNat ((a:Nat):Int)) d m) (Int.toNat ((n:Nat):Int)-Int.toNat ((a:Nat):Int)) (d-Int.toNat ((a:Nat):Int))]) r (λt s=>g (.returned (.slice i a d)) s) (λj f=>g (.panicked [{v:=j,recovered:=false}]) f))) (λj k=>∀(_:cd) (_:cP),g (.panicked [{v:=j,recovered:=false}]) k))))))
def rC(n:World)(P:Nat)(a:Array Value):aj (·=P) n (n.setRow P a):=by
 refine⟨rfl,rfl,rfl,by simp[World.setRow],λb e c=>?_⟩;show(n.heap.modify P _)[b]? =_;rw[Array.getElem?_modify,Zq (λd=>c d.symm)]
variable{d1:Addr}{m:Array Value}{A:ZT}{a4 e3:List Value}{F a c i r:Nat}{f:ZN}{d:WP}{h:Program}{j:Type}{C b8 g p:TypeId}{o t:ZR}{b:World}
def Nd{k bytes:Nat}(r:kQ h g p k bytes){a e c f P d n:Nat}{cs:List Value}(l:b.heap[a]? =some (.cells m b8 (0,0)))(u:Nat.min P c=n)(v:cs.length=n*k)(w:∀s i,cs[s]? =some i->b.cell? (d1.add s)=some i)(x:e+cs.length<=m.size)(y:∀i∈cs,i.oneCell'=true)(q:∀j,j.heap[a]? =some (.cells (m.toList.take e++cs++m.toList.drop (e+cs.length)).toArray b8 (0,0))->aj (·=a) b j->j.heap.size=b.heap.size->o (ZH (n:Int)) j):
  aJ h (Builtin.copy_ #[g,g] C #[.slice (some ⟨a,e,none⟩) c f,.slice (some d1) P d]) b o t:=by
 obtain⟨F,H,z,I,A,J,K⟩:=kQ.info r;have B:=run_firstCells_some (P:=h) b k n d1 P d cs v w;have E:=run_storeCells_at h a e b8 cs 0 m b l (by simpa using x) y;refine aJ.mk (w':=b.setRow a (m.toList.take e++cs++m.toList.drop (e+cs.length)).toArray) ?_ (q _ (setRow_heap b a m _ b8 (0,0) l) (rC b a _) ?_)
 ·simp[Builtin.copy_,run_underlying r.under,Builtin.lenOf,sizeOf,typeInfo,z,A,u,B,E,goInt]
 ·have L:=aA l
  simp[World.setRow]
def bV.drop{c:Type}{P:ky c}{d:World}{D:ZN}:∀{a:List c} {cs:List Value},bV P d D a cs->∀(n:Nat),bV P d D (a.drop n) (cs.drop (n*P.k))
 |a,cs,b,0=>by simpa using b
 |[],cs,b,n+1=>by
  have:cs=[]:=b;subst this;simp[bV]
 |x::a,cs,⟨i,j,f,g,h⟩,n+1=>by
  subst f;have e:=P.len g;rw[List.drop_succ_cons,X7,Nat.one_mul,Nat.add_comm,<-List.drop_drop,<-e,List.drop_left];rw[e];exact bV.drop h n
def gh(n:r≠i):dd (some ⟨a,c,none⟩) i r F=some ⟨a,c+i*F,none⟩:=by
 unfold dd;rw[Zq n];simp[Addr.add_lit]
def OM{cs news ROW:List Value}{A B C k:Nat}(d:cs.length=B)(e:news.length=k)(f:A<=B)(g:ROW.length=C)(h:B+k<=C)(a:ROW.take A=cs.take A)(n:a4=ROW.take A++news++ROW.drop (A+k))(P:e3=a4.take (A+k)++cs.drop A++a4.drop (A+k+(B-A))):a4.length=C/\e3.length=C/\e3.take (B+k)=cs.take A++news++cs.drop A:=by
 have b:a4.length=C:=by rw[n];simp;omega
 have c:a4.take (A+k)=cs.take A++news:=by
  rw[n,a,List.take_append_of_le_length be,Qz be]
 refine⟨b,by rw[P];simp;omega,?_⟩;rw[P,c,List.take_append_of_le_length be,Qz be]
def LR{cs news cur:List Value}{A B C k:Nat}(e:cs.length=B)(f:news.length=k)(g:A<=B)(h:cur.length=C)(i:B+k<=C)(a:cur.take A=cs.take A)(n:a4=cur.take (A+k)++cs.drop A++cur.drop (A+k+(B-A)))(P:e3=a4.take A++news++a4.drop (A+k)):a4.length=C/\e3.length=C/\e3.take (B+k)=cs.take A++news++cs.drop A:=by
 have b:a4.length=C:=by rw[n];simp;omega
 have c:a4.take A=cs.take A:=by
  rw[n,XQ,List.take_append_of_le_length be,List.take_take,X2 oM,a]
 have d:a4.drop (A+k)=cs.drop A++cur.drop (A+k+(B-A)):=by
  rw[n,XQ,List.drop_left' be]
 refine⟨b,by rw[P];simp;omega,?_⟩;rw[P,c,d,<-XQ,List.take_append_of_le_length be,Qz be]
def HM.own{x tn c:TypeId}{k bytes:Nat}{ov V:FuncId}(q:kQ h x c k bytes)(b2:h.underlying tn=some (.int .i64))(b3:∀t b,(callFunc ov t).run h b=((Extern.SlicesOverlaps.overlaps #[x,x] #[g] t).run h b).andThen λl j=>.ok (.value l) j){n a P y:Nat}{cs:List Value}(z:Own b c k d n a cs)(hi:P<=n)(B:b.heap[y]? =some (.cells m c (0,0)))(I:m.size=k)(W:∀l∈m.toList,l.oneCell'=true)(h1:∀l∈cs,l.oneCell'=true)(b4:aG d≠some y)(N:(n+1)*bytes<=aT)(hm:n+1<=maxLen)(X:∀E u j,Own j c k E (n+1) u (cs.take (P*k)++m.toList++cs.drop (P*k))->aj (λF=>aG d=some F) b j->(aG E=aG d\/aG E=some b.heap.size)->A (.returned (.slice E (n+1) u)) j):
  HM h x tn k ov V d n a P (ZM y) 1 1 b A:=by
 have hk:=q.pos;obtain⟨O,Y,a6,hz,hs,a7,b5⟩:=kQ.info q;have v:=z.length;have d5:=Own.RF z;unfold aT at N;unfold maxLen at hm;have b6:ZG .i64 ((n:Int)+((1:Nat):Int))=((n+1:Nat):Int):=by rw[wrap_i64 bc];simp
 have b7:ZG .i64 ((P:Int)+((1:Nat):Int))=((P+1:Nat):Int):=by rw[wrap_i64 bc];simp
 unfold HM;rw[b6,b7];simp only[Qx];refine⟨oM,oM,al.ff rfl (al.eN (λhe=>?_) (λd6=>?_))⟩
 ·
  obtain rfl:P=n:=oM
  refine Ae q (news:=m.toList) z B (by rw[Qz (by simp[I])]) (by simp[I]) W ba (by unfold maxLen;omega) λE c' J b8 b9 c4=>⟨_,_,_,rfl,X E c' J ?_ (b9.mono λF _ c=>c.symm) c4⟩
  rw[Qz oM,List.drop_of_length_le oM,List.append_nil];exact b8
 have c5:P<n:=oM
 rcases z.cases with⟨_,h0,_,_⟩|⟨w,cur,rfl,H,c6,Z,a1⟩
 ·omega
 have a5:w≠y:=λc=>b4 (by rw[c];rfl);have a2:P*k<=n*k:=Q0 _ hi;have d7:(P+1)*k<=n*k:=Q0 _ c5;have e1:(P+1)*k=P*k+k:=by rw[X7,Nat.one_mul]
 have e2:(n+1)*k=n*k+k:=by rw[X7,Nat.one_mul]
 have d8:n*k<=a*k:=Q0 _ c6;have c8:∀i,i<=n*k->cur.toList.take i=cs.take i:=λi e=>by rw[<-a1,List.take_take,X2 e]
 have a0:∀j:World,j.heap[w]? =some (.cells cur c (0,0))->∀i o,cs[i]? =some o->j.cell? ⟨w,i,none⟩=some o:=λj C i o e=>by
  refine ae C ?_;rw[<-a1,Xw]at e;split at e
  ·simpa using e
  ·cases e
 have p:(cs.drop (P*k)).length=(n-P)*k:=by rw[XZ,v,Nat.sub_mul]
 have s:m.toList.length=1*k:=by simp[I]
 have a3:a<=maxLen:=by
  obtain⟨_,cp,_,Q,_,_,_,a3,_⟩:=z.row.2.resolve_left (by rintro⟨z,_⟩;cases z);simp only[XX]at Q;rw[Q.2.2];exact a3
 have a8:∀j:World,j.heap[y]? =some (.cells m c (0,0))->∀i o,m.toList[i]? =some o->j.cell? ((⟨y,0,none⟩:Addr).add i)=some o:=λj C i o e=>by
  rw[Addr.add_lit,Xz];exact ae C (by simpa using e)
 refine aJ.mk (v:=ZH (a:Int)) (w':=b) (by simp[Builtin.cap_,run_underlying q.under,goInt]) ⟨_,rfl,al.dec (λd9=>?_) (λe0=>?_)⟩
 ·
  have a4:a=n:=oM
  have c9:ZG .i64 (((n+1:Nat):Int)-(P:Int))=((n+1-P:Nat):Int):=by rw[wrap_i64 bc];omega
  rw[c9];have c0:(Builtin.firstCells O.size P (.slice (ZM w) P a)).run h b.drew= .ok (cs.take (P*k)).toArray b.drew:=by
   rw[hs];exact run_firstCells_some b.drew k P ⟨w,0,none⟩ P a (cs.take (P*k)) (by rw[Qy,v];omega) (λi l e=>by
    rw[Addr.add_lit,Xz];rw[Xw]at e;split at e
    ·exact a0 b.drew H i l e
    ·cases e)
  have R:=Lib.run_append_grow_zeros (P:=h) b x tn x c O Y .i64 .i64 q.under b2 a6 hz (ZM w) P a (cs.take (P*k)) c0 (n+1-P) oM oM oM oM (by rw[a7];have:(n+1-P)*bytes<=(n+1)*bytes:=Q0 _ oM;omega)
   (by rw[a7,show P+(n+1-P)=n+1 by omega];exact growslice_fits oM N)
  rw[show P+(n+1-P)=n+1 by omega]at R;have hG:=grownCap_ge b (n+1) a c;have b0:=grownCap_le_maxLen b (n+1) a c (by unfold maxLen;omega);generalize grownCap b (n+1) a c=G at R hG b0;have e3:(n+1)*k<=G*k:=Q0 _ hG;generalize a9:(cs.take (P*k)).toArray++Builtin.zeroCells Y.cells (n+1-P)++Builtin.zeroCells Y.cells (G-(n+1))=f at R;have S:f.size=G*k:=by
   rw[<-a9];simp only[Array.size_append,List.size_toArray,Qy,v,Builtin.zeroCells,Array.size_map,Array.size_range,b5];rw[Nat.sub_mul,Nat.sub_mul];omega
  have Q:(cs.take (P*k)).length=P*k:=by rw[Qy,v];omega
  have c7:f.toList.take (P*k)=cs.take (P*k):=by
   rw[<-a9];simp only[Array.toList_append,XQ];rw[List.take_left' Q]
  have e4:=aA H;have e5:=aA B;have kd:ai b (b.drew.alloc (.cells f c)):=(aj.drewN b 1).then (aj.alloc _ _);have b1:(b.drew.alloc (.cells f c)).heap[b.heap.size]? =some (.cells f c (0,0)):=heap_alloc_new b.drew _;have d0:(b.drew.alloc (.cells f c)).heap.size=b.heap.size+1:=by
   rw[show b.heap.size=b.drew.heap.size from rfl];generalize b.drew=wd;simp
  refine⟨oM,oM,aJ.mk R ?_⟩;generalize b.drew.alloc (.cells f c)=K at b1 kd d0;refine⟨_,_,_,rfl,oM,oM,?_⟩;have r:(n-P)*k=n*k-P*k:=Nat.sub_mul ..;have d2:=OM (cs:=cs) (news:=m.toList) (ROW:=f.toList) (A:=P*k) (B:=n*k) (C:=G*k) (k:=k) v (by simp[I]) a2 (by simp[S]) oM c7 rfl rfl;obtain⟨c1,c2,c3⟩:=d2;rw[gh (show G≠P by omega)];refine Nd q b1 (n:=1) (by simp only[Nat.min_def];split<;>omega) s (a8 K (kd.get B id)) (by rw[s,S];omega) W λw2 g2 L s2=>⟨_,rfl,λJ d3=>?_⟩
  have M:ai w2 J:=d3.keep;have T:=M.get g2 id;have d4:=M.get (L.get (kd.get H id) oM) id;refine⟨oM,oM,oM,oM,?_⟩;rw[gh (show G≠P+1 by omega),gh (show a≠P by omega)];simp only[Xz,s,Nat.one_mul]at T⊢;rw[e1];refine Nd q T (n:=n-P) (by simp only[Nat.min_def];split<;>omega) p (λi o e=>?_) (by rw[List.size_toArray,c1,p,r];omega) (λl hv=>h1 l (List.mem_of_mem_drop hv)) λw4 g4 k4 s4=>⟨_,rfl,X _ _ _ ⟨⟨?_,.inr ⟨b.heap.size,G,_,rfl,Qj _,g4,hG,b0,?_,?_⟩⟩⟩ ?_ (.inr rfl)⟩
  ·rw[Addr.add_lit]
   rw[List.getElem?_drop]at e;exact a0 J d4 _ o e
  ·simp only[QX,Qy,v,s,p,r];omega
  ·rw[p,r,List.size_toArray];exact c2
  ·rw[p,r,e2];exact c3
  ·exact ai.keep ((kd.new L λF N=>.inr oM).then M|>.new k4 λF N=>.inr oM)
 ·
  have e6:O=O:=rfl;have a4:n+1<=a:=oM
  have r:(n-P)*k=n*k-P*k:=Nat.sub_mul ..;have e7:(n+1)*k<=a*k:=Q0 _ a4;obtain⟨c1,c2,c3⟩:=LR (cs:=cs) (news:=m.toList) (cur:=cur.toList) (A:=P*k) (B:=n*k) (C:=a*k) (k:=k) v (by simp[I]) a2 (by simp[Z]) oM (c8 _ a2) rfl rfl;rw[gh (show a≠P+1 by omega),gh (show a≠P by omega)];refine⟨oM,oM,oM,oM,_,b3 _,aJ.mk (v:=.bool false) (w':=b) ?_ ⟨_,rfl,al.tt rfl λK d1=>?_⟩⟩
  ·have S:∀b,(sizeOf c).run h b= .ok k b:=λb=>by simp[sizeOf,typeInfo,a6,hs]
   refine Lib.run_overlaps_apart (P:=h) b x g c q.under k S ⟨y,0,none⟩ ⟨w,0+(P+1)*k,none⟩ 1 1 _ _ (λc=>a5 c.symm) c c m.size cur.size (by simp[World.shape?,B]) (by simp[World.shape?,H]) (by rw[Z];omega) ?_ ?_
   ·simp[World.frozen?,B]
   ·simp[World.frozen?,B]
  have U:ai b K:=d1.keep;have s1:K.heap.size=b.heap.size:=by rw[d1.heap]
  refine⟨oM,oM,oM,oM,?_⟩;simp only[Xz,e1];refine Nd q (U.get H id) (n:=n-P) (by simp only[Nat.min_def];split<;>omega) p (λi o e=>?_) (by rw[Z,p,r];omega) (λl hv=>h1 l (List.mem_of_mem_drop hv)) λw2 g2 L s2=>⟨_,rfl,oM,oM,?_⟩
  ·rw[Addr.add_lit]
   rw[List.getElem?_drop]at e;exact a0 K (U.get H id) _ o e
  refine Nd q g2 (n:=1) (by simp only[Nat.min_def];split<;>omega) s (a8 w2 (L.get (U.get B id) (λc=>a5 c.symm))) (by rw[List.size_toArray,p,r,c1,s];omega) W λJ T M s3=>⟨_,rfl,X _ _ _ ⟨⟨?_,.inr ⟨w,a,_,rfl,Qj _,T,a4,a3,?_,?_⟩⟩⟩ ?_ (.inl rfl)⟩
  ·simp only[QX,Qy,v,s,p,r];omega
  ·simp only[p,r,s,Nat.one_mul];rw[List.size_toArray];exact c2
  ·simp only[p,r,s,Nat.one_mul];rw[e2];exact c3
  ·exact((ai.keep U).then (L.mono λF _ c=>by rw[c];rfl)).then (M.mono λF _ c=>by rw[c];rfl)
def HM.one{h:Program}{r tn s:TypeId}{bytes:Nat}{H y:FuncId}{z:Type}{c:ky z}(I:kQ h r s c.k bytes)(M:h.underlying tn=some (.int .i64)){tb:TypeId}(N:∀e b,(callFunc H e).run h b=((Extern.SlicesOverlaps.overlaps #[r,r] #[tb] e).run h b).andThen λA f=>.ok (.value A) f){b:World}{i:WP}{j k g C:Nat}{l:Array Value}{E D:ZN}{m:List z}{x:z}(o:aV c s E b i j k m)(O:g<=j)(Q:b.heap[C]? =some (.cells l s (0,0)))(F:c.rep b D x l.toList)(t:∀n,D n->n<b.heap.size/\aG i≠some n)(S:aG i≠some C)(P:(m.length+1)*bytes<=aT)(T:m.length+1<=maxLen){R:ZT}(U:∀u a f J,aV c s J f u (j+1) a (m.take g++x::m.drop g)->aj (λn=>aG i=some n) b f->(∀n,J n->E n\/D n\/b.heap.size<=n)->R (.returned (.slice u (j+1) a)) f):
  HM h r tn c.k H y i j k g (ZM C) 1 1 b R:=by
 have K:=o.len I.pos;obtain⟨cs,V,W,L,v⟩:=o.body;have X:=c.len F;refine HM.own I M N W O Q (by simpa using X) (c.one F) (λA Y=>L.RG A Y) S (by rw[K];exact P) (by rw[K];exact T) λu a f p w B=>?_;have a0:=w.size;refine U u a f (λn=>E n\/D n\/(b.heap.size<=n/\n<f.heap.size)) ⟨⟨_,λn=>V n\/D n,p,?_,?_⟩,?_,?_⟩ w ?_
 ·rw[XQ]
  have q:=(L.keep w λn P=>(v n P).2)
  exact bV.append ((q.take g).mono λn P=>.inl P) (bV.append (xs:=[x]) (bV.one (c.mono (c.keep F w λn P=>(t n P).2) λn P=>.inr P)) ((q.drop g).mono λn P=>.inl P))
 ·intro n P
  have a1:n<b.heap.size:=P.elim (λd=>o.aE n (v n d).1) λd=>(t n d).1;refine⟨P.elim (λd=>.inl (v n d).1) λd=>.inr (.inl d),?_⟩;rcases B with B|B
  ·rw[B];exact P.elim (λd=>(v n d).2) λd=>(t n d).2
  ·rw[B];intro Z;cases Z;omega
 ·intro n P
  rcases B with B|B
  ·exact .inl (o.self n (B▸P))
  ·have:=p.lt P
   rw[B]at P;cases P;exact .inr (.inr ⟨oM,this⟩)
 ·rintro n (P|P|P)
  ·have:=o.aE n P;omega
  ·have:=(t n P).1;omega
  ·exact P.2
 ·rintro n (P|P|P)
  ·exact .inl P
  ·exact .inr (.inl P)
  ·exact .inr (.inr P.1)
def NJ(n:Program)(P:TypeId):Bool:=match(n.info? P).bind (·.zero)with
 |some a=>a.cells.toList.all (·.oneCell')
 |none=>false
def RH{d bytes:Nat}(f:kQ h g p d bytes)(j:NJ h p=true)(s:b.heap[a]? =some (.cells m b8 (0,0)))(v:c+i*d<=m.size)(e:∀k n,k.heap[a]? =some (.cells n b8 (0,0))->n.size=m.size->n.toList.take c=m.toList.take c->aj (·=a) b k->k.heap.size=b.heap.size->o (.tuple #[]) k):
  aJ h (Builtin.clear_ #[g] C #[.slice (some ⟨a,c,none⟩) i r]) b o t:=by
 obtain⟨I,P,w,x,J,K,u⟩:=kQ.info f;have A:∀l∈P.cells.toList,l.oneCell'=true:=by
  unfold NJ at j;rw[w]at j;simp only[Option.bind_some,x,ZY]at j;exact j
 cases i with
 |zero=>exact aJ.mk (w':=b) (by simp[Builtin.clear_,run_underlying f.under]) (e b m s rfl rfl (aj.refl _) rfl)
 |succ i=>
  have y:(Builtin.zeroCells P.cells (i+1)).toList.length=(i+1)*d:=by simp[Builtin.zeroCells,u]
  have B:∀l∈(Builtin.zeroCells P.cells (i+1)).toList,l.oneCell'=true:=by
   intro l q;simp only[Builtin.zeroCells,Array.toList_map,Xk,u]at q;obtain⟨z,-,rfl⟩:=q;have E:z % d<P.cells.size:=by rw[u];exact Nat.mod_lt _ f.pos
   rw[getElem!_pos P.cells (z % d) E];exact A _ sM
  have F:=run_storeCells_at h a c b8 _ 0 m b s (by rw[y];simpa using v) B;have q:(zeroValue p).run h b= .ok P b:=by simp[zeroValue,typeInfo,w,x]
  refine aJ.mk (w':=b.setRow a (m.toList.take c++(Builtin.zeroCells P.cells (i+1)).toList++m.toList.drop (c+(Builtin.zeroCells P.cells (i+1)).toList.length)).toArray) ?_ (e _ _ (setRow_heap b a m _ b8 (0,0) s) ?_ ?_ (rC b a _) ?_)
  ·simp[Builtin.clear_,run_underlying f.under,q,F]
  ·have H:m.size=m.toList.length:=sM
   simp only[List.size_toArray,QX,Qy,XZ,y];rw[H]at v⊢;omega
  ·rw[XQ,List.take_left']
   simp;omega
  ·simp[World.setRow]
def FM.own{n bytes:Nat}(o:kQ h g C n bytes)(Q:NJ h C=true){cs:List Value}(l:Own b C n d a c cs)(R:i<a)(S:∀j∈cs,j.oneCell'=true)(T:a<=maxLen)(U:∀r,Own r C n d (a-1) c (cs.take (i*n)++cs.drop ((i+1)*n))->aj (λs=>aG d=some s) b r->A (.returned (.slice d (a-1) c)) r):
  FM h g p n d a c i (ZG .i64 ((i:Int)+1)) b A:=by
 have hk:=o.pos;obtain⟨iT,a5,V,hz,W,b2,b3⟩:=kQ.info o;have q:=l.length;unfold maxLen at T;rcases l.cases with⟨_,h0,_,_⟩|⟨e,P,rfl,X,Y,F,H⟩
 ·omega
 have t:c<=maxLen:=by
  obtain⟨_,cp,_,I,_,_,_,t,_⟩:=l.row.2.resolve_left (by rintro⟨l,_⟩;cases l);simp only[XX]at I;rw[I.2.2];exact t
 have Z:ZG .i64 ((i:Int)+1)=((i+1:Nat):Int):=by rw[wrap_i64 bc];simp
 have a6:i*n<=a*n:=Q0 _ oM;have b1:(i+1)*n<=a*n:=Q0 _ R;have e1:(i+1)*n=i*n+n:=by rw[X7,Nat.one_mul]
 have e3:(a-1)*n=a*n-n:=by rw[Nat.sub_mul,Nat.one_mul]
 have e4:(a-(i+1))*n=a*n-(i+1)*n:=Nat.sub_mul ..;have a7:a*n<=c*n:=Q0 _ Y;unfold FM;rw[Z];simp only[Qx];refine⟨oM,oM,oM,oM,al.eN (λhe=>oM) (λu f J=>⟨oM,oM,oM,oM,?_⟩)⟩;have K:ai b f:=J.keep;have s1:f.heap.size=b.heap.size:=by rw[J.heap]
 have v:=K.get X id;have w:(cs.drop ((i+1)*n)).length=(a-(i+1))*n:=by rw[XZ,q,Nat.sub_mul]
 have x:∃m,dd (ZM e) (i+1) c n=some ⟨e,m,none⟩/\(a≠i+1->m=(i+1)*n):=by
  by_cases L:c=i+1
  ·exact⟨0,by unfold dd;rw[Zx L],λu=>oM⟩
  ·exact⟨_,gh L,λ_=>oM⟩
 obtain⟨m,x,a8⟩:=x;rw[x];have a0:∀y j,(cs.drop ((i+1)*n))[y]? =some j->f.cell? ((⟨e,m,none⟩:Addr).add y)=some j:=λy j k=>by
  have a9:=(Qv.1 k).1;have u:a≠i+1:=by
   intro C;rw[w,C,Nat.sub_self,Nat.zero_mul]at a9;omega
  rw[a8 u,Addr.add_lit];rw[List.getElem?_drop]at k;refine ae v ?_;rw[<-H,Xw]at k;split at k
  ·simpa using k
  ·cases k
 have hf:=run_firstCells_some (P:=h) f n (a-(i+1)) ⟨e,m,none⟩ (a-(i+1)) (c-(i+1)) _ w a0;have M:=run_storeCells_at h e (i*n) C (cs.drop ((i+1)*n)) 0 P f v (by rw[w,F];omega) (λj hv=>S j (List.mem_of_mem_drop hv));have a1:i+(a-(i+1))=a-1:=oM
 refine aJ.mk (v:=.slice (ZM e) (a-1) c) (w':=f.setRow e (P.toList.take (i*n)++cs.drop ((i+1)*n)++P.toList.drop (i*n+(cs.drop ((i+1)*n)).length)).toArray) ?_ ⟨_,_,_,rfl,oM,oM,oM,?_⟩
 ·have a2:i+(a-(i+1))<=c:=oM
  have a3:a<=c+1:=oM
  simp only[Nat.add_zero]at M;simp[Builtin.append_,run_underlying o.under,sizeOf,typeInfo,V,W,Builtin.lenOf,a2,a3,hf,Addr.add_lit,M,a1]
 have z:=setRow_heap f e P (P.toList.take (i*n)++cs.drop ((i+1)*n)++P.toList.drop (i*n+(cs.drop ((i+1)*n)).length)).toArray C (0,0) v;have B:=rC f e (P.toList.take (i*n)++cs.drop ((i+1)*n)++P.toList.drop (i*n+(cs.drop ((i+1)*n)).length)).toArray;have b0:P.toList.length=c*n:=by simp[F]
 have E:(P.toList.take (i*n)++cs.drop ((i+1)*n)++P.toList.drop (i*n+(cs.drop ((i+1)*n)).length)).length=c*n:=by
  simp only[QX,Qy,XZ,q,b0];omega
 have N:(P.toList.take (i*n)++cs.drop ((i+1)*n)++P.toList.drop (i*n+(cs.drop ((i+1)*n)).length)).take ((a-1)*n)=cs.take (i*n)++cs.drop ((i+1)*n):=by
  rw[show P.toList.take (i*n)=cs.take (i*n) by rw[<-H,List.take_take,X2 a6]];rw[List.take_left'];simp only[QX,Qy,XZ,q];omega
 generalize P.toList.take (i*n)++cs.drop ((i+1)*n)++P.toList.drop (i*n+(cs.drop ((i+1)*n)).length)=R1 at z B E N;generalize f.setRow e R1.toArray=w2 at z B;rw[gh (show c≠a-1 by omega)];refine RH o Q z (by rw[List.size_toArray,E,show a-(a-1)=1 by omega];omega) λw3 a4 g3 c3 O k3 s3=>U w3 ⟨⟨?_,.inr ⟨e,c,a4,rfl,Qj _,g3,oM,t,?_,?_⟩⟩⟩ ?_
 ·simp only[QX,Qy,XZ,q];omega
 ·rw[c3,List.size_toArray,E]
 ·rw[Xz]at O;rw[O,N]
 ·exact((ai.keep K).then (B.mono λs _ C=>by rw[C];rfl)).then (k3.mono λs _ C=>by rw[C];rfl)
def FM.one{q tz k:TypeId}{bytes:Nat}{c:ky j}(u:kQ h q k c.k bytes)(v:NJ h k=true){P n a:Nat}{r:List j}(l:aV c k f b d P n r)(w:a<P)(x:P<=maxLen){R:ZT}(y:∀e,aV c k f e d (P-1) n (r.eraseIdx a)->aj (λg=>aG d=some g) b e->R (.returned (.slice d (P-1) n)) e):
  FM h q tz c.k d P n a (ZG .i64 ((a:Int)+1)) b R:=by
 obtain⟨cs,z,A,s,t⟩:=l.body;refine FM.own u v A w s.RG x λe m o=>y e ⟨⟨_,z,m,?_,t⟩,l.self,λg p=>Qk (l.aE g p) o.size⟩ o;have i:=(s.keep o λg p=>(t g p).2)
 rw[List.eraseIdx_eq_take_drop_succ];exact bV.append (i.take a) (i.drop (a+1))
end Go.aw
namespace Go.Proofs.YtjgjkeponbeekaaGreatDoor
open Go.aw
variable{e:Int}{s:List Int}{c5:List bu}{b5:List cZ}{a c i r:Nat}{f:ZN}{d:WP}{j:Type}{b:World}{y:ZU}{c4:bu}
def qI{n:List (Bx cZ)}{D:ZN}(e:Row lC.kr 32 b D d a n)(f:∀P,D P->P<b.heap.size):PP 253 #[.slice d a c] b (Ok (qC lC.kr 78 b n)):=
 iN (wW Ql dC e f λh i g=>Ok.mk g)
def Tc(k:aV aP 3 f b d a c s)(p:i<=a)(q:b.heap[r]? =some (.cells #[ZH e] 3 (0,0)))(t:aM e)(u:¬f r)(z:s.length<1000000):
  PP 312 #[.slice d a c,ZH (i:Int),.slice (ZM r) 1 1] b (Ok λv l=>∃P g h,v= .slice P (a+1) g/\aV aP 3 h l P (a+1) g (s.take i++e::s.drop i)/\cu f b h l):=by
 refine nK (HM.one (c:=aP) (tb:=4) (x:=e) (D:=λ_=>False) uW kR ?_ k p q ⟨rfl,t⟩ (λj n=>n.elim) (λw=>u (k.self r w)) ba (by unfold maxLen;omega) λP g l h m x y=>Ok.mk ⟨P,g,h,rfl,m,x.mono λj _ n=>k.self j n,λj n=>?_⟩)
 ·intro o b
  rw[run_callFunc_extern Tryz.func342 kR kR kR (e:=Extern.SlicesOverlaps.overlaps #[42,42] #[4]) kR]
 ·rcases y j n with n|n|n
  ·exact .inl n
  ·exact n.elim
  ·exact .inr n
def Td(e:aV aP 3 f b d a c s)(g:i<a)(m:a<1000000):
  PP 313 #[.slice d a c,ZH (i:Int),ZH (ZG .i64 ((i:Int)+1))] b (Ok λh n=>h= .slice d (a-1) c/\aV aP 3 f n d (a-1) c (s.eraseIdx i)/\aj f b n):=
 nN (FM.one (c:=aP) (tz:=0) uW kR e g (by unfold maxLen;omega) λn P j=>Ok.mk ⟨rfl,P,j.mono λk _ l=>e.self k l⟩)
def Wj(a:bu)(n:cZ)(P arg:Int):cZ:=
 if P=1 then{n with n:=qd (n.n+arg)}else if P=2 then{n with n:=arg}else if P=3 then{n with set:=qE arg n.set}
 else if P=4 then{n with set:=n.set.filter λb=>b !=arg}else{n with n:=(a.bG.getD arg.toNat ⟨0,0,0,0⟩).mR}
def Vp{n P arg:Int}(a:1<=P)(b:P<=5):Te c5 b5 n P arg=b5.set n.toNat (Wj (c5.getD n.toNat ⟨0,0,false,[]⟩) (b5.getD n.toNat ⟨0,[]⟩) P arg):=by
 have:P=1\/P=2\/P=3\/P=4\/P=5:=oM
 rcases this with rfl|rfl|rfl|rfl|rfl<;>rfl
section
variable {w w':World} {D E F:ZN} {f:bu} {ma ca:WP} {mn mc cn cc i:Nat} {arg:Int} {L:List (Bx cZ)} {bx:Bx cZ}
structure kU (w:World) (ca:WP) (cn cc:Nat) (L:List (Bx cZ)) (i:Nat) (bx:Bx cZ) (F:ZN):Prop where
 nx:aV lC.kr 78 (λb=>aG ca=some b) w ca cn cc L
 at':L[i]? =some bx
 set:aV aP 3 F w bx.a bx.n bx.c bx.x.set
 ap:∀b,F b->¬aG ca=some b
 ok:aM bx.x.n/\wS bx.x.set/\bx.x.set.length<=64
 fj:L.length<=1000000
def kU.af(n:kU w ca cn cc L i bx F)(P:ai w w'):kU w' ca cn cc L i bx F:=⟨n.nx.af P,n.at',n.set.af P,n.ap,n.ok,n.fj⟩
def kU.len(n:kU w ca cn cc L i bx F):i<cn:=by
 rw[n.nx.len dC];exact(Qv.1 n.at').1
def kU.cells(a:kU w ca cn cc L i bx F):∃n P,ca=some ⟨n,P,none⟩/\n<w.heap.size/\w.cell? ⟨n,P+i*2,none⟩=some (ZH bx.x.n)/\w.cell? ⟨n,P+i*2+1,none⟩=some (.slice bx.a bx.n bx.c):=by
 obtain⟨n,P,e,c,d,f,b,rfl,-⟩:=(a.nx.row (bytes:=32) dC (by have:=a.fj;unfold aT;omega)).el i bx a.at';exact⟨n,P,c,d,b 0 dC,b 1 dC⟩
def qJ(a:World)(ca:WP)(cn cc:Nat)(L:List (Bx cZ))(i:Nat)(F:ZN)(b:cZ)(w':World):Prop:=
 ∃(n:Bx cZ) (c:ZN),n.x=b/\aV lC.kr 78 (λP=>aG ca=some P) w' ca cn cc (L.set i n)/\aV aP 3 c w' n.a n.n n.c b.set/\aj (λP=>aG ca=some P\/F P) a w'/\∀P,c P->F P\/a.heap.size<=P
def Ku{d w:World}(f:ai d w)(P:kU w ca cn cc L i bx F)(g:ca=some ⟨a,c,none⟩)(h:∀w',aj (λa=>aG ca=some a) w w'->qJ d ca cn cc L i F {bx.x with n:=e} w'->y w'):
  PS w ⟨a,c+i*2,none⟩ (ZH e) y:=by
 refine aV.set (j:=0) (x':=⟨{bx.x with n:=e},bx.a,bx.n,bx.c⟩) P.nx P.at' dC rfl g λj k b m=>h j b ⟨_,F,rfl,k,P.set.keep b λa n l=>P.ap a n l,(ai.keep f).then (b.mono λa _ n=>.inl n),λa n=>.inl n⟩
def Qs{q P w:World}{j k:Nat}{f:ZN}(r:ai q P)(b:kU P ca cn cc L i bx F)(u:aV aP 3 f w d j k s)(g:cu F P f w)(l:ca=some ⟨a,c,none⟩)(v:∀w',qJ q ca cn cc L i F {bx.x with set:=s} w'->y w'):
  PS w ⟨a,c+i*2+1,none⟩ (.slice d j k) y:=by
 have m:aV lC.kr 78 (λa=>aG ca=some a) w ca cn cc L:=b.nx.keep g.1 λa n h=>b.ap a h n;have z:=b.nx.aE a (by rw[l];rfl);have x:∀e,f e->¬aG ca=some e:=λe o p=>by
  rcases g.2 e o with h|h
  ·exact b.ap e h p
  ·rw[l]at p;simp only[aG,Q1]at p;omega
 have A:=r.size;refine aV.set (j:=1) (x':=⟨{bx.x with set:=s},d,j,k⟩) m b.at' dC rfl l λP m t B=>v P ⟨_,f,rfl,m,u.keep t x,((ai.keep r).then (g.1.mono λa _ n=>.inr n)).then (t.mono λa _ n=>.inl n),λa n=>(g.2 a n).imp id λn=>oM⟩
def do_1(n:kU w ca cn cc L i bx F):PP 255 #[AL f ma mn mc ca cn cc (i:Int) arg] w (Ok λh w'=>h= .tuple #[]/\qJ w ca cn cc L i F {bx.x with n:=qd (bx.x.n+arg)} w'):=by
 have j:=n.len;refine AN (PA.mk λk l v m=>λo p=>⟨λP=>aG ca=some P,?_⟩);have d:ai k o:=p.keep;have e:=d.get m id;have c:=l.then d;obtain⟨P,q,a,r,s,x⟩:=(n.af c).cells;have y:=n.nx.aE P (by rw[a];rfl);refine ar (uV ..) e ⟨λg=>by rw[a]at g;simp only[aG,Q1]at g;omega,_,ae e rfl,PC.ok (iM a j) ?_⟩;rintro _ z ⟨rfl,b⟩;exact⟨_,rfl,ai.keep b,_,_,rfl,_,(b.cell (a:=⟨P,q+i*2,none⟩) r id).trans s,_,_,rfl,Ku (c.then b) (n.af (c.then b)) a λA t u=>⟨t,Ok.mk ⟨rfl,u⟩⟩⟩
def XT(n:kU w ca cn cc L i bx F):PP 258 #[AL f ma mn mc ca cn cc (i:Int) arg] w (Ok λh w'=>h= .tuple #[]/\qJ w ca cn cc L i F {bx.x with n:=arg} w'):=by
 have j:=n.len;refine AO (PA.mk λk l s m=>λo p=>⟨λa=>aG ca=some a,?_⟩);have d:ai k o:=p.keep;have e:=d.get m id;have b:=l.then d;obtain⟨a,t,P,u,v,x⟩:=(n.af b).cells;have y:=n.nx.aE a (by rw[P];rfl);refine ar (uV ..) e ⟨λg=>by rw[P]at g;simp only[aG,Q1]at g;omega,_,ae e rfl,PC.ok (iM P j) ?_⟩;rintro _ z ⟨rfl,c⟩;exact⟨_,rfl,ai.keep c,_,_,rfl,Ku (b.then c) (n.af (b.then c)) P λA q r=>⟨q,Ok.mk ⟨rfl,r⟩⟩⟩
def XU(a:kU w ca cn cc L i bx F)(g:Row jr 32 w E ma mn f.bG)(o:∀P,E P->¬aG ca=some P)(I:0<=arg)(J:arg<(mn:Int)):PP 263 #[AL f ma mn mc ca cn cc (i:Int) arg] w (Ok λp w'=>p= .tuple #[]/\qJ w ca cn cc L i F {bx.x with n:=(f.bG.getD arg.toNat ⟨0,0,0,0⟩).mR} w'):=by
 have q:=a.len;refine AP (PA.mk λr s K t=>λu v=>⟨λP=>aG ca=some P,?_⟩);have h:ai r u:=v.keep;have d:=h.get t id;have b:=s.then h;obtain⟨P,M,c,N,O,Q⟩:=(a.af b).cells;have R:=a.nx.aE P (by rw[c];rfl);have S:=g.len;obtain⟨n,rfl⟩:∃n:Nat,arg=n:=⟨arg.toNat,oM⟩
 have j:n<f.bG.length:=oM
 obtain⟨k,x,T,y,U,z,A,rfl,-⟩:=(g.af b).el n f.bG[n] (by simp[j]);have B:f.bG.getD n ⟨0,0,0,0⟩=f.bG[n]:=by simp[QQ,j]
 simp only[Qx,B];have l:¬aG ca=some w.heap.size:=λm=>by rw[c]at m;simp only[aG,Q1]at m;omega
 refine ar (uV ..) d ⟨l,_,_,_,ae d rfl,l,_,ae d rfl,k,x,y,oM,oM,o k z,_,A 1 dC,PC.ok (iM c q) ?_⟩;rintro _ V ⟨rfl,e⟩;exact⟨_,rfl,ai.keep e,_,_,rfl,Ku (b.then e) (a.af (b.then e)) c λW C H=>⟨C,Ok.mk ⟨rfl,H⟩⟩⟩
def X_(n:kU w ca cn cc L i bx F)(v:aM arg):PP 260 #[AL f ma mn mc ca cn cc (i:Int) arg] w (Ok λx w'=>x= .tuple #[]/\qJ w ca cn cc L i F {bx.x with set:=qE arg bx.x.set} w'):=by
 have y:=n.len;obtain⟨-,a,S⟩:=n.ok;refine Kv (PA.mk λT l U m=>ar (uV ..) m ?_);obtain⟨b,o,h,P,V,z⟩:=(n.af l).cells;have W:=n.nx.aE b (by rw[h];rfl);refine PC.ok (iM h y) ?_;rintro _ A ⟨rfl,c⟩;refine⟨_,rfl,λp B=>?_⟩;have d:ai A p:=B.keep;have e:=(l.then c).then d;have q:=d.get (c.get m id) id;have r:=((c.then d).cell (a:=⟨b,o+i*2+1,none⟩) P id).trans z;have s:=n.set.af e;refine⟨_,_,rfl,_,_,_,r,_,ae q rfl,PC.ok (tP (s.row (bytes:=8) dC ba) a) ?_⟩;rintro _ _ ⟨rfl,rfl⟩;have X:=n.set.len dC;refine⟨_,_,rfl,al.not (al.mk (λC=>Ok.mk ⟨rfl,?_⟩) (λE=>λH I=>?_))⟩
 ·have g:arg∈bx.x.set:=XV C
  refine⟨bx,F,by rw[uS g a],?_,by rw[uS g a];exact s,ai.keep e,λb P=>.inl P⟩;have:L.set i bx=L:=by
   apply X3;intro Y;rw[Xj];split
   ·rename_i J;subst J;rw[Zx (Qv.1 n.at').1,n.at']
   ·rfl
  rw[this];exact n.nx.af e
 ·have g:arg∉bx.x.set:=Xy E
  have j:ai p H:=I.keep;have K:=j.get q id;have t:=e.then j;refine⟨no,_,_,rfl,id,_,_,_,(j.cell (a:=⟨b,o+i*2+1,none⟩) (Qk P (c.then d).size) id).trans r,_,ae K rfl,PA.mk λZ u s5 M=>⟨ai.keep u,?_⟩⟩;have k:=t.then u;have a1:=AF (λN=>decide (N<arg)) bx.x.set;have z4:=t.size;refine PC.ok (Tc (n.set.af k) oM M v (λP=>by have:=n.set.aE _ P;omega) oM) ?_;rintro _ w6 ⟨a',c',F',rfl,O,Q⟩;rw[HH a g];exact⟨_,_,_,rfl,_,_,rfl,Qs k (n.af k) O Q h λw7 R=>Ok.mk ⟨rfl,R⟩⟩
def Ya(n:kU w ca cn cc L i bx F):PP 261 #[AL f ma mn mc ca cn cc (i:Int) arg] w (Ok λo w'=>o= .tuple #[]/\qJ w ca cn cc L i F {bx.x with set:=bx.x.set.filter λp=>p !=arg} w'):=by
 have q:=n.len;obtain⟨-,h,I⟩:=n.ok;refine C_ (PA.mk λJ j K k=>ar (uV ..) k ?_);obtain⟨c,r,l,P,M,s⟩:=(n.af j).cells;refine PC.ok (iM l q) ?_;rintro _ t ⟨rfl,d⟩;refine⟨_,rfl,λu v=>?_⟩;have e:ai t u:=v.keep;have a:=(j.then d).then e;have x:=e.get (d.get k id) id;have m:=((d.then e).cell (a:=⟨c,r+i*2+1,none⟩) P id).trans s;have g:=n.set.af a;refine⟨_,_,rfl,_,_,_,m,_,ae x rfl,PC.ok (tP (g.row (bytes:=8) dC ba) h) ?_⟩;rintro _ _ ⟨rfl,rfl⟩;have N:=n.set.len dC;refine⟨_,_,rfl,al.mk (λy=>?_) (λz=>Ok.mk ⟨rfl,?_⟩)⟩
 ·have b:arg∈bx.x.set:=XV y
  obtain⟨A,O⟩:=MH h b;refine⟨_,_,rfl,_,_,_,m,PC.ok (Td g oM oM) ?_⟩;rintro _ Q ⟨rfl,B,C⟩;rw[A];exact⟨_,_,_,rfl,_,_,rfl,Qs a (n.af a) B ⟨C,λc P=>.inl P⟩ l λR E=>Ok.mk ⟨rfl,E⟩⟩
 ·have b:arg∉bx.x.set:=Xy z
  refine⟨bx,F,by rw[HJ b],?_,by rw[HJ b];exact g,ai.keep a,λc P=>.inl P⟩;have:L.set i bx=L:=by
   apply X3;intro S;rw[Xj];split
   ·rename_i H;subst H;rw[Zx (Qv.1 n.at').1,n.at']
   ·rfl
  rw[this];exact n.nx.af a
end
def MK(n:Int):aM (qd n):=by
 unfold qd ZG aM;simp[IntKind.signed,IntKind.bits];omega
def Qt(n:e∉s):(qE e s).length=s.length+1:=by
 induction s with
 |nil=>rfl
 |cons a s P=>
  simp only[Q2,not_or]at n;unfold qE;rw[Zq n.1];split
  ·rfl
  ·simp[P n.2]
def Qu{n:List j}{P:j}(b:n[a]? =some P):n.set a P=n:=by
 apply X3;intro d;rw[Xj];split
 ·rename_i c;subst c;rw[Zx (Qv.1 b).1,b]
 ·rfl
section
variable {w w':World} {D E F:ZN} {t:List bu} {cells:List cZ} {op arg:Int} {ma ca ta:WP} {mn mc cn cc tn tc i:Nat} {L:List (Bx cZ)} {bx:Bx cZ}
def Vq{n:cZ}(a:∀f∈c4.bG,kV.Ok f)(g:aM n.n/\wS n.set/\n.set.length<=64)(i:aM arg)(j:op=3->arg∈n.set\/n.set.length<64):
  aM (Wj c4 n op arg).n/\wS (Wj c4 n op arg).set/\(Wj c4 n op arg).set.length<=64:=by
 obtain⟨e,P,b⟩:=g;unfold Wj
 split
 ·exact⟨MK _,P,b⟩
 split
 ·exact⟨i,P,b⟩
 split
 ·rename_i h
  refine⟨e,Eb P,?_⟩
  by_cases a:arg∈n.set
  ·show(qE arg n.set).length<=64
   rw[uS a P];exact b
  ·show(qE arg n.set).length<=64
   rw[Qt a];rcases j h with h|h
   ·exact Zz h a
   ·omega
 split
 ·exact⟨e,P.sublist List.filter_sublist,Xx (List.length_filter_le ..) b⟩
 ·refine⟨?_,P,b⟩
  show aM (c4.bG.getD arg.toNat ⟨0,0,0,0⟩).mR
  by_cases c:arg.toNat<c4.bG.length
  ·have d:c4.bG.getD arg.toNat ⟨0,0,0,0⟩=c4.bG[arg.toNat]:=by simp[QQ,c]
   rw[d];exact(a _ (XY c)).2.1
  ·have d:c4.bG.getD arg.toNat ⟨0,0,0,0⟩=⟨0,0,0,0⟩:=by simp[QQ,Q7 (Nat.le_of_not_lt c)]
   rw[d];simp[aM]
def Tf(P:HP t cells (i:Int) op arg)(d:aM arg)(a:Row jr 32 w E ma mn (t.getD i ⟨0,0,false,[]⟩).bG)(e:∀b,E b->¬aG ca=some b)(n:kU w ca cn cc L i bx F):
  enters ZP (XD op)=true/\PP (XD op) (#[]++ #[AL (t.getD i ⟨0,0,false,[]⟩) ma mn mc ca cn cc (i:Int) arg]++ #[]) w (Ok λf w'=>f= .tuple #[]/\qJ w ca cn cc L i F (Wj (t.getD i ⟨0,0,false,[]⟩) bx.x op arg) w'):=by
 have h:=P.Ww;have j:=P.Wx;have:op=1\/op=2\/op=3\/op=4\/op=5:=oM
 rcases this with rfl|rfl|rfl|rfl|rfl
 ·exact⟨kR,do_1 n⟩
 ·exact⟨kR,XT n⟩
 ·exact⟨kR,X_ n d⟩
 ·exact⟨kR,Ya n⟩
 ·obtain⟨g,c,k⟩:=P.mv rfl
  rw[Qx]at c;exact⟨kR,XU n a e g (by rw[a.len];exact c)⟩
structure Wz (w9:World) (ca:WP) (cn cc:Nat) (D:ZN) (cells:List cZ) (j:Nat) (w':World) (L:List (Bx cZ)) (Fi:Nat->ZN):Prop where
 nx:aV lC.kr 78 (λb=>aG ca=some b) w' ca cn cc L
 eq:L.map (·.x)=cells
 own:∀i b,i<j->L[i]? =some b->aV aP 3 (Fi i) w' b.a b.n b.c b.x.set
 aE:∀i x,Fi i x->w9.heap.size<=x/\x<w'.heap.size/\¬aG ca=some x
 ap:∀i k x,i≠k->Fi i x->¬Fi k x
 Ag:∀i x,j<=i->¬Fi i x
 keep:aj (λb=>aG ca=some b) w9 w'
def Tg{s:Int}(o:HP t cells s op arg)(M:wV t cells s op arg=0)(a2:aM arg)(e2:t.length<=64)(ht:Row sG 48 w E ta tn t)(hE:∀P,E P->P<w.heap.size)(h:Row gB 32 w D ca cn cells)(hD:∀P,D P->P<w.heap.size):
  PP 252 #[.agg #[.slice ta tn tc],.slice ca cn cc,ZH s,ZH op,ZH arg] w (Ok (qC gB 78 w (Te t cells s op arg))):=by
 obtain⟨i,rfl⟩:∃i:Nat,s=i:=⟨s.toNat,by have:=o.f0;omega⟩
 obtain⟨l,A,l2,l3⟩:=fl.boxes h;have e3:=o.len;have e4:l.length=cells.length:=by rw[<-A];simp
 refine NV (PA.mk λw1 k1 s1 g1=>PC.ok (qI (l2.af k1) λP b=>by have:=hD P b;omega) ?_);rintro _ N ⟨m,q,C,F9,rfl,v,O,d4⟩;have e5:=v.len dC;have e6:=h.len;have x:∀P,aG m=some P->w1.heap.size<=P:=λP b=>d4 P (v.self P b);have Q:∀P,aG m=some P->P<N.heap.size:=λP b=>v.aE P (v.self P b);refine⟨_,_,_,rfl,λR a8 w'=>∃d:Nat,a8=d/\d<=q/\R=q-d/\∃L p,Wz N m q C D cells d w' L p/\∀a,d<=a->L[a]? =l[a]?,
  ⟨_,0,rfl,Qj _,rfl,l,λ_ _=>False,⟨v.alone,A,λi P hi=>oM,λ_ _ h=>h.elim,λ_ _ _ _ h=>h.elim,λ_ _ _=>id,aj.refl _⟩,λa _=>rfl⟩,?_⟩
 rintro R _ _ b8 ⟨d,rfl,hj,rfl,L,p,c,a3⟩;have e7:L.length=cells.length:=by rw[<-c.eq];simp
 have F:ai w b8:=(k1.then O).new c.keep λP b=>.inr (by have:=x P b;omega);refine al.dec (λe8=>?_) (λe9=>?_)
 ·have b9:d<l.length:=oM
  have S:l[d]? =some l[d]:=Qq b9;obtain⟨P,T,es,U,b,f6,a9,rfl,-⟩:=(l2.af F).el d l[d] S;have d5:=l3 l[d] (XY b9);refine⟨P,T,U,oM,oM,_,_,_,a9 1 dC,PC.ok (bP (d5.1.af F) λP b=>by have:=hD P b;have:=F.size;omega) ?_⟩;rintro _ f8 ⟨g0,g2,g3,G,rfl,a4,H,I⟩;have a5:=c.nx.af H;have hz:=c.keep.size;obtain⟨y,c1⟩:∃y,m=ZM y:=by
   rcases a5.body with⟨cs,D',ho,-⟩;rcases ho.cases with⟨-,hn,-⟩|⟨y,b0,e,-⟩
   ·omega
   ·exact⟨y,e⟩
  refine⟨_,_,_,rfl,y,0,c1,oM,oM,?_⟩;simp only[Qx];refine fl.set a5 (by rw[a3 d (Q4 _)];exact S) c1 λg4 c2 V g5=>⟨_,?_,d+1,an oM,oM,rfl,_,λa=>if a=d then G else p a,⟨c2,?_,?_,?_,?_,?_,?_⟩,?_⟩
  ·omega
  ·rw[List.map_set,c.eq,Qu]
   rw[<-A,Q9,S];rfl
  ·intro a P k b
   rw[Xj]at b
   by_cases W:d=a
   ·subst W
    rw[Zx rfl,Zx oM]at b
    cases b
    rw[Zx rfl];exact a4.keep V λn B e=>by have:=I n B;have:=Q n e;omega
   ·rw[Zq W]at b
    rw[Zq (λe=>W e.symm)];exact((c.own a P oM b).af H).keep V λn B e=>(c.aE a n B).2.2 e
  ·intro a n B
   split at B
   ·have:=I n B;have:=a4.aE n B;exact⟨oM,oM,λe=>by have:=Q n e;omega⟩
   ·have J:=c.aE a n B;have:=H.size;exact⟨J.1,oM,J.2.2⟩
  ·intro a k' n X B f
   split at B<;>split at f
   ·omega
   ·have:=I n B;have:=c.aE k' n f;omega
   ·have:=I n f;have:=c.aE a n B;omega
   ·exact c.ap a k' n X B f
  ·intro a n k B
   rw[Zq oM]at B;exact c.Ag a n oM B
  ·exact(c.keep.af H).then V
  ·intro a k
   rw[Xj,Zq oM,a3 a oM]
 ·have g6:d=q:=oM
  refine PC.ok AK ?_;rintro _ g7 ⟨f0,rfl,Y,Z⟩;refine⟨_,rfl,jC AJ lD Y ?_⟩;rw[MI o.Ww o.Wx];refine⟨_,_,_,rfl,PA.mk λg8 d6 g9 d7=>aC (Qp op) d7 rfl λd8 d9 h0 b3=>al.tt rfl λwP e0=>?_⟩;have c3:ai d8 wP:=e0.keep;have u:ai b8 wP:=((Z.then d6).new d9 λP b=>.inr (by have:=Z.size;omega)).then c3;have c4:=F.then u;have b3:=c3.get b3 id;have z9:=c.keep.size;have h2:=Z.size;have h4:=O.size;have gt:=u.get (c.keep.get (O.get g1 id) (λe=>by have:=x _ e;omega)) id;have h5:=o.f1;have h6:=ht.len;obtain⟨P,T,f5,f7,b1,U,b,h7,f1,f2,f3,f4,c5⟩:=FU (ht.af c4) (i:=i) oM;have c6:i<L.length:=oM
  have K:L[i]? =some L[i]:=Qq c6;generalize L[i]=bx at K;have b4:cells[i]? =some bx.x:=by rw[<-c.eq,Q9,K];rfl
  have c7:cells.getD i ⟨0,[]⟩=bx.x:=by rw[QQ,b4];rfl
  have a0:∀(a:Nat) (n:cZ),cells[a]? =some n->aM n.n/\wS n.set/\n.set.length<=64:=λa n B=>by
   rw[<-A,Q9]at B
   cases hL:l[a]? with
   |none=>rw[hL]at B;cases B
   |some b2=>rw[hL]at B;cases B;exact(l3 b2 (QZ hL)).2
  have c8:kU wP m q C L i bx (p i):=⟨c.nx.af u,K,(c.own i bx oM K).af u,λP b=>(c.aE i P b).2.2,a0 i _ b4,oM⟩
  obtain⟨a1,r⟩:=Tf (mc:=b1) o a2 c5 (λP b e=>by have:=hE P b;have:=x P e;omega) c8;refine⟨_,ae b3 rfl,_,_,_,ae gt rfl,P,T,U,oM,oM,_,_,_,_,_,_,f1,f2,f3,f4,_,_,_,rfl,a1,PC.ok r ?_⟩;rintro _ b5 ⟨rfl,g,z,f,d0,a6,b6,d1⟩;have h8:=b6.size;have zg:=u.size;have b7:∀n,z n->N.heap.size<=n:=λn B=>by
   rcases d1 n B with h|h
   ·exact(c.aE i n h).1
   ·omega
  have d2:∀a P,(L.set i g)[a]? =some P->aV aP 3 (λn=>if a=i then z n else p a n) b5 P.a P.n P.c P.x.set:=λa P b=>by
   rw[Xj]at b
   by_cases k:i=a
   ·subst k
    rw[Zx rfl,Zx c6]at b
    cases b
    simp only[if_true];rw[f];exact a6
   ·rw[Zq k]at b
    simp only[Zq (λe:a=i=>k e.symm)];have h9:=(Qv.1 b).1;refine((c.own a P oM b).af u).keep b6 λn B e=>?_;rcases e with e|e
    ·exact(c.aE a n B).2.2 e
    ·exact c.ap a i n (λe=>k e.symm) B e
  have a7:∀P∈L.set i g,aM P.x.n/\wS P.x.set/\P.x.set.length<=64:=λP b=>by
   obtain⟨a,k,rfl⟩:=List.getElem_of_mem b;have j:(L.set i g)[a]? =some (L.set i g)[a]:=Qq k;generalize(L.set i g)[a]=P at j;rw[Xj]at j
   by_cases d3:i=a
   ·rw[Zx d3,Zx oM]at j
    cases j
    rw[f];refine Vq (λR Y=>?_) (a0 i _ b4) a2 λh3=>?_
    ·obtain⟨c0,hq,rfl⟩:=List.getElem_of_mem Y
     obtain⟨b',o',es,-,-,-,-,-,e1⟩:=c5.el c0 _ (Qq hq);exact e1
    ·rw[FR]at M
     have b:Qm t cells (i:Int) op arg=true:=by
      cases hq:Qm t cells (i:Int) op arg
      ·rw[hq]at M;simp at M
      ·rfl
     unfold Qm at b;subst h3;simp only[Qx,c7]at b;simpa using b
   ·rw[Zq d3]at j
    exact a0 a _ (by rw[<-c.eq,Q9,j];rfl)
  have c9:∀P∈L.set i g,P.x.set.length<=64:=λP b=>(a7 P b).2.2;have hU:aV lC.NU 78 (λn=>aG m=some n\/((∃a,a≠i/\p a n)\/z n)) b5 m q C ((L.set i g).map (·.x)):=by
   refine fl.unbox (N:=lC) (D:=λn=>(∃a,a≠i/\p a n)\/z n) d0 (λP b=>(⟨?_,a7 P b⟩:lC.In b5 _ P)) (λn B=>?_)
   ·obtain⟨a,k,rfl⟩:=List.getElem_of_mem b
    have J:=d2 a _ (Qq k);refine(J.row (bytes:=8) dC ?_).mono λn B=>?_
    ·have:=c9 _ b;unfold aT;omega
    ·split at B
     ·exact .inr B
     ·rename_i X;exact .inl ⟨a,X,B⟩
   ·rcases B with⟨a,-,B⟩|B
    ·have:=c.aE a n B;exact⟨oM,this.2.2⟩
    ·refine⟨a6.aE n B,λe=>?_⟩
     rcases d1 n B with h|h
     ·exact(c.aE i n h).2.2 e
     ·have:=Q n e;omega
  refine⟨rfl,Ok.mk ⟨m,q,C,(λn=>aG m=some n\/((∃a,a≠i/\p a n)\/z n)),rfl,?_,?_,?_⟩⟩
  ·rw[Vp o.Ww o.Wx,Qx,c7,<-f,<-c.eq,<-List.map_set];exact hU
  ·exact c4.new b6 λn B=>.inr (by
    rcases B with B|B
    ·have:=x n B;omega
    ·have:=(c.aE i n B).1;omega)
  ·rintro n (B|⟨a,-,B⟩|B)
   ·have:=x n B;omega
   ·have:=(c.aE a n B).1;omega
   ·have:=b7 n B;omega
end
end Go.Proofs.YtjgjkeponbeekaaGreatDoor
namespace Go.aw
open Go
variable{d:WP}{y:ZU}
section
variable {α β:Type} {N:fl α β} {w9 w w':World} {a:WP} {n c j:Nat} {L0:List (Bx α)} {e:TypeId}
def dV(N:fl α β)(e:TypeId)(w9:World)(a:WP)(n c:Nat)(L0:List (Bx α))(j:Nat)(w':World):Prop:=
 ∃(b:List (Bx α)) (g:ZN),aV N.kr e (λP=>aG a=some P) w' a n c b/\b.map (·.x)=L0.map (·.x)/\(∀(h:Nat) (P:Bx α),h<j->b[h]? =some P->N.In w' g P)/\(∀f:Nat,j<=f->b[f]? =L0[f]?)/\
  aj (λP=>aG a=some P) w9 w'/\∀d,g d->w9.heap.size<=d/\d<w'.heap.size/\¬aG a=some d
def dV.start(P:aV N.kr e (λb=>aG a=some b) w9 a n c L0):dV N e w9 a n c L0 0 w9:=
 ⟨L0,λ_=>False,P,rfl,λd b f=>oM,λ_ _=>rfl,aj.refl _,λ_ P=>P.elim⟩
def dV.af(b:dV N e w9 a n c L0 j w)(P:ai w w'):dV N e w9 a n c L0 j w':=by
 obtain⟨h,i,k,l,m,o,p,d⟩:=b;exact⟨h,i,k.af P,l,λq r s t=>(m q r s t).keep P λ_ _ b=>b,o,p.af P,λf g=>⟨(d f g).1,Qk (d f g).2.1 P.size,(d f g).2.2⟩⟩
def dV.keep(P:dV N e w9 a n c L0 j w):aj (λb=>aG a=some b) w9 w:=P.elim λd P=>P.elim λD P=>P.2.2.2.2.1
def dV.len(P:dV N e w9 a n c L0 j w):n=L0.length:=by
 obtain⟨g,h,b,d,-⟩:=P;have:=Zj List.length d;simp at this;have f:0<N.k:=Nat.lt_of_le_of_lt (Qj _) N.ho;rw[b.len f,this]
def dV.some(b:dV N e w9 a n c L0 j w)(h:j<n):∃P,a=ZM P:=by
 obtain⟨i,k,d,-⟩:=b;rcases d.body with⟨cs,l,f,-⟩;rcases f.cases with⟨-,m,-⟩|⟨P,g,e,-⟩
 ·omega
 ·exact⟨P,e⟩
def dV.cell(l:dV N e w9 a n c L0 j w){g:Nat}(m:a=Option.some ⟨g,0,none⟩){P:Bx α}(o:L0[j]? =Option.some P)(p:n*N.k<=aT):∀d f,(N.hd P.x P.a P.n P.c)[d]? =Option.some f->w.cell? ⟨g,0+j*N.k+d,none⟩=Option.some f:=by
 obtain⟨t,u,h,v,x,q,y,z⟩:=l;have i:0<N.k:=Nat.lt_of_le_of_lt (Qj _) N.ho;have r:=h.row (bytes:=N.k) i (by rw[<-h.len i];exact p);obtain⟨A,B,C,b,-,-,s,rfl,-⟩:=r.el j P (by rw[q j (Q4 _)];exact o);rw[m]at b;cases b
 intro d f k;rw[<-k];exact s d (by have:=(Qv.1 k).1;rw[N.hl]at this;exact this)
def dV.step(v:dV N e w9 a n c L0 j w){g:Nat}(m:a=Option.some ⟨g,0,none⟩){b:Bx α}(h:L0[j]? =Option.some b){o x:Nat}{G:ZN}(z:Row N.ci N.ib w G d o (N.inner b.x))(A:N.ok b.x)(i:∀P,G P->w9.heap.size<=P/\P<w.heap.size)(Q:g<w9.heap.size)(k:∀w',dV N e w9 a n c L0 (j+1) w'->aj (λb=>aG a=Option.some b) w w'->w'.heap.size=w.heap.size->y w'):
  PS w ⟨g,0+j*N.k+N.o,none⟩ (.slice d o x) y:=by
 obtain⟨C,E,F,H,I,p,J,q⟩:=v;have r:C[j]? =Option.some b:=by rw[p j (Q4 _)];exact h
 have K:=(Qv.1 r).1;have s:∀P,G P->¬aG a=Option.some P:=λP B e=>by
  have:=(i P B).1;rw[m]at e;simp only[aG,Q1]at e;omega
 refine fl.set F r m λL M f l=>k L ⟨_,λP=>E P\/G P,M,?_,?_,?_,J.then f,?_⟩ f l
 ·rw[List.map_set,H]
  apply X3;intro R;rw[Xj];split
  ·rename_i e;subst e
   rw[Zx (by simpa using(Qv.1 h).1),Q9,h];rfl
  ·rfl
 ·intro t P S B
  rw[Xj]at B
  by_cases u:j=t
  ·subst u
   rw[Zx rfl,Zx K]at B
   cases B
   exact⟨(z.keep f λP B=>s P B).mono λP B=>.inr B,A⟩
  ·rw[Zq u]at B
   exact((I t P oM B).keep f λP B=>(q P B).2.2).mono λP B=>.inl B
 ·intro O T
  rw[Xj,Zq oM,p O oM]
 ·rintro P (B|B)
  ·rw[l];exact q P B
  ·rw[l];exact⟨(i P B).1,(i P B).2,s P B⟩
def dV.done(f:dV N e w9 a n c L0 n w):∃g,aV N.NU e g w a n c (L0.map (·.x))/\∀P,g P->aG a=Option.some P\/w9.heap.size<=P:=by
 have q:=f.len;obtain⟨i,j,k,h,l,r,s,d⟩:=f;have t:i.length=L0.length:=by have:=Zj List.length h;simpa using this
 rw[<-h];refine⟨_,fl.unbox (D:=j) k (λu m=>?_) λP b=>⟨(d P b).2.1,(d P b).2.2⟩,λP b=>b.imp id λb=>(d P b).1⟩;obtain⟨o,p,rfl⟩:=List.getElem_of_mem m;exact l o _ oM (Qq p)
end
end Go.aw
namespace Go.Proofs.YtjgjkeponbeekaaGreatDoor
open Go.aw
def nC:fl ah Int where
 k:=10
 ci:=aP
 ib:=8
 inner:=(·.aN)
 hd:=aH
 ok:=ah.Ok
 hl:=λ_ _ _ _=>rfl
 h1:=λP a b c d n=>by
  simp only[aH,Q2,List.not_mem_nil,or_false]at n;rcases n with rfl|rfl|rfl|rfl|rfl|rfl|rfl|rfl|rfl|rfl<;>rfl
 o:=3
 ho:=dC
 fO:=λ_ _ _ _ _ _ _=>rfl
def TH:nC.NU=ku:=rfl
def Kl:fl bu kV where
 k:=4
 ci:=jr
 ib:=32
 inner:=(·.bG)
 hd:=ft
 ok:=λn=>aM n.kind/\aM n.dW
 hl:=λ_ _ _ _=>rfl
 h1:=λa b c d e P=>by
  simp only[ft,Q2,List.not_mem_nil,or_false]at P;rcases P with rfl|rfl|rfl|rfl<;>rfl
 o:=3
 ho:=dC
 fO:=λ_ _ _ _ _ _ _=>rfl
def HC:Kl.NU=sG:=rfl
variable{e:Int}{b5:List cZ}{a c:Nat}{d:WP}
section
variable {w w':World} {D E F:ZN}
def pt{e:ah}{w:World}{D:ZN}(h:Row aP 8 w D d a e.aN)(s:∀n,D n->n<w.heap.size):
  PP 200 #[kN e d a c] w (Ok λt w'=>∃d a c G,t=kN e d a c/\Row aP 8 w' G d a e.aN/\(∀n,G n->w.heap.size<=n/\n<w'.heap.size)/\ai w w'):=by
 have u:=h.fj;have v:=h.len;refine Gt (PA.mk λz l A b=>PA.mk λB f C i=>⟨_,_,_,ae (f.get b id) rfl,PC.ok (bP (h.af (l.then f)) λn P=>by have:=s n P;omega) ?_⟩);rintro _ E ⟨m,o,p,G,rfl,q,g,j⟩;have b:=g.get (f.get b id) id;have i:=g.get i id;refine⟨_,_,_,rfl,PS.mk b (by simp[aH]) λF k H x=>?_⟩;refine ar (cs:=aH e m o p) (bg _ _ _ _) x (aC (bg _ _ _ _) (k.get i oM) rfl λI r J y=>ar (bg _ _ _ _) y (Ok.mk ⟨m,o,p,G,rfl,?_,?_,?_⟩))
 ·refine(((q.keep k λn P=>?_).keep r λn P=>?_).row (bytes:=8) dC (by rw[<-v];exact u))
  ·have:=j n P;omega
  ·have:=j n P;omega
 ·intro n P
  have:=j n P;have:=q.aE n P;omega
 ·have K:=g.size
  exact((aj.new ((l.then f).then g) k λn P=>.inr oM).new r λn P=>.inr oM)
def LF(h:Row gB 32 w D d a b5)(C:∀n,D n->n<w.heap.size):
  PP 203 #[.agg #[ZH e,.slice d a c]] w (Ok λa1 w'=>∃E H I F,a1= .agg #[ZH e,.slice E H I]/\aV gB 78 F w' E H I b5/\(∀n,F n->w.heap.size<=n)/\ai w w'):=by
 obtain⟨k,J,l2,l3⟩:=fl.boxes h;have K:=h.fj;have c2:=h.len;have c3:k.length=b5.length:=by rw[<-J];simp
 refine Gu (PA.mk λL M s1 N=>PA.mk λw2 p s2 g2=>⟨_,_,_,ae (p.get N id) rfl,PC.ok (qI (l2.af (M.then p)) λn P=>by have:=C n P;omega) ?_⟩);rintro _ w9 ⟨i,l,v,F9,rfl,q,r,b6⟩;have m:∀n,aG i=some n->w2.heap.size<=n:=λn P=>b6 n (q.self n P);have a2:∀n,aG i=some n->n<w9.heap.size:=λn P=>q.aE n (q.self n P);refine⟨_,_,_,rfl,PS.mk (r.get (p.get N id) id) sM λs x c4 t=>⟨_,_,_,ae t rfl,?_⟩⟩;have z9:=r.size;have a3:=x.get (r.get g2 id) oM;have a4:aV lC.kr 78 (λn=>aG i=some n) s i l v k:=q.alone.keep x λn P b=>by have:=m n P;omega
 have a5:ai w s:=((M.then p).then r).new x λn P=>.inr oM;refine⟨λO a6 w'=>∃f:Nat,a6=f/\f<=l/\O=l-f/\dV lC 78 s i l v k f w',⟨_,0,rfl,Qj _,rfl,dV.start a4⟩,?_⟩;rintro O _ _ Q ⟨f,rfl,hj,rfl,g⟩;have c5:=g.len;have y:ai w Q:=a5.new g.keep λn P=>.inr (by have:=m n P;omega);have z:¬aG i=some w.heap.size:=λb=>by have:=m _ b;omega
 have R:¬aG i=some L.heap.size:=λb=>by have:=m _ b;omega
 refine al.dec (λc6=>λb7 b8=>?_) (λc7=>?_)
 ·have o:ai Q b7:=b8.keep
  have S:=g.af o;obtain⟨j,rfl⟩:=g.some oM;have c8:=m j rfl;have a7:j<s.heap.size:=by have:=a2 j rfl;omega
  have A:k[f]? =some k[f]:=Qq oM;have u:=l3 k[f] (XY oM);generalize k[f]=B at A u;have T:=o.get (g.keep.get t z) id;refine⟨λn=>n=j,by show w.heap.size≠j;omega,_,_,_,ae T rfl,_,_,_,ae T rfl,j,0,rfl,by omega,by omega,_,_,_,S.cell rfl A (by show l*2<=aT;unfold aT at K⊢;omega) 1 _ rfl,PC.ok (bP ((u.1.af y).af o) λn P=>by have:=C n P;have:=(y.then o).size;omega) ?_⟩;rintro _ d0 ⟨d1,d2,d3,G,rfl,U,V,hG⟩;refine⟨_,_,_,rfl,ai.keep V,j,0,rfl,oM,oM,?_⟩;have d4:=g.keep.size;have d5:=o.size;refine(S.af V).step (g:=j) rfl A (U.row (bytes:=8) dC ?_) u.2 (λW X=>⟨by have:=hG W X;omega,U.aE W X⟩) a7 λd6 b0 b9 d7=>⟨b9.mono λn _ b=>(by simpa[aG]using b.symm),_,?_,f+1,an (by unfold aT at K;omega),oM,rfl,b0⟩
  ·have:B.x.set.length<=64:=u.2.2.2
   show(lC.inner B.x).length*8<=aT;unfold aT;show B.x.set.length*8<=_;omega
  ·omega
 ·obtain rfl:f=l:=oM
  obtain⟨Fd,Y,Z⟩:=g.done;rw[J]at Y;have d8:=g.keep.size;refine⟨_,_,_,_,ae (g.keep.get t z) rfl,ae (g.keep.get t z) rfl,PS.mk (g.keep.get a3 R) sM λd9 b2 e0 c1=>PS.mk c1 sM λe1 b3 e2 b4=>⟨_,_,_,_,ae b4 rfl,ae b4 rfl,Ok.mk ⟨i,_,v,Fd,rfl,?_,?_,?_⟩⟩⟩
  ·have a0:∀n,Fd n->n≠L.heap.size:=λn P b=>by
    rcases Z n P with h|h
    ·exact R (b▸h)
    ·omega
   exact(Y.keep b2 λn P b=>a0 n P b).keep b3 λn P b=>a0 n P b
  ·intro n P
   rcases Z n P with h|h
   ·have:=m n h;omega
   ·omega
  ·exact(y.new b2 λn P=>.inr oM).new b3 λn P=>.inr oM
end
variable{x:WP}{Q:aS}
section
variable {w w':World} {D E F:ZN}
def qA{n:List jV}(b:Row BO 40 w D d a n)(e:∀P,D P->P<w.heap.size):PP 103 #[.slice d a c] w (Ok (qC BO 138 w n)):=
 iW (wW Rr dC b e λg w' f=>Ok.mk f)
def qB{n:List (Bx bu)}(b:Row Kl.kr 48 w D d a n)(e:∀P,D P->P<w.heap.size):PP 104 #[.slice d a c] w (Ok (qC Kl.kr 121 w n)):=
 g_ (wW UI dC b e λg w' f=>Ok.mk f)
def DI{tn tc pn pc:Nat}(g:bt w D Q d tn x pn)(S:∀n,D n->n<w.heap.size):
  PP 158 #[.agg #[.slice d tn tc,.slice x pn pc]] w (Ok λa5 w'=>∃o MT T c e f G,a5= .agg #[.slice o MT T,.slice c e f]/\bt w' G Q o MT c e/\(∀n,G n->w.heap.size<=n/\n<w'.heap.size)/\ai w w'):=by
 have d3:=g.aZ.len;have C:=g.aZ.fj;have d4:=g.FG.len;have d5:=g.FG.fj;refine zD (PA.mk λw1 k1 s1 g1=>PA.mk λw2 E s2 g2=>⟨_,_,_,ae (E.get g1 id) rfl,PC.ok (qA (g.FG.af (k1.then E)) λn B=>by have:=S n B;omega) ?_⟩);rintro _ p ⟨c,e,f,G1,rfl,U,F,b4⟩;have z8:=F.size;refine⟨_,_,_,rfl,PA.mk λg4 d6 g5 d7=>PS.mk d7 sM λg6 d8 g7 d9=>PS.mk d9 sM λq e0 g8 e1=>?_⟩;have r:ai p q:=(d6.new d8 λn B=>.inr oM).new e0 λn B=>.inr oM;have b5:ai w q:=((k1.then E).then F).then r;have ga:=r.get (F.get (E.get g1 id) id) id;have gz:=r.get (F.get g2 id) id;have g9:=r.size;have b6:q.heap[p.heap.size]? =some (.cells #[.slice none 0 0,.slice c e f] 25 (0,0)):=e1;refine⟨_,_,_,ae ga rfl,λs V w'=>∃P:Nat,V=P/\P<=tn/\s=tn-P/\aj (·=p.heap.size) q w'/\∃H I W t,w'.heap[p.heap.size]? =some (.cells #[.slice H I W,.slice c e f] 25 (0,0))/\aV nB 118 t w' H I W (Q.types.take P)/\∀n,t n->q.heap.size<=n,
  ⟨_,0,rfl,Qj _,rfl,aj.refl _,none,0,0,λ_=>False,b6,aV.nil _,λ_ g=>g.elim⟩,?_⟩
 rintro s _ _ Y ⟨P,rfl,hj,rfl,u,H,I,W,t,Z,h,k⟩;have J:ai w Y:=b5.new u λn B=>.inr oM;have zk:=u.size;refine al.dec (λh0=>?_) (λh3=>?_)
 ·have b7:P<Q.types.length:=oM
  obtain⟨n,a6,es,ha,B,h4,a8,fa,fn,fc,rfl,K⟩:=(g.aZ.af J).el P Q.types[P] (by simp[b7]);have b8:Q.types[P]? =some Q.types[P]:=Qq b7;generalize Q.types[P]=a1 at K b8;have c0:=a8 0 dC;have e2:nB.k=1:=rfl;rw[e2,Nat.mul_one]at c0;refine⟨n,a6,ha,oM,oM,fa,fn,fc,by rw[Qx];exact c0,PA.mk λh5 e3 h6 e4=>PS.mk e4 sM λb9 e5 h7 e6=>⟨_,_,_,ae e6 rfl,?_⟩⟩;have L:ai Y b9:=e3.new e5 λn B=>.inr oM;have c1:=J.then L;obtain⟨l,l1,l2,l3⟩:=fl.boxes (N:=Kl) K;have a7:=K.fj;refine PC.ok (qB (l2.af L) λn B=>by have:=S n B;have:=c1.size;omega) ?_;rintro _ c2 ⟨a9,v,c9,F9,rfl,M,c3,e7⟩;have h8:=L.size;have h9:=c3.size;have N:∀n,aG a9=some n->b9.heap.size<=n:=λn B=>e7 n (M.self n B);have c4:∀n,aG a9=some n->n<c2.heap.size:=λn B=>M.aE n (M.self n B);refine⟨_,_,_,rfl,λs V w'=>∃P:Nat,V=P/\P<=v/\s=v-P/\dV Kl 121 c2 a9 v c9 l P w',⟨_,0,rfl,Qj _,rfl,dV.start M.alone⟩,?_⟩;rintro s _ _ e8 ⟨m,rfl,hi,rfl,i⟩;have i0:=i.len;have i1:l.length=a1.length:=by rw[<-l1];simp
  have e9:=K.len;have y:ai Y e8:=(L.then c3).new i.keep λn B=>.inr (by have:=N n B;omega);have i2:=i.keep.size;refine al.dec (λf8=>?_) (λg0=>?_)
  ·obtain⟨O,rfl⟩:=i.some oM
   have c5:=c4 O rfl;have a0:l[m]? =some l[m]:=Qq oM;have z:=l3 l[m] (XY oM);generalize l[m]=R at a0 z;refine⟨O,0,rfl,oM,oM,_,_,_,i.cell rfl a0 (by show v*4<=aT;unfold aT at a7⊢;omega) 3 _ rfl,PC.ok (tL (z.1.af y) λn B=>by have:=S n B;have:=(J.then y).size;omega) ?_⟩;rintro _ i3 ⟨i4,i5,i6,G,rfl,a2,f2,hG⟩;refine⟨_,_,_,rfl,O,0,rfl,oM,oM,?_⟩;refine(i.af f2).step (g:=O) rfl a0 (a2.row (bytes:=32) dC ?_) z.2 (λa3 hx=>⟨by have:=hG a3 hx;omega,a2.aE a3 hx⟩) c5 λi7 c6 i8 i9=>⟨_,?_,m+1,an (by unfold aT at a7;omega),oM,rfl,c6⟩
   ·have b:=z.1.fj
    have X:=z.1.len;show R.x.bG.length*32<=aT;have j0:R.n=R.x.bG.length:=X;have j1:R.n*32<=aT:=b;omega
   ·omega
  ·obtain rfl:m=v:=oM
   obtain⟨Fd,hd,b0⟩:=i.done;rw[l1,HC]at hd;have a4:=y.get Z id;refine⟨_,_,_,ae a4 rfl,NM (c:=nB) (x:=a1) (h.af y) Qc (D:=Fd) ⟨_,_,_,rfl,hd.row dC (by rw[<-e9];exact a7)⟩ (λn B=>⟨hd.aE n B,λa=>?_⟩) ?_ ?_ λa' A j2 F' d0 b1 c7 g3=>⟨_,_,_,rfl,?_⟩⟩
   ·have b:=h.aE n (h.self n a)
    rcases b0 n B with X|X
    ·have:=N n X;omega
    ·omega
   ·have:=List.length_take_le P Q.types;unfold aT at C⊢;omega
   ·have:=List.length_take_le P Q.types;unfold aT at C;unfold maxLen;omega
   ·have j:¬aG H=some p.heap.size:=λa=>by have:=k _ (h.self _ a);omega
    have f3:=b1.get a4 j;have j3:=b1.size;refine PS.mk f3 sM λj4 c8 j5 f4=>⟨_,?_,P+1,an (by unfold aT at C;omega),oM,rfl,?_,a',I+1,A,F',f4,?_,?_⟩
    ·omega
    ·exact((u.af y).new b1 λn B=>.inr (k _ (h.self n B))).then c8
    ·rw[Qw,b8]
     refine d0.keep c8 λn B a=>?_;rcases c7 n B with b|b|b
     ·have:=k n b;omega
     ·rcases b0 n b with X|X
      ·have:=N n X;omega
      ·omega
     ·omega
    ·intro n B
     rcases c7 n B with b|b|b
     ·exact k n b
     ·rcases b0 n b with X|X
      ·have:=N n X;omega
      ·omega
     ·omega
 ·obtain rfl:P=tn:=oM
  rw[Qz oM]at h;have d1:=u.get gz oM;have f0:=(U.af r).keep u λn B a=>by have:=U.aE n B;omega
  refine⟨_,_,_,_,_,_,ae Z rfl,ae Z rfl,PS.mk d1 sM λj6 b2 j7 f6=>PS.mk f6 sM λj8 b3 j9 d2=>⟨_,_,_,_,_,_,ae d2 rfl,ae d2 rfl,Ok.mk ⟨_,_,_,_,_,_,λn=>t n\/G1 n,rfl,⟨?_,?_⟩,?_,?_⟩⟩⟩
  ·have j:∀n,t n->n≠w1.heap.size:=λn B a=>by have:=k n B;omega
   exact((((h.row (bytes:=24) dC (by rw[<-d3];exact C)).keep b2 λn B a=>j n B a).keep b3 λn B a=>j n B a)).mono λn B=>.inl B
  ·have j:∀n,G1 n->n≠w1.heap.size:=λn B a=>by have:=b4 n B;omega
   exact((((f0.row (bytes:=40) dC (by rw[<-d4];exact d5)).keep b2 λn B a=>j n B a).keep b3 λn B a=>j n B a)).mono λn B=>.inr B
  ·rintro n (B|B)
   ·have:=k n B;have:=h.aE n B;omega
   ·have:=b4 n B;have:=U.aE n B;omega
  ·exact(J.new b2 λn B=>.inr oM).new b3 λn B=>.inr oM
end
end Go.Proofs.YtjgjkeponbeekaaGreatDoor
namespace Go.aw
open Go
def pF{n P a:Type}(b:n->P->a->Prop):List (n×P)->List (n×a)->Prop
 |[],[]=>True
 |(c,d)::e,(f,g)::h=>c=f/\b c d g/\pF b e h
 |_,_=>False
section
variable {κ β γ:Type} {R R':κ->β->γ->Prop}
def pF.mono:∀{n:List (κ×β)} {P:List (κ×γ)},pF R n P->(∀d a b,R d a b->R' d a b)->pF R' n P
 |[],[],_,_=>trivial
 |(f,a)::n,(g,b)::P,c,e=>⟨c.1,e _ _ _ c.2.1,pF.mono c.2.2 e⟩
def pF.aq[BEq κ][LawfulBEq κ](n:κ):∀{P:List (κ×β)} {a:List (κ×γ)},pF R P a->
  (aw.aq P n=none/\aw.aq a n=none)\/∃b c,aw.aq P n=some b/\aw.aq a n=some c/\R n b c
 |[],[],_=>.inl ⟨rfl,rfl⟩
 |(e,b)::P,(i,c)::a,f=>by
  obtain⟨rfl,g,h⟩:=f;unfold aw.aq
  by_cases d:n==e
  ·obtain rfl:n=e:=by simpa using d
   simp only[d,if_true];exact .inr ⟨b,c,rfl,rfl,g⟩
  ·simp only[d];exact pF.aq n h
def pF.off{f:κ}:∀{n:List (κ×β)} {P:List (κ×γ)},pF R n P->(∀a b c,a≠f->R a b c->R' a b c)->f∉n.map (·.1)->pF R' n P
 |[],[],_,_,_=>trivial
 |(i,b)::n,(j,c)::P,d,g,e=>by
  simp only[QY,Q2,not_or]at e;exact⟨d.1,g _ _ _ (λh=>e.1 h.symm) d.2.1,pF.off d.2.2 g e.2⟩
def pF.aI[BEq κ][LawfulBEq κ]{n:κ}{P:β}{a:γ}(e:R' n P a):∀{b:List (κ×β)} {f:List (κ×γ)},pF R b f->(∀g P a,g≠n->R g P a->R' g P a)->Tidy b->pF R' (aw.aI b n P) (aw.aI f n a)
 |[],[],_,_,_=>⟨rfl,e,trivial⟩
 |(i,p)::b,(q,r)::f,k,h,c=>by
  obtain⟨rfl,l,j⟩:=k;unfold Tidy at c;simp only[QY,List.nodup_cons]at c;unfold aw.aI
  by_cases d:n==i
  ·simp only[d,if_true]
   obtain rfl:n=i:=by simpa using d
   refine⟨rfl,e,?_⟩;have m:n∉b.map (·.1):=c.1;exact pF.off j h m
  ·simp only[d]
   exact⟨rfl,h _ _ _ (λo=>d (by simp[o])) l,pF.aI e j h c.2⟩
end
def wB{b:Type}(d:World)(e:Nat)(P:b->Value)(f:b)(g:Int):Prop:=
 ∃(c:Array MapEntry) (n h:Nat) (a:MapEntry),d.heap[e]? =some (.map c n)/\c[h]? =some a/\a.key=P f/\(a.born:Int)=g
variable{e:Int}{a:Nat}{j:Type}{v:Value}{o:ZR}{b k:World}{y:ZU}
def wB.keep{S:ZN}{P:j->Value}{c:j}(d:wB b a P c e)(f:aj S b k)(g:¬S a):wB k a P c e:=by
 obtain⟨h,n,i,l,m,o⟩:=d;exact⟨h,n,i,l,f.get m g,o⟩
section
variable {κ:Type} [BEq κ] [LawfulBEq κ] {P:Program} {t kt vt:TypeId} {z:Value} {enc:κ->Value}
def ES{κ c:Type}[BEq κ][LawfulBEq κ]{P:κ}{d:c}:∀{a:List (κ×c)},aq a P=some d->aI a P d=a
 |(e,f)::a,n=>by
  unfold aq at n;unfold aI
  by_cases b:P==e
  ·rw[Zx b]at n⊢
   obtain rfl:P=e:=by simpa using b
   cases n;rfl
  ·rw[Zq b]at n⊢
   rw[ES n]
def GZ(u:mQ P t kt vt z)(m:ji P kt enc){d:List (κ×Value)}(v:bQ b a enc d){k:κ}{w H:ZR}(o:∀w' B,bQ w' a enc (aI d k ((aq d k).getD z))->wB w' a enc k B->aj (·=a) b w'->w'.heap.size=b.heap.size->w (.tuple #[(aq d k).getD z,ZH B]) w'):aJ P (Instr.mapEntry t (.map (some a)) (enc k)) b w H:=by
 obtain⟨c,n,i,j,x,C⟩:=v.at';have p:=km m k c.toList d j b;have I:c.toList.length=d.length:=by have:=Zj List.length j;simpa using this
 have q:=aA i;have g:=xS d k 0
 cases r:ns d k 0 with
 |none=>
  rw[r]at p g;have s:aq d k=none:=g.symm;rw[s]at o;have J:=u.Nr b;refine aJ.mk (w':={b with heap:=b.heap.setIfInBounds a (.map (c.push {key:=enc k,val:=z,born:=n}) (n+1))}) ?_ (o _ n ⟨⟨_,_,cU b a _ q,?_,?_,?_⟩,v.tidy.aI k z⟩ ⟨_,_,c.size,{key:=enc k,val:=z,born:=n},cU b a _ q,sM,rfl,rfl⟩ (aj.setObj b a _) sM)
  ·simp[Instr.mapEntry,run_underlying u.under,dH i,dP m,p,eL i,J,goInt]
  ·rw[Option.getD_none,(sx r).1 z];simp[j]
  ·intro f h
   simp only[Array.toList_push,Q6,List.mem_singleton]at h;rcases h with h|rfl
   ·have:=x f h;omega
   ·show n<n+1;omega
  ·simp only[Array.toList_push,Q3,QY,List.map_nil]
   rw[List.nodup_append];refine⟨C,sM,?_⟩;intro K g L y T;simp only[List.mem_singleton]at y;obtain⟨f,h,rfl⟩:=Xk.1 g;have:=x f h;omega
 |some M=>
  obtain⟨e,E⟩:=M;rw[r]at p g;have s:aq d k=some E:=g.symm;obtain⟨_,N,F,O⟩:=oB r;rw[Nat.sub_zero]at N F O;have A:e<c.size:=by
                 have:c.size=d.length:=by simpa using I
                 omega
  have l:c[e].key=enc k:=by
   have:=Zj (·[e]?) j;simp only[Q9,F,Option.map_some]at this;simp[A]at this;exact this.1
  have Q:(c.modify e λf=>{f with key:=enc k})=c:=by
   apply Array.ext
   ·simp
   ·intro U V W
    rw[Array.getElem_modify];split
    ·rename_i f;subst f
     cases R:c[e]with
     |mk K L w=>rw[R]at l;simp at l;simp[l]
    ·rfl
  rw[s]at o;refine aJ.mk (w':={b with heap:=b.heap.setIfInBounds a (.map c n)}) ?_ (o _ (c[e].born) ⟨⟨_,_,cU b a _ q,?_,x,C⟩,v.tidy.aI k E⟩ ⟨_,_,e,c[e],cU b a _ q,by simp[A],l,rfl⟩ (aj.setObj b a _) sM)
  ·have S:(Instr.keyThatStays (enc k) (enc k)).run P b= .ok (enc k) b:=by simp[Instr.keyThatStays,m.same]
   simp[Instr.mapEntry,run_underlying u.under,dH i,dP m,p,A,l,S,eL i,Q,goInt]
  ·rw[Option.getD_some,ES s];exact j
def Co(J:ji P kt enc){c:List (κ×Value)}(s:bQ b a enc c){h:κ}(K:wB b a enc h e)(L:∀m,bQ m a enc (aI c h v)->aj (·=a) b m->m.heap.size=b.heap.size->y m):lL P (Instr.entryStore t (.map (some a)) (ZH e) v) b y o:=by
 obtain⟨f,k,p,u,M,z⟩:=s.at';obtain⟨N,q,n,i,l,O,A,Q⟩:=K;rw[p]at l;cases l
 subst Q;have R:f.toList.length=c.length:=by have:=Zj List.length u;simpa using this
 have S:=aA p;obtain⟨r,rfl⟩:=Q5.1 O;have w:n<c.length:=by
                have:f.size=c.length:=by simpa using R
                omega
 have B:c[n]? =some (h,f[n].val):=by
  have:=Zj (·[n]?) u;simp only[Q9,Qq w,Option.map_some]at this;simp[r]at this;have T:c[n].1=h:=J.inj (by rw[<-this.1,A]);rw[Qq w]
  congr 1
  exact Prod.ext T this.2.symm
 have U:aI c h v=c.set n (h,v):=by
  cases C:ns c h 0 with
  |none=>
   have E:=xS c h 0;rw[C]at E;have:=jG.1 E.symm;exact Zz (Xk.2 ⟨_,QZ B,rfl⟩) this
  |some V=>
   obtain⟨g,a2⟩:=V;obtain⟨_,d,F,H⟩:=oB C;rw[Nat.sub_zero]at d F H;have j:g=n:=by
    have W:(c.map (·.1))[g]? =some h:=by rw[Q9,F];rfl
    have X:(c.map (·.1))[n]? =some h:=by rw[Q9,B];rfl
    obtain⟨Y,Z⟩:=Qv.1 W;obtain⟨q3,q4⟩:=Qv.1 X;exact(List.getElem_inj (xs:=c.map (λe=>e.1)) (h₀:=Y) (h₁:=q3) (show(c.map (λe=>e.1)).Nodup from s.tidy)).1 (Z.trans q4.symm)
   rw[(H v).1,j]
 have a0:f.findIdx? (λi=>(i.born:Int)==(f[n].born:Int))=some n:=by
  rw[Array.findIdx?_eq_some_iff_getElem];refine⟨r,sM,λg d=>?_⟩;have a1:g<f.size:=oM
  have a3:f[g].born≠f[n].born:=λi=>by
   have:=(List.getElem_inj (xs:=f.toList.map (·.born)) (h₀:=by simpa using a1) (h₁:=by simpa using r) z).1 (by simpa using i);omega
  simp;omega
 refine lL.mk (w':={b with heap:=b.heap.setIfInBounds a (.map (f.modify n λi=>{i with val:=v}) k)}) ?_ (L _ ⟨⟨_,_,cU b a _ S,?_,?_,?_⟩,s.tidy.aI h v⟩ (aj.setObj b a _) sM)
 ·simp[Instr.entryStore,dH p,asInt,asIntOf,a0,eL p]
 ·rw[U]
  apply X3;intro g;have d:=Zj (·[g]?) u;simp only[Q9]at d;simp only[Array.toList_modify,Q9,Xj,List.getElem?_modify]
  by_cases j:n=g
  ·subst j
   simp[r,w,A]
  ·simp only[j,if_false,Option.map_map]at d⊢
   simpa using d
 ·intro i I
  rw[Array.toList_modify]at I;obtain⟨g,d⟩:=List.getElem?_of_mem I;rw[List.getElem?_modify]at d
  cases x:f.toList[g]? with
  |none=>rw[x]at d;simp at d
  |some e'=>
   rw[x]at d;have hm:=QZ x;have:=M e' hm
   by_cases j:n=g
   ·simp[j]at d;subst d;exact this
   ·simp[j]at d;subst d;exact this
 ·have:(f.modify n λi=>{i with val:=v}).toList.map (·.born)=f.toList.map (·.born):=by
   apply X3;intro g;simp only[Array.toList_modify,Q9,List.getElem?_modify,Option.map_map]
   by_cases j:n=g<;>simp[j]<;>rfl
  rw[this];exact z
end
end Go.aw
namespace Go.Proofs.YtjgjkeponbeekaaGreatDoor
open Go.aw
def wO{e:Type}{c:e->Int}:∀{d:List e},cK c d=0->∀a∈d,c a=0
 |[],_,a,P=>by cases P
 |y::d,n,a,P=>by
  unfold cK at n
  by_cases b:c y=0
  ·rw[b]at n
   simp only[bne_self_eq_false,Bool.false_eq_true,if_false]at n;rcases Q2.1 P with rfl|P
   ·exact b
   ·exact wO n a P
  ·rw[Zx (by simpa using b)]at n
   exact Zz n b
variable{e q:Int}{c5:List bu}{b5:List cZ}{Q:aS}{d2:bf}{c4:bu}
def ny(n:dj Q=0):rZ Q=false/\(∀P∈Q.types,∀c∈P,fJ P c=0)/\∀d∈Q.projs,mP Q d=0:=by
 unfold dj at n;split at n
 ·simp at n
 ·rename_i e
  simp only at n;split at n
  ·rename_i a
   exact Zz n (by simpa using a)
  ·rename_i a
   refine⟨by simpa using e,λP f=>?_,wO n⟩;have b:cK (λP=>cK (fJ P) P) Q.types=0:=by simpa using a
   exact wO (wO b P f)
def Ax(n:rZ Q=false):1<=Q.types.length/\Q.types.length<=8/\Q.projs.length<=8/\∀P∈Q.types,1<=P.length/\P.length<=8:=by
 unfold rZ at n;split at n
 ·cases n
 ·rename_i a
  simp only[Bool.or_eq_true,Bool.not_eq_true',Zk,not_or,Bool.not_eq_false,Nat.not_lt]at a;obtain⟨a,b⟩:=a;rw[bH]at a;refine⟨oM,oM,b,λP c=>?_⟩;rw[List.any_eq_false]at n;have:=n P c;simp only[Bool.or_eq_true,Bool.not_eq_true',not_or,Bool.not_eq_false]at this;have:=bH.1 this.1;omega
def UD(n:fJ c5 c4=0):∀P∈c4.bG,P.lZ<(c5.length:Int):=by
 intro P b;unfold fJ at n;split at n
 ·simp at n
 split at n
 ·simp at n
 split at n
 ·simp at n
 split at n
 ·simp at n
 ·rename_i a
  rw[Bool.not_eq_true,List.any_eq_false]at a;have:=a P b
  by_cases c:P.lZ= -1
  ·omega
  ·have:SR c5 P.lZ 1=true:=by
    simpa[c]using this
   unfold SR at this;simp only[QK]at this;have:=bH.1 this.1;omega
def wL(n:Q.DP e q=some c4):0<=e/\e<(Q.types.length:Int)/\Q.at e=Q.types.getD e.toNat []/\0<=q/\q<((Q.at e).length:Int)/\(Q.at e).getD q.toNat ⟨0,0,false,[]⟩=c4/\c4∈Q.at e:=by
 unfold aS.DP at n;split at n
 ·rename_i P
  simp only[QK,bH]at P;refine⟨P.1.1,oM,?_,P.2.1,oM,by rw[QQ,n];rfl,QZ n⟩;unfold aS.at;rw[Zx (bH.2 P.1)]
 ·cases n
def at_mem(P:0<=e)(a:e<(Q.types.length:Int)):Q.at e∈Q.types:=by
 unfold aS.at;rw[Zx (bH.2 ⟨P,oM⟩)];have n:e.toNat<Q.types.length:=oM
 have:Q.types.getD e.toNat []=Q.types[e.toNat]:=by simp[QQ,n]
 rw[this];exact XY n
def NF(m:dj Q=0){P b e arg:Int}(n:lV Q P b e arg=0)(o:b5.length=(Q.at P).length):
  HP (Q.at P) b5 b e arg/\0<=P/\P<(Q.types.length:Int)/\(Q.at P).length<=8:=by
 obtain⟨p,q,y⟩:=ny m;obtain⟨z,A,B,r⟩:=Ax p;unfold lV at n
 cases c:Q.DP P b with
 |none=>rw[c]at n;simp at n
 |some a=>
  rw[c]at n;simp only at n;obtain⟨f,g,C,s,t,u,v⟩:=wL c;split at n
  ·simp at n
  ·rename_i h
   split at n
   ·simp at n
   ·rename_i i
    simp only[Bool.or_eq_true,Bool.not_eq_true',not_or,Bool.not_eq_false]at h i;have j:=bH.1 h.1;have k:=at_mem f g;refine⟨⟨s,t,o,j.1,j.2,λw=>?_⟩,f,g,(r _ k).2⟩;rw[u];have x:=UD (q _ k a v);have d:within arg 0 (a.bG.length-1)=true:=by
     have:=i.2;simp only[QK,beq_iff_eq,Bool.not_eq_true',not_and,Bool.not_eq_false]at this;exact this w
    have d:=bH.1 d;have l:arg.toNat<a.bG.length:=oM
    refine⟨d.1,oM,?_⟩;have:a.bG.getD arg.toNat ⟨0,0,0,0⟩=a.bG[arg.toNat]:=by simp[QQ,l]
    rw[this];exact x _ (XY l)
structure bf.OK (V:bf):Prop where
 decl:dj V.decl=0
 st:∀x∈V.eQ,x.2.cells.length=(V.decl.at x.1.1).length
def NG(P:List bu)(n:List cZ)(a b arg:Int):(Te P n a b arg).length=n.length:=by
 unfold Te
 simp only;split
 ·simp
 split
 ·simp
 split
 ·simp
 split
 ·simp
 split
 ·simp
 ·rfl
def bf.cellsOf(P:bf)(n:ah):List cZ:=match aq P.eQ (n.aZ,n.agg)with
 |some a=>a.cells
 |none=>dX (P.decl.at n.aZ)
def bf.OK.len(P:d2.OK)(n:ah):(d2.cellsOf n).length=(d2.decl.at n.aZ).length:=by
 unfold bf.cellsOf
 cases a:aq d2.eQ (n.aZ,n.agg)with
 |none=>simp[dX]
 |some b=>exact P.st _ (cm a)
def bf.sB(P:bf)(n:ah):P.try n=if lV P.decl n.aZ n.field n.op n.arg≠0 then(true,(0,0),P)else
  match((aq P.done (n.aZ,n.agg,n.field)).getD []).find? λa=>nj ((P.decl.at n.aZ).getD n.field.toNat ⟨0,0,false,[]⟩) a n with
  |some a=>(true,bd a,P)
  |none=>if wV (P.decl.at n.aZ) (P.cellsOf n) n.field n.op n.arg≠0 then(true,(0,0),P)else
   (false,(0,0),{P with eQ:=aI P.eQ (n.aZ,n.agg) ⟨qd (((aq P.eQ (n.aZ,n.agg)).getD ⟨0,[]⟩).version+1),Te (P.decl.at n.aZ) (P.cellsOf n) n.field n.op n.arg⟩,done:=aI P.done (n.aZ,n.agg,n.field) ((aq P.done (n.aZ,n.agg,n.field)).getD []++[n])}):=rfl
def bf.SN(n:d2.OK)(a:ah):(d2.try a).2.2.OK/\(d2.try a).2.2.decl=d2.decl:=by
 rw[bf.sB];split
 ·exact⟨n,rfl⟩
 split
 ·exact⟨n,rfl⟩
 split
 ·exact⟨n,rfl⟩
 ·refine⟨⟨n.decl,λb P=>?_⟩,rfl⟩
  rcases fF P with rfl|P
  ·show(Te _ _ _ _ _).length=_
   rw[NG,n.len]
  ·exact n.st b P
def bf.AB(a:d2.OK)(n:ah):(d2.add n).2.OK/\(d2.add n).2.decl=d2.decl:=by
 obtain⟨P,b⟩:=bf.SN a n;exact⟨⟨P.decl,P.st⟩,b⟩
def bf.tN(n:dj Q=0):(bf.new Q).OK:=⟨n,λa P=>by cases P⟩

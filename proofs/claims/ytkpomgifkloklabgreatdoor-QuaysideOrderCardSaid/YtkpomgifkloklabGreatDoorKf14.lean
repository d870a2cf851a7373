import Derived.Test.YtkpomgifkloklabGreatDoorYfCodeR
import Derived.Lib.AppendZerosOnto
import Derived.Lib.Overlaps
set_option maxHeartbeats 4000000
set_option linter.all false
set_option maxRecDepth 20000
open Go.IntKind renaming wrap→PP
namespace Go.Proofs.YtkpomgifkloklabGreatDoor
open Go.aw
variable{Y o:Array Value}{b3 s:List Int}{a5:List Value}{a:Nat}{f:UL}{H:Nat×Nat}{d:bc}{h:Program}{j:Type}{C g q:TypeId}{m t:ac}{b:World}{M l:ah}{B:aq}
def fN{c:kq j}{p l:Nat}{r:List j}{bytes:Nat}{x:j}(k:aT c g f b d p l r)(J:jU h q g c.k bytes)(N:b.heap[a]? =some (.cells o g H)){D:UL}(z:c.rep b D x o.toList)(s:∀n,D n->n<b.heap.size/\aH d≠some n)(P:(r.length+1)*bytes<=aP)(O:r.length+1<=maxLen)(A:∀u i B v,aT c g v B u (p+1) i (r++[x])->aj (λF=>aH d=some F) b B->(∀n,v n->f n\/D n\/b.heap.size<=n)->m (.slice u (p+1) i) B):
  aJ h (Builtin.append_ #[q,q] C #[.slice d p l,.slice (UV a) 1 1]) b m t:=by
 have K:=k.len J.pos;obtain⟨cs,Q,R,S,w⟩:=k.body;have V:=c.len z;refine uU J (news:=o.toList) R N (by rw[Qz oM]) oM (c.one z) (by rw[K];exact P) (by rw[K];exact O) λu T y L M E=>?_;have I:aj (λF=>aH d=some F) b y:=(M.mono λ_ _ k=>k.symm)
 let v:UL:=λn=>f n\/D n\/(b.heap.size<=n/\n<y.heap.size)
 have W:b.heap.size<=y.heap.size:=M.size;refine A u T y v ⟨⟨_,λn=>Q n\/D n,L,cd.append ((S.keep I λn P=>(w n P).2).mono λn P=>.inl P) (cd.one (c.mono (c.keep z I λn P=>(s n P).2) λn P=>.inr P)),?_⟩,?_,?_⟩ I ?_
 ·intro n P
  have X:n<b.heap.size:=P.elim (λe=>k.aE n (w n e).1) λe=>(s n e).1;refine⟨P.elim (λe=>.inl (w n e).1) λe=>.inr (.inl e),?_⟩;rcases E with E|E
  ·rw[E];exact P.elim (λe=>(w n e).2) λe=>(s n e).2
  ·rw[E];intro U;cases U;omega
 ·intro n P
  rcases E with E|E
  ·exact .inl (k.self n (E▸P))
  ·have:=L.lt P
   rw[E]at P;cases P;exact .inr (.inr ⟨oM,this⟩)
 ·rintro n (P|P|P)
  ·have:=k.aE n P;omega
  ·have:=(s n P).1;omega
  ·exact P.2
 ·rintro n (P|P|P)
  ·exact .inl P
  ·exact .inr (.inl P)
  ·exact .inr (.inr P.1)
def Na{D h:UL}(c:Row aO 8 b D d a s)(e:Row aO 8 b h d a b3):s=b3:=by
 have o:=c.len;have p:=e.len;apply List.ext_getElem oM;intro i j k;obtain⟨q,r,t,l,f,-,m⟩:=c.ni (i:=i) oM;obtain⟨u,v,w,n,g,-,P⟩:=e.ni (i:=i) oM;rw[l]at n;cases n
 rw[m]at P;cases P
 rw[Qq j]at f;rw[Qq k]at g;rw[XJ f,XJ g]
section
def CO(b:World)(D:UL)(c:aq)(d:List Value)(n:ah):Prop:=∃P a e,d=[kM n P a e]/\Row aO 8 b D P a n.aM/\n.Ok/\n∈c.l
def rZ{n P:Type}(b:n->P->Prop):List n->List P->Prop
 |[],[]=>True
 |a::c,d::e=>b a d/\rZ b c e
 |_,_=>False
def rZ.snoc{n P:Type}{a:n->P->Prop}{b:n}{c:P}(d:a b c):∀{e:List n} {f:List P},rZ a e f->rZ a (e++[b]) (f++[c])
 |[],[],_=>⟨d,trivial⟩
 |_::_,_::_,g=>⟨g.1,rZ.snoc d g.2⟩
def rZ.length{n P:Type}{c:n->P->Prop}:∀{a:List n} {b:List P},rZ c a b->a.length=b.length
 |[],[],_=>rfl
 |_::_,_::_,d=>by simp[rZ.length d.2]
def CO.unique{D:UL}(P:CO b D B a5 l)(a:CO b D B a5 M):l=M:=by
 obtain⟨e,f,g,rfl,c,-,-⟩:=P;obtain⟨h,i,j,n,d,-,-⟩:=a;simp only[aF,List.cons.injEq,Value.agg.injEq,Array.mk.injEq,Value.int.injEq,XX,and_true,true_and]at n;obtain⟨k,m,o,⟨rfl,rfl,rfl⟩,p,q,r,s,t,u⟩:=n;have:=Na c d
 cases l;cases M;simp_all
def rZ.unique{P:World}{D:UL}{a:aq}:∀{n:List (List Value)} {b c:List ah},rZ (CO P D a) n b->rZ (CO P D a) n c->b=c
 |[],[],[],_,_=>rfl
 |_::_,_::_,_::_,d,e=>by rw[d.1.unique e.1,rZ.unique d.2 e.2]
variable {w w9 w1 A B:World} {p bo:Nat} {F:UL} {S:aq} {q:Tl} {Pr:ah->Bool} {s:World×(UL)} {pre:List (List Value)}
structure SJ (w9:World) (bo:Nat) (D:UL) (S:aq) (Pr:ah->Bool) (s:World×(UL)) (pre:List (List Value)) (A:World):Prop where
 keep:aj (·=bo) w9 A
 own:aj (dT s.2) s.1 A
 out:∀b,s.2 b->b≠w9.heap.size/\b≠w9.heap.size+1/\b≠bo
 aE:∀b,s.2 b->b<A.heap.size
 eR:w9.heap.size+2<=A.heap.size
 nj:∃a n c G L,A.heap[bo]? =some (.cells #[.slice a n c] 51 (0,0))/\aT jh 57 G A a n c (L.filter Pr)/\(∀b,G b->w9.heap.size+2<=b/\¬s.2 b)/\rZ (CO w9 D S) pre L/\L.length<=S.l.length
def SJ.af(P:SJ w9 bo q.D S Pr s pre A)(n:ai A B):SJ w9 bo q.D S Pr s pre B:=by
 obtain⟨a,b,c,d,e,f,g,h,G,i,j,k,l,m⟩:=P;exact⟨a.af n,b.af n,c,λo p=>Qk (d o p) n.size,Xx e n.size,f,g,h,G,i,n.get j id,k.af n,l,m⟩
def SJ.fm(t:bo<w9.heap.size)(b:SJ w9 bo q.D S Pr s pre A)(e:qL (w9.heap.size+1) A B):SJ w9 bo q.D S Pr s pre B:=by
 obtain⟨f,g,c,h,u,i,j,k,G,l,m,o,d,p⟩:=b;obtain⟨a,v⟩:=e;exact⟨f.new a λn P=>.inr oM,g.trans a (λ_ _ b=>b) λn _ P r=>(c n r).2.1 P,c,λn P=>by have:=h n P;omega,oM,i,j,k,G,l,a.get m oM,o.keep a λn P w=>by have:=(d n P).1;omega,d,p⟩
def SJ.re(n:SJ w9 bo q.D S Pr s pre A):SJ w9 bo q.D S Pr (A,s.2) pre A:=⟨n.keep,aj.refl _,n.out,n.aE,n.eR,n.nj⟩
def Tn{R:ba}(c1:bo<w9.heap.size)(hS:S.OK)(e:rY w9 p F S q)(v:∃c a3,w9.heap[a]? =some (.cells #[.map (some q.r)] c a3))(w:a≠bo)(x:¬F bo)(y:∀A B,R A->aj (oH w9) A B->R B)(hy:∀s pre m A,SJ w9 bo q.D S Pr s pre A->R A->tV [kM sB none 0 0] m->(pre.length<S.l.length/\∃c,CO w9 q.D S m c)->ky LL (w9.heap.size+1) m A λn z=>n=true/\SJ w9 bo q.D S Pr s (pre++[m]) z/\R z)(o:SJ w9 bo q.D S Pr (w9,no) [] w1)(a7:R w1):
  be 183 #[.func (.yield (w9.heap.size+1)) #[] #[],RK a] w1 (Ok λa4 f=>R f/\∃s k,SJ w9 bo q.D S Pr s k f/\∃r,rZ (CO w9 q.D S) k r/\r.Perm S.l):=by
 obtain⟨e2,f2,v⟩:=v;have c2:=e.map.lt;have a8:rY w1 p F S q:=e.keep o.keep λn P c=>x (c▸P);have hD:∀n,q.D n->n<w9.heap.size/\n≠bo:=λn P=>⟨e.aE n (e.sub n (.inr (.inr (.inr P)))),λc=>x (c▸e.sub n (.inr (.inr (.inr P))))⟩
 have c3:=o.eR;have c4:q.r≠bo:=λc=>x (c▸e.sub _ (.inr (.inl rfl)));refine dF ⟨_,ae (o.keep.get v w) rfl,mapRange Tj a8.map λN b0 t s6=>?_⟩;obtain⟨j1,j2,j3,jd,j5,ja,jn,jc,G0,L0,j4,O,Q,j8⟩:=o;have b1:SJ w9 bo q.D S Pr (N,λn=>n=w1.heap.size\/n=q.r) [] N:=by
  refine⟨j1.af t,aj.refl _,λn P=>by rcases P with rfl|rfl<;>omega,λn P=>by rcases P with rfl|rfl<;>omega,oM,ja,jn,jc,G0,L0,t.get j4 id,O.af t,λn P=>⟨(Q n P).1,λc=>?_⟩,j8⟩;rcases c with rfl|rfl
  ·have:=O.aE _ P;omega
  ·have:=(Q _ P).1;omega
 refine⟨λT f=>∃pre left b j,T=left.length/\cU f w1.heap.size q.r FG q.l left/\fL (Vf w9 q.D) left b/\rZ (CO w9 q.D S) pre j/\(j++b.map (·.2)).Perm S.l/\SJ w9 bo q.D S Pr (f,λn=>n=w1.heap.size\/n=q.r) pre f/\R f,
  ⟨_,[],q.l,q.L,[],rfl,b0,e.rel,trivial,by simpa using e.Yo,b1,y _ _ a7 (ai.keep t)⟩,?_⟩
 rintro T _ c5 ⟨pre,left,b,j,rfl,hr,U,C,E,V,W⟩;refine oe hr (λh0=>.inl ⟨rfl,?_⟩) (λc6 a4 l1 l2 H a6 a9 b2 u c7=>.inr ⟨_,_,rfl,?_⟩)
 ·subst h0
  obtain rfl:b=[]:=by
   have:=U.length;simp at this;exact QW this.symm
  exact Ok.mk ⟨W,_,pre,V,j,C,by simpa using E⟩
 subst a6;obtain⟨X,d,Y,rfl,⟨g,h,i,rfl,Z,a0⟩,b3⟩:=U.mid;have a1:d∈S.l:=E.mem_iff.1 sM;have a2:((j++[d])++(X++Y).map (·.2)).Perm S.l:=by
  refine List.Perm.trans ?_ E;simp only[Q3,QY,XQ,List.singleton_append];exact List.Perm.append_left _ List.perm_middle.symm
 have b4:pre.length<S.l.length:=by
  have I:=a2.length_eq;have w:=C.length;simp at I;omega
 have b5:SJ w9 bo q.D S Pr (H,λn=>n=w1.heap.size\/n=q.r) pre H:=by
  obtain⟨I,w,h3,hd,h5,g,h,i,G,r,h4,h6,h7,h8⟩:=V;exact⟨I.new u λn P=>.inr oM,aj.refl _,h3,λn P=>by have:=hd n P;omega,oM,g,h,i,G,r,u.get h4 (λc=>(h3 _ (.inl rfl)).2.2 c.symm),h6.keep u λn P c=>(h7 n P).2 (.inl c),h7,h8⟩
 have b6:=y _ _ W (u.mono λn _ P=>(⟨oM,oM⟩:oH w9 n));refine rl b2 ⟨_,_,_,_,_,_,_,_,_,_,_,_,_,rfl,PA.mk λc8 J c9 b7=>aC (bb d g h i) b7 rfl λa5 K d0 b8=>ar (bb d g h i) b8 ⟨_,rfl,(hy _ pre _ a5 ((b5.af (J.new K λn P=>.inr oM)).re) ?_ ?_ ⟨b4,d,g,h,i,rfl,Z,a0,a1⟩).mono ?_⟩⟩
 ·exact y _ _ b6 (ai.keep (J.new K λn P=>.inr oM))
 ·exact λφ L=>L d.origin d.seq d.az g h i d.aX d.agg d.field d.op d.arg d.key
 ·rintro _ z ⟨rfl,l,b9⟩
  have c0:ai H a5:=J.new K λn P=>.inr oM;refine al.ff rfl ⟨_,?_,pre++[_],l1++l2,X++Y,j++[d],rfl,(a9.af c0).keep l.own (λM=>M (.inl rfl)) (λM=>M (.inr rfl)),b3,C.snoc ⟨g,h,i,rfl,Z,a0,a1⟩,a2,l.re,b9⟩;simp
def CP(c:cJ w p F S)(hl:S.l.length<=20000000)(hg:enters LL a=true)(hp:∀b i y M D w1,ai w w1->Row aO 8 w1 D i y b.aM->b.Ok->b∈S.l->be a (o++ #[kM b i y M]++Y) w1 (Ok λz C=>z= .bool (Pr b)/\ai w1 C)):
  be 74 #[RK p,.func (.func a) o Y] w (Ok (pQ jh 57 w (S.l.filter Pr))):=by
 have fQ:=c;obtain⟨W,q,c⟩:=c;refine vH (PA.mk λj k3 s3 g3=>PA.mk λN k4 s4 g4=>?_);have b4:=k3.then k4;have c7:=c.af b4;refine⟨p,0,rfl,_,ae c7.at' rfl,PC.ok (φ:=λz C=>z= .func (.func 183) #[] #[RK N.heap.size]/\(∃b c8,C.heap[N.heap.size]? =some (.cells #[.map (some q.r)] b c8))/\ai N C/\C.heap.size=N.heap.size+1)
  (dU (PA.mk λw5 E s5 g5=>Ok.mk ⟨rfl,⟨_,_,g5⟩,E,s5⟩)) ?_⟩
 rintro _ w9 ⟨rfl,c9,X,s9⟩;have Z:=b4.then X;have b5:=c.af Z;have hw:=c.aE;have b6:=aA c.at';have d0:=X.get (k4.get g3 id) id;have d1:=X.get g4 id;have b7:¬F j.heap.size:=λhf=>by have:=hw _ hf;omega
 have a0:j.heap.size<w9.heap.size:=oM
 refine⟨_,rfl,183,_,rfl,kR,World×(UL),(w9,no),SJ w9 j.heap.size q.D S Pr,λ_ _ _=>False,
  λpre vs=>pre.length<S.l.length/\∃b,CO w9 q.D S vs b,λf=>∃d,rZ (CO w9 q.D S) f d/\d.Perm S.l,?_,λs pre A B k g=>k.fm a0 g,λ_ _ _ _ c _=>c,?_,?_,?_,trivial⟩
 ·intro w6 k6 s6
  exact⟨ai.keep k6,ai.keep k6,λP n=>n.elim,λP n=>n.elim,oM,none,0,0,λ_=>False,[],k6.get d1 id,aT.nil _,λP n=>n.elim,trivial,Qj _⟩
 ·rintro s pre A k f8 t1 t2 t3 r tn t t4 t5 t6 t7 t8 t9 ⟨f9,b,i,y,M,he,hr,O,a1⟩
  simp only[aF,List.cons.injEq,Value.agg.injEq,Array.mk.injEq,Value.int.injEq,XX,and_true,true_and]at he;obtain⟨rfl,rfl,rfl,⟨rfl,rfl,rfl⟩,rfl,rfl,rfl,rfl,rfl,rfl⟩:=he;refine PA.mk λg0 d2 g1 d3=>aC (bb b r tn t) d3 rfl λd4 d5 g2 d6=>?_;have k2:ai A d4:=d2.new d5 λP n=>.inr oM;refine⟨ai.keep k2,λb8 g=>?_⟩;have H:=(k.af k2).fm a0 g;have b9:=g.1.get d6 oM;have g6:=g.2;have c0:∀P,q.D P->P<w9.heap.size/\P≠j.heap.size:=λP n=>⟨b5.aE P (c.sub P (.inr (.inr (.inr n)))),λb=>b7 (b▸c.sub P (.inr (.inr (.inr n))))⟩
  have c1:=hr.keep H.keep λP n=>(c0 P n).2;have d7:ai w b8:=Z.new H.keep λP n=>.inr oM;refine⟨_,ae (H.keep.get d0 oM) rfl,ar (bb b r tn t) b9 ⟨a,o,Y,rfl,hg,PC.ok (hp b r tn t _ b8 d7 c1 O a1) ?_⟩⟩;rintro _ d8 ⟨rfl,a2⟩;refine⟨_,rfl,al.mk (λg=>λc2 d9=>?_) (λhf=>?_)⟩
  ·have e0:ai d8 c2:=d9.keep
   have Q:=a2.then e0;have e1:=H.af Q;obtain⟨I,R,J,u,h5,T,ln,lc,G,d,l,h,e,m,h9⟩:=e1;have e2:=c1.af Q;have b6:=m.length;refine⟨no,id,_,_,_,ae l rfl,ar (bb b r tn t) (Q.get b9 id) (PC.ok (ng e2 λP n=>by have:=(c0 P n).1;omega) ?_)⟩;rintro _ g7 ⟨e3,cn,cc,G2,rfl,e4,U,a3⟩;have g8:=a3.size;refine⟨_,_,_,_,_,_,_,_,_,_,_,_,rfl,ai.keep a3,PA.mk λg9 a4 h0 e5=>⟨ai.keep a4,?_⟩⟩;have kk:=a3.then a4;refine fN (c:=jh) (h.af kk) HR e5 (D:=G2) (x:=b) ⟨e3,cn,cc,rfl,e4.af a4,O⟩ (λP n=>⟨by have:=U P n;omega,λb=>by have:=U P n;have:=h.aE _ (h.self _ b);omega⟩) ?_ ?_ λa' K h1 F' e6 a5 c4=>⟨_,_,_,rfl,?_⟩
   ·have:=List.length_filter_le Pr d;unfold aP;omega
   ·have:=List.length_filter_le Pr d;unfold maxLen;omega
   have V:=h.self;have a6:¬aH T=some j.heap.size:=λb=>by have:=(e _ (V _ b)).1;omega
   have e7:=a5.get (kk.get l id) a6;refine PS.mk e7 sM λe8 c5 h2 e9=>?_;have E:aj (λP=>aH T=some P\/P=j.heap.size) c2 e8:=((ai.keep kk).then (a5.mono λP _ n=>.inl n)).then (c5.mono λP _ n=>.inr n);have h3:=a5.size;refine⟨(ai.keep Q).trans E (λ_ _ c=>c) λP _ n=>?_,?_⟩
   ·rcases n with n|rfl
    ·have:=(e _ (V _ n)).1;exact⟨oM,oM⟩
    ·exact⟨oM,oM⟩
   refine⟨I.new E ?_,R.trans E (λ_ _ c=>c) λP _ n v=>?_,J,λP n=>by have:=u P n;omega,oM,a',ln+1,K,F',d++[b],?_,?_,?_,m.snoc ⟨r,tn,t,rfl,hr,O,a1⟩,?_⟩
   ·rintro P (n|n)
    ·exact .inr (by have:=(e _ (V _ n)).1;omega)
    ·exact .inl n
   ·rcases n with n|n
    ·exact(e _ (V _ n)).2 v
    ·exact(J P v).2.2 n
   ·rw[e9];rfl
   ·have a7:(d++[b]).filter Pr=d.filter Pr++[b]:=by rw[List.filter_append];simp[g]
    rw[a7];refine e6.keep c5 λP n b=>?_;rcases c4 P n with n|n|n
    ·have:=(e P n).1;omega
    ·have:=U P n;omega
    ·omega
   ·intro P n
    rcases c4 P n with n|n|n
    ·exact e P n
    ·have:=U P n;exact⟨oM,λv=>by have:=u P v;omega⟩
    ·exact⟨oM,λv=>by have:=u P v;omega⟩
   ·simp;omega
  ·refine⟨ai.keep a2,?_⟩
   obtain⟨I,R,J,u,h5,T,ln,lc,G,d,l,h,e,m,h9⟩:=H.af a2;have b6:=m.length;refine⟨I,R,J,u,h5,T,ln,lc,G,d++[b],l,?_,e,m.snoc ⟨r,tn,t,rfl,hr,O,a1⟩,by simp;omega⟩;have a7:(d++[b]).filter Pr=d.filter Pr:=by rw[List.filter_append];simp[hf]
   rw[a7];exact h
 ·intro f0 Rx hR _ h4 hy w6 f1 f2
  refine Calls.mono (Tn (R:=f0) a0 W b5 c9 oM b7 hR (λs pre vs A k f3 g hN=>(hy s pre vs A k f3 g hN).mono ?_) f1 f2) ?_
  ·rintro P A' (c|⟨-,x,c,-⟩)
   ·exact c
   ·exact c.elim
  ·rintro _ A' ⟨z,rfl,f4,s,f,a8,hT⟩
   exact⟨⟨z,rfl⟩,.inl ⟨f4,s,f,a8,hT⟩⟩
 ·rintro s f A k ⟨L',f5,f6⟩ hm
  obtain⟨I,R,J,u,h5,i,y,M,G,d,l,h,e,m,h9⟩:=k;obtain rfl:=rZ.unique m f5;have a9:(d.filter Pr).Perm (S.l.filter Pr):=f6.filter _;refine⟨_,_,_,ae l rfl,PC.ok (Kz h (by rw[a9.length_eq];exact Xx (List.length_filter_le ..) hl)) ?_⟩;rintro _ i0 ⟨rfl,l',L,b0,b1,b2⟩;have b3:=h.self;have a6:¬aH i=some j.heap.size:=λb=>by have:=(e _ (b3 _ b)).1;omega
  have f7:¬aH i=some w9.heap.size:=λb=>by have:=(e _ (b3 _ b)).1;omega
  refine⟨rfl,_,_,_,ae (b2.get l a6) rfl,b2.get hm f7,λi1 ⟨c6,i2⟩=>Ok.mk ?_⟩;have c3:=List.filter_sublist (p:=Pr) (l:=S.l);obtain rfl:l'=S.l.filter Pr:=Nb b0 (W.QE.sublist c3) (L.trans a9) (((L.trans a9).map bd).nodup_iff.2 (W.ids.sublist (c3.map _)));refine⟨i,y,M,G,rfl,b1.keep c6 λP n b=>by have:=(e P n).1;omega,?_,λP n=>by have:=(e P n).1;omega⟩;exact((Z.new I λP n=>.inr oM).new b2 λP n=>.inr (by have:=(e P (b3 P n)).1;omega)).new c6 λP n=>.inr oM
end
end Go.Proofs.YtkpomgifkloklabGreatDoor
namespace Go.aw
variable{s:List Int}{a:Nat}{f:UL}{d:bc}{j:Type}{g:TypeId}{b:World}
def Row.qJ{D:UL}(n:Row aO 8 b D d a s):Ints b d a s:=by
 have m:=n.len;refine⟨m,n.eR,λg o=>?_,λi g P=>?_⟩
 ·obtain⟨i,P,rfl⟩:=List.getElem_of_mem o
  obtain⟨h,j,p,f,c,k,l⟩:=n.ni (i:=i) oM;rw[Qq P]at c;rw[XJ c];exact k
 ·have r:=(Qv.1 P).1
  obtain⟨h,j,t,f,q,u,v,w⟩:=n.el i g P;obtain⟨x,y,p,e,c,k,l⟩:=n.ni (i:=i) oM;rw[P]at c;rw[f]at e;cases e
  exact⟨h,j,f,q,by rw[l,XJ c]⟩
def Own.take{b:World}{c:TypeId}{k:Nat}{d:bc}{P e m:Nat}{cs:List Value}(f:Own b c k d P e cs)(g:m<=P):Own b c k d m e (cs.take (m*k)):=by
 have h:=f.length;have i:m*k<=P*k:=Q0 _ g;refine⟨⟨by rw[Qy,h];omega,?_⟩⟩;rcases f.row.2 with⟨n,rfl⟩|⟨j,l,a,n,o,p,t,q,r,s⟩
 ·obtain rfl:m=0:=oM
  exact .inl ⟨n,rfl⟩
 ·simp only[XX]at n
  refine .inr ⟨j,l,a,by rw[n.1,n.2.2],o,p,oM,q,r,?_⟩;rw[<-s,List.take_take,X2 i]
def aT.take{a:kq j}{c n m:Nat}{e:List j}(P:aT a g f b d c n e)(h:m<=c):aT a g f b d m n (e.take m):=by
 obtain⟨cs,D,i,k,l⟩:=P.body;exact⟨⟨_,D,i.take h,k.take m,l⟩,P.self,P.aE⟩
end Go.aw
namespace Go.Proofs.YtkpomgifkloklabGreatDoor
section
open Go.aw
variable{e:Int}{s:List Int}{a c:Nat}{d:bc}
section
variable {w w' w1:World} {p:Nat} {F T:UL} {S:aq} {q:Tl}
def sd(c:cJ w p F S)(n:S.l.length<=20000000):be 45 #[RK p] w (Ok (pQ jh 57 w S.l)):=by
 refine xp (PC.ok (CP c n (Pr:=λ_=>true) kR λg P a b D w1 h i j k=>?_) ?_)
 ·exact uj (PA.mk λl d m o=>Ok.mk ⟨rfl,d⟩)
 ·rintro _ q ⟨P,a,b,G,rfl,n,e,f⟩
  rw[List.filter_eq_self.2 sM]at n;exact⟨_,_,_,rfl,Ok.mk ⟨P,a,b,G,rfl,n,e,f⟩⟩
def yT(q:cJ w p F S)(r:S.l.length<=20000000){D:UL}(t:Row aO 8 w D d a s):
  be 91 #[RK p,.slice d a c,WP e] w (Ok (pQ jh 57 w (S.missing s e))):=by
 refine qP (PA.mk λw1 g E u=>PC.ok (CP (q.af g) r (Pr:=λn=>decide (max 0 (fq s n.origin)<n.seq)) kR λn j b k H I v J K L=>?_) ?_)
 ·refine oS (PA.mk λl m M f=>λx y=>⟨no,id,?_⟩)
  have h:ai l x:=y.keep;have f:=h.get f id;have o:=v.then (m.then h);refine⟨_,ae f rfl,_,_,_,ae (o.get u id) rfl,_,ae f rfl,PC.ok (oF (t.qJ.af (g.then o))) ?_⟩;rintro _ _ ⟨rfl,rfl⟩;refine⟨_,rfl,aj.refl _,Ok.mk ⟨?_,m.then h⟩⟩
  congr 1
  rw[decide_eq_decide];split<;>omega
 ·rintro _ l ⟨j,b,k,G,rfl,P,z,A⟩
  have N:=P.len dC;have O:=P.ly;have i:(if e>0 then e else 0)=max 0 e:=by split<;>omega
  refine⟨_,_,_,rfl,?_⟩;refine⟨by rw[i];split<;>omega,by rw[i];split<;>omega,Ok.mk ⟨j,_,k,G,rfl,?_,g.then z,λB C=>by have:=A B C;omega⟩⟩;rw[i];have:=P.take (m:=Int.toNat (if max 0 e<(b:Int)then max 0 e else(b:Int))) (by split<;>omega);unfold aq.missing;have n:(List.filter (λn=>decide (max 0 (fq s n.origin)<n.seq)) S.l).take (Int.toNat (if max 0 e<(b:Int)then max 0 e else(b:Int)))=(List.filter (λn=>decide (max 0 (fq s n.origin)<n.seq)) S.l).take (max 0 e).toNat:=by
   split
   ·rfl
   ·rw[Qz oM,Qz oM]
  rw[<-n];exact this
def yW{P:Type}(p:P->Bool):∀n:List P,n.find? p=(n.filter p).head?
 |[]=>rfl
 |x::n=>by
  rw[List.find?_cons,List.filter_cons]
  cases p x
  ·exact yW p n
  ·rfl
def Qm(C:cJ w p F S)(q:S.l.length<=20000000){key:Int}:
  be 97 #[RK p,WP key] w (Ok λE w'=>∃r s H G,E= .tuple #[kM ((S.keyed key).getD sB) r s H,.bool (S.keyed key).isSome]/\Row aO 8 w' G r s ((S.keyed key).getD sB).aM/\(∀n,G n->w.heap.size<=n/\n<w'.heap.size)/\ai w w'):=by
 refine uk (PA.mk λw1 l Z t=>PA.mk λw2 i s2 I=>PC.ok (CP ((C.af l).af i) q (Pr:=λP=>key !=0&&P.key==key) kR λP J K L D' M N hr u hm=>?_) ?_)
 ·refine qS (PA.mk λv c x e=>?_)
  have y:=(i.then N).then c;refine⟨_,ae (y.get t id) rfl,al.eP (λO=>⟨_,ae e rfl,_,ae (y.get t id) rfl,Ok.mk ⟨?_,c⟩⟩) (λu=>Ok.mk ⟨?_,c⟩)⟩
  ·rw[show(key !=0)=true by simpa using O];rfl
  ·rw[u];rfl
 ·rintro _ M ⟨J,K,L,G,rfl,a,m,z⟩
  have j:=a.len dC;have A:=m.get I id;have B:S.keyed key=(S.l.filter λP=>key !=0&&P.key==key).head? :=yW _ _;refine⟨_,_,_,rfl,al.ey (λQ=>?_) (λQ=>?_)⟩
  ·have:(S.l.filter λP=>key !=0&&P.key==key)=[]:=QW oM
   rw[B,this];refine aC (bb sB none 0 0) A rfl λv c x e=>ar (bb sB none 0 0) e (Ok.mk ⟨none,0,0,λ_=>False,rfl,Row.nil _ _,λn b=>b.elim,((l.then i).then m).new c λn b=>.inr oM⟩)
  ·cases k:S.l.filter λP=>key !=0&&P.key==key with
   |nil=>rw[k]at j;simp at j;omega
   |cons d R=>
    rw[k]at a j;have a0:(d::R).length<=20000000:=by rw[<-k];exact Xx (List.length_filter_le ..) q
    have T:=a.row (bytes:=96) dC ce;obtain⟨n,U,es,V,b,a1,W,f,g,h,rfl,X,a3⟩:=T.el 0 d rfl
    with_reducible (conv=>whnf)
    rw[B,k];refine⟨n,U,V,oM,by simp at j;omega,?_⟩;refine bT (es:=aF d f g h) (k:=10) (bb d f g h) rfl (λY o=>?_) (aC (bb d f g h) A rfl λv c x e=>ar (bb d f g h) e (Ok.mk ⟨f,g,h,G,rfl,?_,?_,?_⟩))
    ·have:=W Y o
     simpa using this
    ·exact X.keep c λn b P=>by have:=z n b;omega
    ·intro n b;have:=z n b;have:=a.aE n b;omega
    ·exact((l.then i).then m).new c λn b=>.inr oM
end
end
section
open Go.aw
variable{e p:Int}{s:List Int}{a c:Nat}{d:bc}{j:Type}
def VT(P:a+c<4611686018427387904):PP .i64 (ks .u64 (PP .u64 (PP .i64 ((a:Int)+(c:Int)))) 1)=(((a+c)/2:Nat):Int):=by
 rw[wrap_i64 (x:=(a:Int)+c) cw];have n:PP .u64 ((a:Int)+(c:Int))=((a+c:Nat):Int):=by
  unfold PP;simp[IntKind.signed,IntKind.bits];omega
 rw[n,show(1:Int)=((1:Nat):Int)from rfl,Ox dC,wrap_i64 cw]
def posOf{n:Type}(P:n->Bool)(a:List n):Nat:=(a.takeWhile P).length
def AE(n:j->Bool)(P:List j):posOf n P<=P.length:=(List.takeWhile_sublist n).length_le
def AF{c:Type}{p:c->Bool}:∀{l:List c} {i:Nat},i<=l.length->(∀n x,n<i->l[n]? =some x->p x=true)->(∀x,l[i]? =some x->p x=false)->posOf p l=i
 |[],i,P,_,_=>by simp at P;subst P;rfl
 |x::l,0,_,_,e=>by
  have:=e x rfl;simp[posOf,this]
 |x::l,i+1,P,d,f=>by
  have g:=d 0 x oM rfl;have:=AF (p:=p) (l:=l) (i:=i) (by simpa using P) (λn a h b=>d (n+1) a oM (by simpa using b)) (λa b=>f a (by simpa using b));unfold posOf at this⊢;rw[List.takeWhile_cons,g];simp[this]
section
variable {w w':World} {D:UL}
def VU{w:World}:be 321 #[WP e] w (Ok λn w'=>n= .bool false/\w=w'):=tM (Ok.mk ⟨sM,rfl⟩)
def Rb{w:World}:be 317 #[WP e,WP p] w (Ok λn w'=>n= .bool (decide (e<p))/\w=w'):=by
 refine AG (PC.ok isNaN ?_);rintro _ _ ⟨rfl,rfl⟩;exact⟨_,rfl,al.ff rfl (Ok.mk ⟨rfl,rfl⟩)⟩
abbrev wZ(n:List Int):Prop:=n.Pairwise (·<·)
def tN(t:Row aO 8 w D d a s)(F:wZ s):
  be 283 #[.slice d a c,WP e] w (Ok λH w'=>H= .tuple #[WP (posOf (λn=>decide (n<e)) s:Nat),.bool (decide (e∈s))]/\w=w'):=by
 have N:=t.len;have I:=t.eR;unfold aP at I;have z:∀{i j:Nat} {n l:Int},s[i]? =some n->s[j]? =some l->i<=j->n<=l:=λ{i j n l} f m O=>by
  obtain⟨o,rfl⟩:=Qv.1 f;obtain⟨p,rfl⟩:=Qv.1 m;rcases Nat.lt_or_ge i j with h|h
  ·exact Int.le_of_lt (List.pairwise_iff_getElem.1 F i j o p h)
  ·obtain rfl:i=j:=oM
   exact Int.le_refl _
 refine jz ⟨λE i j w'=>∃P g:Nat,i=P/\j=g/\E=g-P/\P<=g/\g<=a/\(∀b n,b<P->s[b]? =some n->n<e)/\(∀b n,g<=b->s[b]? =some n->e<=n)/\w=w',
  ⟨_,0,a,rfl,rfl,rfl,oM,oM,λb n k=>oM,λb n k f=>by have:=(Qv.1 f).1;omega,rfl⟩,?_⟩
 rintro E _ _ _ _ ⟨P,g,rfl,rfl,rfl,Q,J,o,p,rfl⟩;refine al.dec (λR=>?_) (λS=>?_)
 ·rw[VT oM]
  obtain⟨u,v,n,x,f,-,y⟩:=t.ni (i:=(P+g)/2) oM;refine⟨u,v,x,oM,oM,n,by rw[Qx];exact y,PC.ok Rb ?_⟩;rintro _ _ ⟨rfl,rfl⟩;refine⟨_,rfl,al.dec (λK=>⟨_,?_,(P+g)/2+1,g,an oM,rfl,rfl,oM,J,λb l k m=>?_,p,rfl⟩) (λK=>⟨_,?_,P,(P+g)/2,rfl,rfl,rfl,oM,oM,o,λb l k m=>?_,rfl⟩)⟩
  ·omega
  ·have:=z m f oM;omega
  ·omega
  ·have:=z f m k;omega
 ·obtain rfl:P=g:=oM
  have L:posOf (λn=>decide (n<e)) s=P:=AF oM (λb n k f=>by simpa using o b n k f) (λn f=>by have:=p P n (Q4 _) f;simp;omega);rw[L];have A:e∈s↔s[P]? =some e:=by
   constructor
   ·intro q
    obtain⟨b,k,rfl⟩:=List.getElem_of_mem q;have r:s[b]? =some s[b]:=Qq k;rcases Nat.lt_or_ge b P with h|h
    ·have:=o b _ h r;omega
    ·have B:P<s.length:=oM
     have T:=p P _ (Q4 _) (Qq B);have U:=z (Qq B) r h;rw[Qq B];congr 1;omega
   ·exact QZ
  refine al.dec (λM=>?_) (λM=>?_)
  ·obtain⟨u,v,n,x,f,-,y⟩:=t.ni (i:=P) oM
   refine⟨u,v,x,oM,oM,n,y,al.ey (λC=>Ok.mk ⟨?_,rfl⟩) (λC=>⟨u,v,x,oM,oM,n,y,PC.ok VU ?_⟩)⟩
   ·rw[Zy (A.2 (C▸f))]
   ·rintro _ _ ⟨rfl,rfl⟩
    refine⟨_,rfl,al.ff rfl (Ok.mk ⟨?_,rfl⟩)⟩;rw[Xv];intro q;have:=A.1 q;rw[f]at this;exact C (XJ this)
  ·refine Ok.mk ⟨?_,rfl⟩
   rw[Xv];intro q;have:=(Qv.1 (A.1 q)).1;omega
end
def Ia{P:Int}:∀{n:List Int},wZ n->P∉n->qz P n=n.take (posOf (λy=>decide (y<P)) n)++P::n.drop (posOf (λy=>decide (y<P)) n)
 |[],_,_=>rfl
 |y::n,c,a=>by
  obtain⟨e,d⟩:=List.pairwise_cons.1 c;simp only[Q2,not_or]at a;unfold qz posOf
  by_cases b:P<y
  ·rw[Zx b,List.takeWhile_cons,Xv oM];rfl
  ·rw[Zq b,Zq a.1,List.takeWhile_cons,Zy (show y<P by omega),Ia d a.2];rfl
def uV{a:Int}:∀{n:List Int},a∈n->wZ n->qz a n=n
 |y::n,P,b=>by
  obtain⟨c,d⟩:=List.pairwise_cons.1 b;unfold qz;rcases Q2.1 P with rfl|P
  ·rw[Zq oM,Zx rfl]
  ·have:=c a P
   rw[Zq oM,Zq oM,uV P d]
def Ib{a n:Int}:∀{P:List Int},n∈qz a P↔n=a\/n∈P
 |[]=>by simp[qz]
 |y::P=>by
  unfold qz;split
  ·simp
  ·split
   ·rename_i h;subst h;simp
   ·simp only[Q2,Ib]
    constructor
    ·rintro(h|h|h)<;>simp[h]
    ·rintro(h|h|h)<;>simp[h]
def Ej{d:Int}:∀{P:List Int},wZ P->wZ (qz d P)
 |[],_=>List.pairwise_singleton ..
 |y::P,a=>by
  obtain⟨c,e⟩:=List.pairwise_cons.1 a;unfold qz;split
  ·rename_i f
   exact List.pairwise_cons.2 ⟨λb n=>by
    rcases Q2.1 n with rfl|n
    ·exact f
    ·have:=c b n;omega,a⟩
  ·split
   ·exact a
   ·refine List.pairwise_cons.2 ⟨λb n=>?_,Ej e⟩
    rcases Ib.1 n with rfl|n
    ·omega
    ·exact c b n
def Nn{P:Int}:∀{n:List Int},wZ n->P∈n->(n.filter λy=>y !=P)=n.eraseIdx (posOf (λy=>decide (y<P)) n)/\posOf (λy=>decide (y<P)) n<n.length
 |y::n,e,b=>by
  obtain⟨d,f⟩:=List.pairwise_cons.1 e;rcases Q2.1 b with rfl|b
  ·have c:posOf (λy=>decide (y<P)) (P::n)=0:=by simp[posOf]
   rw[c];refine⟨?_,sM⟩;rw[List.filter_cons_of_neg sM,List.eraseIdx_zero,List.tail_cons];refine List.filter_eq_self.2 λa g=>?_;have:=d a g;simp;omega
  ·have h:=d P b
   obtain⟨i,j⟩:=Nn f b;have c:posOf (λa=>decide (a<P)) (y::n)=posOf (λa=>decide (a<P)) n+1:=by simp[posOf,h]
   rw[c,List.filter_cons_of_pos cS,List.eraseIdx_cons_succ,i];exact⟨rfl,by simp;exact j⟩
def Ic(n:e∉s):(s.filter λP=>P !=e)=s:=List.filter_eq_self.2 λb a=>by
 simp only[bne_iff_ne,ne_eq];rintro rfl;exact n a
end
end Go.Proofs.YtkpomgifkloklabGreatDoor
namespace Go.aw
open Go
variable{y:am}{F a c i r:Nat}{f:UL}{X a2:Operand}{d v:bc}{j:Type}{g q:TypeId}{m t:ac}{b:World}{z:ba}
def xg{k:Program}{f bytes:Nat}{e:j->List Value}{l:j->Prop}{hl hone}(r:jU k g q f bytes)(H:0<bytes){i:List j}{D:UL}(h:Row (flat f e l hl hone) bytes b D d a i)(s:∀n,D n->n<b.heap.size)(u:∀v w,pQ (flat f e l hl hone) q b i v w->y (.returned v) w):
  aJ k (do eqGuard .eql g X a2 (.slice d a c) (.slice none 0 0);binOp .eql g (.slice d a c) (.slice none 0 0)) b (λI o=>∃(x:Bool),I= .bool x/\al x (y (.returned (.slice none 0 0)) o) (PA o (.cells #[] q) λJ=>
   aJ k (Builtin.append_ #[g,g] g #[.slice (UV o.heap.size) 0 0,.slice d a c]) J (λK L=>∃(z:bc) (A:Nat) (B:Nat),K= .slice z A B/\y (.returned (.slice z A B)) L) m)) t:=by
 have C:=h.len;have P:=h.eR;refine kZ r.under ⟨_,rfl,al.mk (λp=>?_) (λp=>PA.mk λM E Z N=>?_)⟩
 ·have:i=[]:=by
   cases d with
   |none=>
    cases i with
    |nil=>rfl
    |cons X a0=>obtain⟨n,O,es,Q,_⟩:=h.el 0 X rfl;cases Q
   |some R=>cases p
  subst this;exact u _ _ ⟨none,0,0,λ_=>False,rfl,aT.nil b,aj.refl _,λ_ h=>h.elim⟩
 ·cases d with
  |none=>cases p
  |some R=>
   have S:aT (flat f e l hl hone) q (·=b.heap.size) M (UV b.heap.size) 0 0 []:=
    ⟨⟨[],λ_=>False,Own.AB (cur:= #[]) N sM (Qj _),rfl,λ_ h=>h.elim⟩,λn P=>by simpa[aH]using P.symm,λn P=>oM⟩
   have T:a<=maxLen:=by
    unfold aP at P;unfold maxLen;have:a*1<=a*bytes:=Nat.mul_le_mul_left _ H;omega
   refine lL S r (D:=D) (h.af E) (λn P=>⟨by have:=s n P;omega,by have:=s n P;simp only[aH];intro q;cases q;omega⟩) (by rw[ZQ,Xz,<-C];exact P) (by rw[ZQ,Xz,<-C];exact T) λF U w2 F' V W _ Y=>?_;refine⟨_,_,_,rfl,u _ _ ⟨F,_,U,λn=>aH F=some n,rfl,by have h:=V.alone;rw[List.nil_append]at h;exact h,E.new W λn P=>.inr ?_,λn P=>?_⟩⟩
   ·simp only[aH,Q1]at P;omega
   ·rcases Y n P with h|h<;>omega
structure Bx (α:Type) where
 x:α
 a:bc
 n:Nat
 c:Nat
structure fp (α β:Type) where
 k:Nat
 ci:kq β
 ib:Nat
 inner:α->List β
 hd:α->bc->Nat->Nat->List Value
 ok:α->Prop
 hl:∀x a n c,(hd x a n c).length=k
 h1:∀x a n c,∀u∈hd x a n c,u.oneCell'=true
 o:Nat
 ho:o<k
 fQ:∀x a n c a' n' c',(hd x a n c).set o (.slice a' n' c')=hd x a' n' c'
section
variable {α β:Type} (N:fp α β)
def fp.kp:kq (Bx α):=flat N.k (λn=>N.hd n.x n.a n.n n.c) (λ_=>True) (λn=>N.hl ..) (λn=>N.h1 n.x n.a n.n n.c)
def fp.OC:kq α where
 k:=N.k
 rep:=λh D c cs=>∃n P a,cs=N.hd c n P a/\Row N.ci N.ib h D n P (N.inner c)/\N.ok c
 keep:=λ⟨n,P,a,b,d,e⟩ i f=>⟨n,P,a,b,d.keep i f,e⟩
 mono:=λ⟨n,P,a,b,d,e⟩ f=>⟨n,P,a,b,d.mono f,e⟩
 len:=λ⟨n,P,a,b,_,_⟩=>by rw[b];exact N.hl ..
 one:=λ⟨n,P,a,b,_,_⟩ j g=>by rw[b]at g;exact N.h1 _ _ _ _ j g
variable {N} {w w':World} {D:UL}
def fp.In(N:fp α β)(w:World)(D:UL)(n:Bx α):Prop:=Row N.ci N.ib w D n.a n.n (N.inner n.x)/\N.ok n.x
def fp.In.keep{S:UL}{n:Bx α}(P:N.In w D n)(a:aj S w w')(b:∀n,D n->¬S n):N.In w' D n:=⟨P.1.keep a b,P.2⟩
def fp.In.mono{n:Bx α}(P:N.In w D n)(a:∀n,D n->f n):N.In w f n:=⟨P.1.mono a,P.2⟩
def fp.aD:∀{P:List α} {cs:List Value},cd N.OC w D P cs->∃n:List (Bx α),n.map (·.x)=P/\cd N.kp w D n cs/\∀a∈n,N.In w D a
 |[],_,c=>⟨[],rfl,c,sM⟩
 |x::P,_,⟨d,e,f,⟨g,h,i,j,k,l⟩,m⟩=>by
  obtain⟨n,o,p,q⟩:=fp.aD m;refine⟨⟨x,g,h,i⟩::n,by simp[o],⟨d,e,f,⟨j,trivial⟩,p⟩,λa b=>?_⟩;rcases Q2.1 b with rfl|b
  ·exact⟨k,l⟩
  ·exact q a b
def fp.SL{a:UL}:∀{n:List (Bx α)} {cs:List Value},cd N.kp w a n cs->(∀b∈n,N.In w D b)->cd N.OC w D (n.map (·.x)) cs
 |[],_,c,_=>c
 |b::n,_,⟨d,e,f,⟨g,_⟩,h⟩,P=>⟨d,e,f,⟨b.a,b.n,b.c,g,P b (QV ..)⟩,fp.SL h λi j=>P i (QJ _ j)⟩
def fp.boxes{bytes:Nat}{b:List α}(c:Row N.OC bytes w D d a b):∃n:List (Bx α),n.map (·.x)=b/\Row N.kp bytes w D d a n/\∀h∈n,N.In w D h:=by
 obtain⟨cs,m,o⟩:=c.aD;obtain⟨n,i,p,q⟩:=fp.aD m;have e:n.length=b.length:=by rw[<-i];simp
 have r:0<N.OC.k:=Nat.lt_of_le_of_lt (Qj _) N.ho;refine⟨n,i,⟨by rw[e];exact c.len,c.eR,λB h f=>?_⟩,q⟩;have s:b≠[]:=by rintro rfl;rw[ZQ]at e;rw[QW e]at f;simp at f
 obtain⟨t,g,u,v,x,y⟩:=o s r;obtain⟨j,z,k⟩:=p.at f;refine⟨t,g,j,u,v,x,λl A=>?_,k⟩;have C:=N.kp.len k;have P:=z l A;rw[Qq (show l<j.length by omega)]at P⊢;rw[Nat.add_assoc];exact y _ _ P
def fp.unbox{b:List (Bx α)}(i:aT N.kp g f w d a c b)(P:∀n∈b,N.In w D n)(e:∀n,D n->n<w.heap.size/\aH d≠some n):aT N.OC g (λn=>aH d=some n\/D n) w d a c (b.map (·.x)):=by
 obtain⟨cs,k,h,j,l⟩:=i.body;refine⟨⟨cs,D,h,fp.SL j P,λn P=>⟨.inr P,(e n P).2⟩⟩,λn P=>.inl P,λn P=>?_⟩;rcases P with P|P
 ·exact h.lt P
 ·exact(e n P).1
def fp.set{b:List (Bx α)}(k:aT N.kp g f w d a c b){n:Bx α}(l:b[i]? =some n){h P:Nat}(m:d=some ⟨h,P,none⟩)(e:∀j,aT N.kp g f j d a c (b.set i ⟨n.x,v,r,F⟩)->aj (λn=>aH d=some n) w j->j.heap.size=w.heap.size->z j):PS w ⟨h,P+i*N.k+N.o,none⟩ (.slice v r F) z:=
 aT.set (x':=⟨n.x,v,r,F⟩) k l N.ho (N.fQ ..).symm m e
end
end Go.aw
namespace Go.Proofs.YtkpomgifkloklabGreatDoor
open Go.aw
def kU.Ok(n:kU):Prop:=aK n.bM/\aK n.nk/\aK n.lV/\aK n.least
def oB(n:kU):List Value:=[WP n.bM,WP n.nk,WP n.lV,WP n.least]
def kO:kq kU:=flat 4 oB kU.Ok (λ_=>rfl) (λP a n=>by simp[oB]at n;rcases n with rfl|rfl|rfl|rfl<;>rfl)
def fv(n:bu)(P:bc)(a b:Nat):List Value:=[WP n.kind,WP n.dX,.bool n.floor,.slice P a b]
def tR:kq bu where
 k:=4
 rep:=λh D c cs=>∃n P a,cs=fv c n P a/\Row kO 32 h D n P c.bL/\aK c.kind/\aK c.dX
 keep:=λ⟨n,P,a,b,d,e⟩ i f=>⟨n,P,a,b,d.keep i f,e⟩
 mono:=λ⟨n,P,a,b,d,e⟩ f=>⟨n,P,a,b,d.mono f,e⟩
 len:=λ⟨n,P,a,b,_,_⟩=>by rw[b];rfl
 one:=λ⟨n,P,a,b,_,_⟩ j g=>by
  rw[b]at g;simp[fv]at g;rcases g with rfl|rfl|rfl|rfl<;>rfl
def ns:kq (List bu) where
 k:=1
 rep:=λf D g cs=>∃n P a,cs=[.slice n P a]/\Row tR 48 f D n P g
 keep:=λ⟨n,P,a,b,c⟩ h d=>⟨n,P,a,b,c.keep h d⟩
 mono:=λ⟨n,P,a,b,c⟩ d=>⟨n,P,a,b,c.mono d⟩
 len:=λ⟨n,P,a,b,_⟩=>by rw[b];rfl
 one:=λ⟨n,P,a,b,_⟩ i e=>by rw[b]at e;simp at e;subst e;rfl
def jS.Ok(n:jS):Prop:=aK n.aX/\aK n.field/\aK n.group/\aK n.FO/\aK n.make
def oA(n:jS):List Value:=[WP n.aX,WP n.field,WP n.group,WP n.FO,WP n.make]
def Jj:kq jS:=flat 5 oA jS.Ok (λ_=>rfl) (λP a n=>by simp[oA]at n;rcases n with rfl|rfl|rfl|rfl|rfl<;>rfl)
def Tf:jU LL 83 228 4 32:=⟨kR,kR,dC⟩
def Vu:jU LL 86 85 4 48:=⟨kR,kR,dC⟩
def QU:jU LL 22 88 1 24:=⟨kR,kR,dC⟩
def RU:jU LL 23 156 5 40:=⟨kR,kR,dC⟩
def KS(n:kU):iA LL 228 (oB n)=true:=kR
def gJ(n:bu)(P:bc)(a b:Nat):iA LL 85 (fv n P a b)=true:=kR
def Ke(n:bu)(P:bc)(a b:Nat):TF (dL LL 85) (.agg (fv n P a b).toArray)=true:=kR
def qu(n:jS):iA LL 156 (oA n)=true:=kR
def Ym:bu:=⟨0,0,false,[]⟩
structure bt (w:World) (D:UL) (d:aR) (ta:bc) (tn:Nat) (pa:bc) (pn:Nat):Prop where
 aX:Row ns 24 w D ta tn d.types
 FQ:Row Jj 40 w D pa pn d.projs
variable{o:Array Value}{A:FuncId}{E e p:Int}{g3:List kU}{a c:Nat}{c4:bu}
section
variable {w w':World} {D D' S:UL} {d:aR} {ta pa:bc} {tn tc pn pc:Nat}
def bt.keep(n:bt w D d ta tn pa pn)(P:aj S w w')(a:∀b,D b->¬S b):bt w' D d ta tn pa pn:=⟨n.aX.keep P a,n.FQ.keep P a⟩
def bt.af(n:bt w D d ta tn pa pn)(P:ai w w'):bt w' D d ta tn pa pn:=n.keep P λ_ _ n=>n
def bt.mono(n:bt w D d ta tn pa pn)(P:∀a,D a->D' a):bt w D' d ta tn pa pn:=⟨n.aX.mono P,n.FQ.mono P⟩
structure fy (w:World):Prop where
 kinds:∀i,i<6->w.cell? ⟨1,i,none⟩=some (WP (rA i))
 Yn:∀i,i<5->w.cell? ⟨0,i,none⟩=some (WP (([0,2,14,6,6]:List Int).getD i 0))
 lt:1<w.heap.size/\0<w.heap.size
def fy.af(n:fy w)(a:ai w w'):fy w':=
 ⟨λP b=>(a.cell (a:=⟨1,P,none⟩) n.lt.1 id).trans (n.kinds P b),λP b=>(a.cell (a:=⟨0,P,none⟩) n.lt.2 id).trans (n.Yn P b),
  Qk n.lt.1 a.size,Qk n.lt.2 a.size⟩
def bN:within e p E=true↔p<=e/\e<=E:=by simp[within]
def cD:be 129 #[WP e,WP p,WP E] w (Ok λn w'=>n= .bool (within e p E)/\w=w'):=by
 refine zF (al.dec (λP=>Ok.mk ⟨?_,rfl⟩) (λP=>Ok.mk ⟨?_,rfl⟩))
 ·simp[within];omega
 ·simp[within];omega
def tI{b:bc}(h:Row kO 32 w D b a g3)(e:∀n,D n->n<w.heap.size):
  be 134 #[.slice b a c] w (Ok (pQ kO 228 w g3)):=by
 have v:=h.len;have P:=h.eR;refine iQ (kZ Tf.under ⟨_,rfl,al.mk (λd=>?_) (λd=>PA.mk λi f x j=>?_)⟩)
 ·have:g3=[]:=by
   cases b with
   |none=>
    cases g3 with
    |nil=>rfl
    |cons k y=>obtain⟨n,l,z,m,_⟩:=h.el 0 k rfl;cases m
   |some o=>cases d
  subst this;exact Ok.mk ⟨none,0,0,λ_=>False,rfl,aT.nil w,aj.refl _,λ_ h=>h.elim⟩
 ·cases b with
  |none=>cases d
  |some o=>
   have p:aT kO 228 (·=w.heap.size) i (UV w.heap.size) 0 0 []:=
    ⟨⟨[],λ_=>False,Own.AB (cur:= #[]) j rfl (Qj _),rfl,λ_ h=>h.elim⟩,λn P=>by simpa[aH]using P.symm,λn P=>oM⟩
   refine lL p Tf (D:=D) (h.af f) (λn P=>⟨by have:=e n P;omega,by have:=e n P;simp only[aH];intro q;cases q;omega⟩) cS (by unfold aP at P;unfold maxLen;simp;omega) λg r A B s t _ u=>?_;refine⟨_,_,_,rfl,Ok.mk ⟨g,_,r,λn=>aH g=some n,rfl,by have h:=s.alone;rw[List.nil_append]at h;exact h,f.new t λn P=>.inr ?_,λn P=>?_⟩⟩
   ·simp only[aH,Q1]at P;omega
   ·rcases u n P with h|h<;>omega
def Kr{p:kU->Bool}{m:bc}(h:Row kO 32 w D m a g3)(t:enters LL A=true)(u:∀b d,ai w d->be A (#[]++ #[.agg (oB b).toArray]++o) d (Ok λe q=>e= .bool (p b)/\ai d q)):
  be 133 #[.slice m a c,.func (.func A) #[] o] w (Ok λe w'=>e= .bool (g3.any p)/\ai w w'):=by
 have E:=h.len;have v:=h.eR;unfold aP at v;refine fS (PC.ok (φ:=λe w'=>(∃P:Int,e= WP P/\(0<=P↔g3.any p=true))/\ai w w') (gC ⟨λb P w'=>∃n:Nat,P=n/\n<=a/\b=a-n/\(g3.take n).any p=false/\ai w w',
  ⟨_,0,rfl,Qj _,rfl,sM,aj.refl _⟩,?_⟩) ?_)
 ·rintro b P _ d ⟨n,rfl,F,rfl,i,f⟩
  refine al.dec (λx=>?_) (λx=>?_)
  ·obtain⟨y,j,k,H,rfl,_,_,r,z,rfl,_⟩:=(h.af f).AV (i:=n) oM
   refine⟨y,j,rfl,oM,oM,bT (KS k) rfl z ⟨A,_,_,rfl,t,PC.ok (u k d f) ?_⟩⟩;rintro _ q ⟨rfl,s⟩;refine⟨_,rfl,al.mk (λl=>?_) (λl=>?_)⟩
   ·exact Ok.mk ⟨⟨_,rfl,λ_=>List.any_eq_true.2 ⟨k,QZ r,l⟩,λ_=>oM⟩,f.then s⟩
   ·refine⟨_,oM,n+1,an oM,oM,rfl,?_,f.then s⟩
    rw[Qw,r,List.any_append,i];simp[l]
  ·rw[Qz oM]at i
   exact Ok.mk ⟨⟨_,rfl,λg=>oM,λg=>by rw[i]at g;cases g⟩,f⟩
 ·rintro _ w' ⟨⟨P,rfl,B⟩,C⟩
  exact⟨_,rfl,Ok.mk ⟨by cases g:g3.any p<;>simp[g]at B⊢<;>omega,C⟩⟩
def aR.wT(n:d.DY e p=some c4):0<=e/\e<d.types.length/\∃P,d.types[e.toNat]? =some P/\d.at e=P/\0<=p/\p<P.length/\P[p.toNat]? =some c4:=by
 unfold aR.DY at n;split at n
 ·rename_i a
  simp only[QK,bN]at a;have b:e.toNat<d.types.length:=oM
  have c:d.at e=d.types[e.toNat]:=by unfold aR.at;rw[Zx (bN.2 a.1)];simp[b]
  rw[c]at a n;exact⟨oM,oM,_,by simp[b],c,oM,oM,n⟩
 ·cases n
def pC(m:bt w D d ta tn pa pn)(y:∀n,D n->n<w.heap.size):
  be 80 #[.agg #[.slice ta tn tc,.slice pa pn pc],WP e,WP p] w (Ok λz w'=>ai w w'/\match d.DY e p with
   |none=>z= .tuple #[.agg (fv Ym none 0 0).toArray,.bool false]
   |some b=>∃A B C E,z= .tuple #[.agg (fv b A B C).toArray,.bool true]/\aT kO 228 E w' A B C b.bL/\(∀n,E n->w.heap.size<=n)):=by
 have o:=m.aX.len;have P:=m.aX.eR;unfold aP at P;have a:within e 0 ((tn:Int)-1)=false->d.DY e p=none:=λF=>by unfold aR.DY;rw[o]at F;rw[Zq (by simp[F])]
 refine Bj (PA.mk λw1 V s1 q=>PA.mk λw2 j s2 r=>⟨_,_,_,ae (j.get q id) rfl,PC.ok cD ?_⟩);rintro _ _ ⟨rfl,rfl⟩;rw[wrap_i64 cw];have c:=V.then j;refine⟨_,rfl,al.not (al.mk (λg=>?_) (λg=>?_))⟩
 rotate_left
 ·refine aC (cs:=fv Ym none 0 0) (gJ _ _ _ _) r rfl λH f I h=>ar (gJ _ _ _ _) h (Ok.mk ⟨c.new f λn P=>.inr oM,?_⟩)
  rw[a g]
 have W:=bN.1 g;refine⟨_,_,_,ae (j.get q id) rfl,?_⟩;obtain⟨n,i,X,es,rfl,a8,a9,Y,Z,b0,n1,c1,rfl,s⟩:=((m.af c).aX).at (i:=e) oM oM;have J:=s.len;have a0:=s.eR;unfold aP at a0;have K:d.at e=X:=by
  unfold aR.at;rw[Zx (by rw[<-o];exact g),QQ,Y];rfl
 have t:=Z 0 dC;simp only[ns,Nat.mul_one,Nat.add_zero]at t;refine⟨n,i,rfl,oM,oM,_,_,_,t,PC.ok cD ?_⟩;rintro _ _ ⟨rfl,rfl⟩;rw[wrap_i64 cw];refine⟨_,rfl,al.not (al.mk (λk=>?_) (λk=>?_))⟩
 rotate_left
 ·refine aC (cs:=fv Ym none 0 0) (gJ _ _ _ _) r rfl λH f I h=>ar (gJ _ _ _ _) h (Ok.mk ⟨c.new f λn P=>.inr oM,?_⟩)
  rw[show d.DY e p=none by unfold aR.DY;rw[K,<-J,Zq (by simp[k])]]
 have a1:=bN.1 k;refine⟨_,_,_,ae (j.get q id) rfl,n,i,rfl,oM,oM,_,_,_,t,?_⟩;obtain⟨b2,a2,b,b1,rfl,b3,b4,a3,a4,L,M,N,rfl,hM,b5,b6⟩:=s.at (i:=p) oM oM;have a5:d.DY e p=some b:=by unfold aR.DY;rw[K,<-J,<-o,Zx (by simp[g,k])];exact a3
 refine⟨b2,a2,rfl,oM,oM,bT (gJ b L M N) rfl a4 (PA.mk λH f I h=>aC (gJ b L M N) h rfl λw4 u s4 O=>⟨_,_,_,ae O rfl,PC.ok (tI ((hM.af f).keep u λn P Q=>by have:=y n P;have:=c.size;omega) λn P=>by have:=y n P;have:=c.size;omega) ?_⟩)⟩;rintro _ w5 ⟨R,S,T,F5,rfl,a6,l,v⟩;have z5:=l.size;refine⟨_,_,_,rfl,PS.mk (l.get O id) (by simp[fv]) λw6 x s6 g6=>ar (cs:=fv b R S T) (gJ _ _ _ _) g6 (aC (gJ _ _ _ _) (x.get (l.get (u.get (f.get r id) oM) id) oM) rfl λw7 U s7 g7=>ar (gJ _ _ _ _) g7 (Ok.mk ⟨?_,?_⟩))⟩
 ·have a7:ai w w6:=((((c.then f).new u λn P=>.inr oM).then l)).new x λn P=>.inr oM
  exact a7.new U λn P=>.inr oM
 ·rw[a5]
  exact⟨R,S,T,F5,rfl,(a6.keep x λn P Q=>by have:=v n P;omega).keep U λn P Q=>by have:=v n P;omega,λn P=>by have:=v n P;have:=c.size;omega⟩
end
variable{F b6 i r:Nat}{d d8 v:bc}{M l:ah}
section
variable {w w':World} {D E:UL}
def vK(g:Row aO 8 w E v i M.aM):be 320 #[kM l d a c,kM M v i r] w (Ok λh w'=>h= .bool (BB l M)/\ai w w'):=by
 refine Bp (PA.mk λp j q n=>PA.mk λk e s P=>λm o=>⟨no,?_⟩);have b:ai k m:=o.keep;have n:=b.get (e.get n id) id;have P:=b.get P id;have f:=(j.then e).then b;refine⟨_,_,_,ae P rfl,_,ae n rfl,id,_,ae n rfl,PC.ok (oF (g.qJ.af f)) ?_⟩;rintro _ _ ⟨rfl,rfl⟩;exact⟨_,rfl,aj.refl _,Ok.mk ⟨rfl,f⟩⟩
def IX(j:Row aO 8 w D d a l.aM)(k:Row aO 8 w E v i M.aM):be 281 #[kM l d a c,kM M v i r] w (Ok λm w'=>m= .bool (vL l M)/\ai w w'):=by
 refine DE (PA.mk λs o t n=>PA.mk λu h x e=>?_);have n:=h.get n id;have P:=o.then h;refine⟨_,_,ae n rfl,ae n rfl,_,_,ae e rfl,ae e rfl,Ni.neq ⟨_,rfl,?_⟩⟩;have p:(!(l.origin==M.origin&&l.seq==M.seq))=(bd l !=bd M):=rfl;rw[p];refine al.mk (λf=>ar (bb l d a c) n (ar (bb M v i r) e (PC.ok (vK (k.af P)) ?_))) (λf=>Ok.mk ⟨by unfold vL;rw[f];rfl,P⟩);rintro _ y ⟨rfl,b⟩;refine⟨_,rfl,al.not (al.mk (λg=>Ok.mk ⟨by unfold vL;rw[f,g];rfl,P.then b⟩) (λg=>ar (bb M v i r) (b.get e id) (ar (bb l d a c) (b.get n id) (PC.ok (vK (j.af (P.then b))) ?_))))⟩;rintro _ z ⟨rfl,q⟩;exact⟨_,rfl,Ok.mk ⟨by unfold vL;rw[f,g];rfl,(P.then b).then q⟩⟩
def my:KF LL 406 3:=⟨kR,kR,⟨ "op", "arg",kR,dC,dC⟩,kR,kR,kR⟩
abbrev fdV(n:bu)(P:bc)(a b:Nat):Value:=.agg (fv n P a b).toArray
def xK{P b e f:Int}:be 280 #[fdV c4 d a c,WP P,WP b,WP e,WP f] w (Ok λz w'=>z= .bool (e_ c4 (P,b) (e,f))/\ai w w'):=by
 refine uy (PA.mk λQ F U H=>PA.mk λR A V I=>PA.mk λW r X J=>PS.mk (r.get I id) sM λY s Z K=>PS.mk K sM λw5 t s5 L=>PS.mk (t.get (s.get J oM) oM) sM λw6 u s6 M=>PS.mk M sM λv x s7 N=>?_);have S:ai w v:=(((((F.then A).then r).new s λk B=>.inr oM).new t λk B=>.inr oM).new u λk B=>.inr oM).new x λk B=>.inr oM;have T:=x.get (u.get (t.get (s.get (r.get (A.get H id) id) oM) oM) oM) oM;have g:v.heap[Q.heap.size]? =some (.cells #[WP P,WP b] 406 (0,0)):=x.get (u.get L oM) oM;have h:v.heap[R.heap.size]? =some (.cells #[WP e,WP f] 406 (0,0)):=N
 clear H I J K L M N F A r s t u x
 have n:∀{k:Bool},e_ c4 (P,b) (e,f)=k->Ok (λz w'=>z= .bool (e_ c4 (P,b) (e,f))/\ai w w') (.returned (.bool k)) v:=λ{k} l=>Ok.mk ⟨by rw[l],S⟩;have O:(((P,b):Int×Int) !=(e,f))= !(P==e&&b==f):=rfl;refine⟨_,ae T rfl,al.ey (λi=>?_) (λi=>al.ey (λp=>?_) (λp=>al.ey (λC=>?_) (λC=>n ?_)))⟩
 ·refine⟨_,ae g rfl,al.ey (λj=>⟨_,ae h rfl,al.ey (λm=>⟨_,_,ae g rfl,ae g rfl,_,_,ae h rfl,ae h rfl,my.neq ⟨_,rfl,n ?_⟩⟩) (λm=>n ?_)⟩) (λj=>n ?_)⟩
  ·unfold e_;rw[Zx i,O,show P=2 from j,show e=2 from m];rfl
  ·unfold e_;rw[Zx i,show P=2 from j,show(e==2)=false by simpa using m];rfl
  ·unfold e_;rw[Zx i,show(P==2)=false by simpa using j];rfl
 ·refine⟨_,ae g rfl,al.ey (λj=>⟨_,ae h rfl,al.ey (λm=>⟨_,_,ae g rfl,ae g rfl,_,_,ae h rfl,ae h rfl,my.neq ⟨_,rfl,n ?_⟩⟩) (λm=>n ?_)⟩) (λj=>n ?_)⟩
  ·unfold e_;rw[Zq i,Zx p,O,show P=5 from j,show e=5 from m];rfl
  ·unfold e_;rw[Zq i,Zx p,show P=5 from j,show(e==5)=false by simpa using m];rfl
  ·unfold e_;rw[Zq i,Zx p,show(P==5)=false by simpa using j];rfl
 ·have q:e_ c4 (P,b) (e,f)=((P==3&&b==f)&&(e==4&&f==b)||(P==4&&b==f)&&(e==3&&f==b)):=by
   unfold e_;rw[Zq i,Zq p,Zx C];rfl
  refine⟨_,_,ae g rfl,ae g rfl,my.eql ⟨_,rfl,al.mk (λy=>⟨_,_,ae h rfl,ae h rfl,my.eql ⟨_,rfl,al.mk (λE=>n ?_) (λE=>?_)⟩⟩) (λy=>?_)⟩⟩
  ·rw[q,y,E];rfl
  ·have l:((P==3&&b==f)&&(e==4&&f==b))=false:=by rw[y,E];rfl
   exact⟨_,_,ae g rfl,ae g rfl,my.eql ⟨_,rfl,al.mk (λo=>⟨_,_,ae h rfl,ae h rfl,my.eql ⟨_,rfl,n (by rw[q,l,o];rfl)⟩⟩) (λo=>n (by rw[q,l,o];rfl))⟩⟩
  ·have l:((P==3&&b==f)&&(e==4&&f==b))=false:=by rw[y];rfl
   exact⟨_,_,ae g rfl,ae g rfl,my.eql ⟨_,rfl,al.mk (λo=>⟨_,_,ae h rfl,ae h rfl,my.eql ⟨_,rfl,n (by rw[q,l,o];rfl)⟩⟩) (λo=>n (by rw[q,l,o];rfl))⟩⟩
 ·unfold e_;rw[Zq i,Zq p,Zq C]
def BC{f:bu}(s:Row aO 8 w D v i l.aM)(t:Row aO 8 w E d8 F M.aM):
  be 215 #[fdV f d a c,kM l v i r,kM M d8 F b6] w (Ok λu w'=>u= .bool (mV f l M)/\ai w w'):=by
 refine xE (PA.mk λC x H y=>PA.mk λI p J z=>PA.mk λA h K e=>?_);have j:=h.get (p.get y id) id;have g:=h.get z id;have b:=(x.then p).then h;refine⟨λq w'=>q=(f.dX==2||f.dX==3&&decide (M.arg<l.arg))/\A=w',?_,?_⟩
 ·refine⟨_,ae j rfl,al.ey (λn=>⟨by rw[show f.dX=2 from n];rfl,rfl⟩) (λn=>⟨_,ae j rfl,al.ey (λk=>⟨_,ae g rfl,_,ae e rfl,?_,rfl⟩) (λk=>⟨?_,rfl⟩)⟩)⟩
  ·rw[show f.dX=3 from k];rfl
  ·rw[show(f.dX==2)=false by simpa using n,show(f.dX==3)=false by simpa using k];rfl
 ·rintro q _ _ ⟨m,rfl⟩
  refine al.mk (λn=>?_) (λn=>Ok.mk ⟨by unfold mV;rw[<-m,n];rfl,b⟩);refine ar (gJ f d a c) j ⟨_,ae g rfl,_,ae g rfl,_,ae e rfl,_,ae e rfl,PC.ok xK ?_⟩;rintro _ L ⟨rfl,P⟩;refine⟨_,rfl,al.mk (λo=>ar (bb l v i r) (P.get g id) (ar (bb M d8 F b6) (P.get e id) (PC.ok (IX (s.af (b.then P)) (t.af (b.then P))) ?_))) (λo=>Ok.mk ⟨by unfold mV;rw[<-m,n,o];rfl,b.then P⟩)⟩;rintro _ N ⟨rfl,B⟩;exact⟨_,rfl,Ok.mk ⟨by unfold mV;rw[<-m,n,o];rfl,(b.then P).then B⟩⟩
end
def lA:fp cZ Int where
 k:=2
 ci:=aO
 ib:=8
 inner:=(·.set)
 hd:=λn P a b=>[WP n.n,.slice P a b]
 ok:=λn=>aK n.n/\wZ n.set/\n.set.length<=64
 hl:=λ_ _ _ _=>rfl
 h1:=λn P a b d c=>by simp at c;rcases c with rfl|rfl<;>rfl
 o:=1
 ho:=dC
 fQ:=λ_ _ _ _ _ _ _=>rfl
abbrev gA:kq cZ:=lA.OC
def Rf:jU LL 38 66 2 32:=⟨kR,kR,dC⟩
abbrev TL(n:Int):Nat:=if n=1 then 218 else if n=3 then 223 else if n=5 then 226 else 221
abbrev YA(n:Int):Nat:=if n=1 then 219 else if n=2 then 222 else if n=3 then 224 else if n=4 then 225 else 227
def qC(n:Int):Value:=.agg #[.func (.func (TL n)) #[] #[],.func (.func (YA n)) #[] #[]]
def AI:mK LL 281 3 279 (.agg #[.nilFunc,.nilFunc]):=⟨kR,kR⟩
def lC:ji LL 3 (Value.int .i64):=Xh kR
variable{b7:List cZ}
section
variable {w w':World} {D E:UL}
def AJ:be 166 #[] w (Ok λb w'=>∃a,b= .map (some a)/\bW w' a (Value.int .i64) [((1:Int),qC 1),(2,qC 2),(3,qC 3),(4,qC 4),(5,qC 5)]/\ai w w'):=by
 refine Gc (PA.mk λp c q d=>?_);refine dA (k:=(1:Int)) AI lC (bW.new d) λr e f s=>dA (k:=(2:Int)) AI lC e λt g h u=>dA (k:=(3:Int)) AI lC g λv i j x=>dA (k:=(4:Int)) AI lC i λy k l z=>dA (k:=(5:Int)) AI lC k λA m o B=>Ok.mk ⟨_,rfl,m,?_⟩;exact((((c.new f λn P=>.inr oM).new h λn P=>.inr oM).new j λn P=>.inr oM).new l λn P=>.inr oM).new o λn P=>.inr oM
def No(n:1<=e)(P:e<=5):au [((1:Int),qC 1),(2,qC 2),(3,qC 3),(4,qC 4),(5,qC 5)] e=some (qC e):=by
 have:e=1\/e=2\/e=3\/e=4\/e=5:=oM
 rcases this with rfl|rfl|rfl|rfl|rfl<;>rfl
def Xi(n:bu)(P:bc)(a b:Nat)(c:bc)(d e:Nat)(f arg:Int):List Value:=[WP n.kind,WP n.dX,.bool n.floor,.slice P a b,.slice c d e,WP f,WP arg]
abbrev AK(n:bu)(P:bc)(a b:Nat)(c:bc)(d e:Nat)(f arg:Int):Value:=.agg (Xi n P a b c d e f arg).toArray
def uY(n:bu)(P:bc)(a b:Nat)(c:bc)(d e:Nat)(f arg:Int):iA LL 284 (Xi n P a b c d e f arg)=true:=kR
variable {f:bu} {ma ca:bc} {mn mc cn cc i:Nat} {arg:Int}
def iH(P:ca=some ⟨a,c,none⟩)(e:i<cn):be 220 #[AK f ma mn mc ca cn cc (i:Int) arg] w (Ok λb w'=>b= .pointer (some ⟨a,c+i*2,none⟩)/\ai w w'):=
 zl (PA.mk λg d h n=>⟨_,_,_,ae n rfl,_,ae n rfl,a,c,P,oM,oM,Ok.mk ⟨rfl,d⟩⟩)
def Rg(d:List bu)(c:List cZ)(n b arg:Int):Bool:=
 let f:=d.getD n.toNat ⟨0,0,false,[]⟩
 let P:=c.getD n.toNat ⟨0,[]⟩
 if b=1 then(arg==0||Np P.n arg)&& !(f.floor&&decide (pW (P.n+arg)<0))
 else if b=3 then decide (arg∈P.set)||decide (P.set.length<64)
 else if b=5 then(let a:=f.bL.getD arg.toNat ⟨0,0,0,0⟩;P.n==a.bM&&(decide (a.lV<0)||decide (a.least<=(c.getD a.lV.toNat ⟨0,[]⟩).n)))
 else true
def Gf(P:List bu)(a:List cZ)(n b arg:Int):xf P a n b arg=if Rg P a n b arg then 0 else 10:=rfl
def nq{bytes:Nat}(e:Row gA bytes w D ca cn b7)(f:i<cn):∃n P a b c,ca=some ⟨n,P,none⟩/\n<w.heap.size/\D n/\w.cell? ⟨n,P+i*2,none⟩=some (WP (b7.getD i ⟨0,[]⟩).n)/\w.cell? ⟨n,P+i*2+1,none⟩=some (.slice a b c)/\Row aO 8 w D a b (b7.getD i ⟨0,[]⟩).set/\aK (b7.getD i ⟨0,[]⟩).n/\wZ (b7.getD i ⟨0,[]⟩).set/\(b7.getD i ⟨0,[]⟩).set.length<=64:=by
 have g:=e.len;obtain⟨n,P,p,j,k,l,h,a,b,c,rfl,m,d⟩:=e.el i b7[i] (by simp[g▸f]);have o:b7.getD i ⟨0,[]⟩=b7[i]:=by simp[QQ,g▸f]
 rw[o];exact⟨n,P,a,b,c,j,k,l,by have:=h 0 dC;simpa[lA,fp.OC]using this,by have:=h 1 dC;simpa[lA,fp.OC]using this,m,d.1,d.2.1,d.2.2⟩
def Rh:be 282 #[WP e,WP p] w (Ok λn w'=>n= .bool (Np e p)/\w=w'):=KR (Ok.mk ⟨rfl,rfl⟩)
def Ii{bytes:Nat}(k:Row gA bytes w D ca cn b7)(g:i<cn):
  be 218 #[AK f ma mn mc ca cn cc (i:Int) arg] w (Ok λl w'=>l= .bool ((arg==0||Np (b7.getD i ⟨0,[]⟩).n arg)&& !(f.floor&&decide (pW ((b7.getD i ⟨0,[]⟩).n+arg)<0)))/\ai w w'):=by
 refine Dd (PA.mk λs h t j=>ar (uY ..) j ?_);obtain⟨m,o,u,v,x,p,q,y,r,a,-⟩:=nq (k.af h) g;refine PC.ok (iH p g) ?_;rintro _ z ⟨rfl,d⟩;have P:=d.get j id;have b:=h.then d;refine⟨_,rfl,_,_,rfl,_,(d.cell (a:=⟨m,o+i*2,none⟩) q id).trans r,_,ae P rfl,al.ey (λc=>⟨_,ae P rfl,al.mk (λn=>⟨_,ae P rfl,Ok.mk ⟨?_,b⟩⟩) (λn=>Ok.mk ⟨?_,b⟩)⟩) (λc=>⟨_,ae P rfl,PC.ok Rh ?_⟩)⟩
 ·rw[show(arg==0)=true by simpa using c,n];rfl
 ·rw[show(arg==0)=true by simpa using c,n];rfl
 ·rintro _ _ ⟨rfl,rfl⟩
  have e:(arg==0)=false:=by simpa using c
  refine⟨_,rfl,al.mk (λa=>⟨_,ae P rfl,al.mk (λn=>⟨_,ae P rfl,Ok.mk ⟨?_,b⟩⟩) (λn=>Ok.mk ⟨?_,b⟩)⟩) (λa=>Ok.mk ⟨?_,b⟩)⟩
  ·rw[e,a,n];rfl
  ·rw[e,a,n];rfl
  ·rw[e,a];rfl
def Ij{bytes:Nat}(m:Row gA bytes w D ca cn b7)(P:i<cn):
  be 223 #[AK f ma mn mc ca cn cc (i:Int) arg] w (Ok λo w'=>o= .bool (decide (arg∈(b7.getD i ⟨0,[]⟩).set)||decide ((b7.getD i ⟨0,[]⟩).set.length<64))/\ai w w'):=by
 refine Df (PA.mk λp q A r=>λs t=>⟨no,?_⟩);have c:ai p s:=t.keep;have a:=c.get r id;have b:=q.then c;obtain⟨d,e,B,C,E,g,h,F,H,u,j,-,v,-⟩:=nq (m.af b) P;refine ar (uY ..) a ⟨id,_,ae a rfl,PC.ok (iH g P) ?_⟩;rintro _ I ⟨rfl,n⟩;have k:=(n.cell (a:=⟨d,e+i*2+1,none⟩) h id).trans u;refine⟨_,rfl,ai.keep n,_,_,rfl,_,_,_,k,PC.ok (tN (j.af n) v) ?_⟩;rintro _ _ ⟨rfl,rfl⟩;refine⟨_,_,rfl,aj.refl _,al.mk (λx=>Ok.mk ⟨by rw[x];rfl,b.then n⟩) (λy=>ar (uY ..) (n.get a id) (PC.ok (iH g P) ?_))⟩;rintro _ J ⟨rfl,l⟩;have z:=j.len;refine⟨_,rfl,_,_,rfl,_,_,_,(l.cell (a:=⟨d,e+i*2+1,none⟩) (Qk h n.size) id).trans k,Ok.mk ⟨?_,(b.then n).then l⟩⟩;rw[y,z]
 congr 1
 rw[Bool.false_or,decide_eq_decide];omega
def Gh{bytes:Nat}(m:Row gA bytes w D ca cn b7)(o:i<cn)(p:Row kO 32 w E ma mn f.bL)(h0:0<=arg)(h1:arg<(mn:Int))(q:((f.bL.getD arg.toNat ⟨0,0,0,0⟩).lV)<(cn:Int)):
  be 226 #[AK f ma mn mc ca cn cc (i:Int) arg] w (Ok λC w'=>C= .bool (let n:=f.bL.getD arg.toNat ⟨0,0,0,0⟩;(b7.getD i ⟨0,[]⟩).n==n.bM&&(decide (n.lV<0)||decide (n.least<=(b7.getD n.lV.toNat ⟨0,[]⟩).n)))/\ai w w'):=by
 refine AL (PA.mk λF r s1 e=>?_);have a0:=p.len;obtain⟨P,rfl⟩:∃P:Nat,arg=P:=⟨arg.toNat,oM⟩
 have s:P<f.bL.length:=oM
 obtain⟨H,I,es,J,a1,-,t,rfl,-⟩:=(p.af r).el P f.bL[P] (by simp[s]);have K:f.bL.getD P ⟨0,0,0,0⟩=f.bL[P]:=by simp[QQ,s]
 simp only[Qx,K]at q⊢;generalize f.bL[P]=n at t q;refine⟨_,_,_,ae e rfl,_,ae e rfl,H,I,J,oM,oM,bT (es:=oB n) (k:=4) (KS n) rfl (λL M=>t L M) (PA.mk λw2 N s2 O=>aC (KS n) O rfl λu Q s3 R=>λS T=>⟨no,?_⟩)⟩;have v:ai F u:=N.new Q λx y=>.inr oM;have g:ai u S:=T.keep;have z:=(r.then v).then g;have A:=g.get (v.get e id) id;have a:=g.get R id;obtain⟨x,U,a2,a3,a4,V,y,a5,W,hs,-⟩:=nq (m.af z) o;refine ar (uY ..) A ⟨id,_,ae a rfl,PC.ok (iH V o) ?_⟩;rintro _ w5 ⟨rfl,b⟩;have a:=b.get a id;have c:=z.then b;refine⟨_,rfl,ai.keep b,_,_,rfl,_,(b.cell (a:=⟨x,U+i*2,none⟩) y id).trans W,al.ey (λd=>⟨_,ae a rfl,al.dec (λh=>Ok.mk ⟨?_,c⟩) (λh=>?_)⟩) (λd=>Ok.mk ⟨?_,c⟩)⟩
 ·rw[show((b7.getD i ⟨0,[]⟩).n==n.bM)=true by simpa using d,Zy h];rfl
 ·obtain⟨j,B⟩:∃j:Nat,n.lV=j:=⟨n.lV.toNat,oM⟩
  obtain⟨X,Y,a',n',c',k,Z,-,l,-⟩:=nq (m.af c) (i:=j) oM;refine⟨_,_,_,ae (b.get A id) rfl,_,ae a rfl,X,Y,k,oM,oM,_,by rw[B,Qx];exact l,_,ae a rfl,Ok.mk ⟨?_,c⟩⟩;rw[show((b7.getD i ⟨0,[]⟩).n==n.bM)=true by simpa using d,Xv h,B,Qx];rfl
 ·rw[show((b7.getD i ⟨0,[]⟩).n==n.bM)=false by simpa using d];rfl
end
variable{a5:List Value}{h:Program}
section
variable {w w':World} {D E:UL}
structure Ik (t:List bu) (cells:List cZ) (fi op arg:Int):Prop where
 f0:0<=fi
 f1:fi<(t.length:Int)
 len:cells.length=t.length
 Xl:1<=op
 Xm:op<=5
 mv:op=5->0<=arg/\arg<((t.getD fi.toNat ⟨0,0,false,[]⟩).bL.length:Int)/\(((t.getD fi.toNat ⟨0,0,false,[]⟩).bL.getD arg.toNat ⟨0,0,0,0⟩).lV)<(t.length:Int)
variable {t:List bu} {cells:List cZ} {op arg:Int} {ma ca ta:bc} {mn mc cn cc tn tc i:Nat} {bytes:Nat}
def Ri(n:Ik t cells (i:Int) op arg)(P:Row gA bytes w D ca cn cells)(c:Row kO 32 w E ma mn (t.getD i ⟨0,0,false,[]⟩).bL):
  enters LL (TL op)=true/\be (TL op) (#[]++ #[AK (t.getD i ⟨0,0,false,[]⟩) ma mn mc ca cn cc (i:Int) arg]++ #[]) w (Ok λf w'=>f= .bool (Rg t cells (i:Int) op arg)/\ai w w'):=by
 have a:i<cn:=by have:=P.len;have:=n.f1;have:=n.len;omega
 have l:=n.Xl;have m:=n.Xm;have:op=1\/op=2\/op=3\/op=4\/op=5:=oM
 rcases this with rfl|rfl|rfl|rfl|rfl
 ·exact⟨kR,Ii P a⟩
 ·exact⟨kR,tg (PA.mk λg b h j=>Ok.mk ⟨rfl,b⟩)⟩
 ·exact⟨kR,Ij P a⟩
 ·exact⟨kR,tg (PA.mk λg b h j=>Ok.mk ⟨rfl,b⟩)⟩
 ·obtain⟨k,d,e⟩:=n.mv rfl
  rw[Qx]at d e;exact⟨kR,Gh P a c k (by rw[c.len];exact d) (by rw[P.len,n.len];exact e)⟩
def Rj(op:Int):iA LL 279 [.func (.func (TL op)) #[] #[],.func (.func (YA op)) #[] #[]]=true:=kR
def Gi{bytes:Nat}(e:Row tR bytes w D ta tn t)(f:i<tn):∃n P a b d,ta=some ⟨n,P,none⟩/\n<w.heap.size/\D n/\w.cell? ⟨n,P+i*4,none⟩=some (WP (t.getD i ⟨0,0,false,[]⟩).kind)/\w.cell? ⟨n,P+i*4+1,none⟩=some (WP (t.getD i ⟨0,0,false,[]⟩).dX)/\w.cell? ⟨n,P+i*4+2,none⟩=some (.bool (t.getD i ⟨0,0,false,[]⟩).floor)/\w.cell? ⟨n,P+i*4+3,none⟩=some (.slice a b d)/\Row kO 32 w D a b (t.getD i ⟨0,0,false,[]⟩).bL:=by
 have g:=e.len;obtain⟨n,P,o,h,j,k,c,a,b,d,rfl,l,p⟩:=e.el i t[i] (by simp[g▸f]);have m:t.getD i ⟨0,0,false,[]⟩=t[i]:=by simp[QQ,g▸f]
 rw[m];exact⟨n,P,a,b,d,h,j,k,c 0 dC,c 1 dC,c 2 dC,c 3 dC,l⟩
def Il(n:Ik t cells e op arg)(f:Row tR 48 w E ta tn t)(m:Row gA bytes w D ca cn cells):
  be 102 #[.agg #[.slice ta tn tc],.slice ca cn cc,WP e,WP op,WP arg] w (Ok λo w'=>o= WP (xf t cells e op arg)/\ai w w'):=by
 obtain⟨i,rfl⟩:∃i:Nat,e=i:=⟨e.toNat,by have:=n.f0;omega⟩
 refine KT (PA.mk λL p M q=>PC.ok AJ ?_);rintro _ N ⟨O,rfl,r,a⟩;refine⟨_,rfl,jA AI lC r ?_⟩;rw[No n.Xl n.Xm];refine⟨_,_,_,rfl,PA.mk λQ g R s=>aC (Rj op) s rfl λu h S c=>λj v=>al.tt rfl ?_⟩;have d:ai u j:=v.keep;have b:ai w j:=((p.then (a.then g)).new h λk P=>.inr (by have:=a.size;omega)).then d;have c:=d.get c id;have x:=d.get (h.get (g.get (a.get q id) id) (by have:=a.size;omega)) id;have T:=n.f1;have U:=f.len;obtain⟨k,y,V,W,z,A,P,X,B,C,F,H,I⟩:=Gi (f.af b) (i:=i) oM;obtain⟨J,K⟩:=Ri (mc:=z) (cc:=cc) n (m.af b) I;refine⟨_,ae c rfl,_,_,_,ae x rfl,k,y,A,oM,oM,_,_,_,_,_,_,B,C,F,H,_,_,_,rfl,J,PC.ok K ?_⟩;rintro _ Y ⟨rfl,l⟩;rw[Gf];exact⟨_,rfl,al.not (al.mk (λP=>Ok.mk ⟨by rw[P];rfl,b.then l⟩) (λP=>Ok.mk ⟨by rw[P];rfl,b.then l⟩))⟩
def Rk(n:c<a*a5.length):((List.replicate a a5).flatten)[c]? =a5[c % a5.length]? :=by
 induction a generalizing c with
 |zero=>simp at n
 |succ a d=>
  rw[List.replicate_succ,List.flatten_cons]
  by_cases P:c<a5.length
  ·rw[XW P,Nat.mod_eq_of_lt P]
  ·rw[X8 oM,d (by rw[X7,Nat.one_mul]at n;omega)]
   obtain⟨b,rfl⟩:∃b,c=b+a5.length:=⟨c-a5.length,oM⟩
   rw[Nat.add_sub_cancel,Nat.add_mod_right]
def Xn{t b:TypeId}{n bytes:Nat}(f:jU h t b n bytes){z:Value}(g:(h.info? b).bind (·.zero)=some z)(k:a<=c)(r:c*bytes<=aP)(s:c<=aP){w:World}{l u:ac}(v:∀w',Own w' b n (UV w.heap.size) a c (List.replicate a z.cells.toList).flatten->ai w w'->w'.heap.size=w.heap.size+1->l (.slice (UV w.heap.size) a c) w'):
  aJ h (Instr.makeSlice t (WP (a:Int)) (WP (c:Int))) w l u:=by
 unfold aP at r s;obtain⟨i,P,m,o,x,y,d⟩:=jU.info f;have A:P=z:=by
  rw[m]at g;simp only[Option.bind_some,o]at g;exact XJ g
 subst A;have p:=run_make (P:=h) w t b i _ f.under m o .i64 .i64 a c oM oM (by rw[y,Int.mul_comm,<-Int.natCast_mul];omega) oM;rw[Qx,Qx,x]at p;have B:ai w (w.alloc (.cells (madeCells P.cells (c*n)) b)):=aj.alloc w _;have H:a*n<=c*n:=Q0 _ k;have C:(madeCells P.cells (c*n)).size=c*n:=size_madeCells ..;have E:((List.replicate a P.cells.toList).flatten).length=a*n:=by simp[d]
 refine aJ.mk p (v _ ⟨⟨E,.inr ⟨w.heap.size,c,_,rfl,Qj _,heap_alloc_new w _,k,by unfold maxLen;omega,C,?_⟩⟩⟩ B sM);apply X3;intro e
 by_cases j:e<a*n
 ·rw[Xw,Zx j,Rk (by simp[d];exact j)]
  unfold madeCells;have F:=f.pos;have q:e % n<P.cells.size:=by rw[d];exact Nat.mod_lt _ F
  simp[d,show e<c*n by omega];rw[getElem!_pos P.cells (e % n) q,X6 q]
 ·rw[Xw,Zq j,Q7 oM]
def Im(i:ta=ta)(c:tn=t.length)(n:tn<=20000000):be 99 #[.agg #[.slice ta tn tc]] w (Ok (pQ gA 66 w (dY t))):=by
 refine KU (PA.mk λd e j P=>⟨_,_,_,ae P rfl,Xn Rf (z:=.agg #[WP 0,.slice none 0 0]) kR (Q4 _) ce ce λk a f l=>⟨_,_,_,rfl,Ok.mk ⟨_,_,_,(·=d.heap.size),rfl,⟨⟨_,λ_=>False,a,?_,λ_ g=>g.elim⟩,λb n=>by simpa[aH]using n.symm,λb n=>oM⟩,e.then f,λb n=>oM⟩⟩⟩);subst c
 clear a P
 unfold dY
 induction t with
 |nil=>rfl
 |cons m t h=>exact⟨_,_,rfl,⟨none,0,0,rfl,Row.nil _ _,by simp[aK],List.Pairwise.nil,sM⟩,h (by simp at n;omega)⟩
end
end Go.Proofs.YtkpomgifkloklabGreatDoor
namespace Go.aw
open Go
def Ih(h:Program)(e tn:TypeId)(i:Nat)(A q:FuncId)(g:bc)(a b:Nat)(n:Int)(m:bc)(P o:Nat)(c:World)(f:am):Prop:=
 ((0:Int)<=n/\(n:Int)<=((a:Nat):Int)/\al ((((P:Nat):Int):Int)==0) (f (.returned (.slice g a b)) c) (al ((n:Int)==((a:Nat):Int)) (aJ h (Builtin.append_ #[e,e] e #[.slice g a b,.slice m P o]) c (λB C=>∃(r:bc) (s:Nat) (t:Nat),B= .slice r s t/\f (.returned (.slice r s t)) C) (λd c=>f (.panicked [{v:=d,recovered:=false}]) c)) (aJ h (Builtin.cap_ #[e] tn #[.slice g a b]) c (λE u=>∃(v:Int),E= WP v/\al (decide (((PP .i64 (((a:Nat):Int)+((P:Nat):Int))):Int)>v)) (((0:Int)<=n/\(n:Int)<=((b:Nat):Int)/\aJ h (Builtin.append_ #[e,tn] e #[.slice g (Int.toNat n) b,WP (PP .i64 ((PP .i64 (((a:Nat):Int)+((P:Nat):Int)))-n))]) u (λF H=>∃(p:bc) (k:Nat) (l:Nat),F= .slice p k l/\((0:Int)<=n/\(n:Int)<=((k:Nat):Int)/\aJ h (Builtin.copy_ #[e,e] tn #[.slice (dd p (Int.toNat n) l i) (k-Int.toNat n) (l-Int.toNat n),.slice m P o]) H (λI J=>∃(K:Int),I= WP K/\(∀w,bH J w->((0:Int)<=(PP .i64 (n+((P:Nat):Int)))/\((PP .i64 (n+((P:Nat):Int))):Int)<=((k:Nat):Int)/\((0:Int)<=n/\(n:Int)<=((a:Nat):Int)/\aJ h (Builtin.copy_ #[e,e] tn #[.slice (dd p (Int.toNat (PP .i64 (n+((P:Nat):Int)))) l i) (k-Int.toNat (PP .i64 (n+((P:Nat):Int)))) (l-Int.toNat (PP .i64 (n+((P:Nat):Int)))),.slice (dd g (Int.toNat n) b i) (a-Int.toNat n) (b-Int.toNat n)]) w (λL M=>∃(N:Int),L= WP N/\f (.returned (.slice p k l)) M) (λd j=>∀(_:cy) (_:cX),f (.panicked [{v:=d,recovered:=false}]) j))))) (λd c=>f (.panicked [{v:=d,recovered:=false}]) c))) (λd c=>f (.panicked [{v:=d,recovered:=false}]) c))) (((0:Int)<=(PP .i64 (((a:Nat):Int)+((P:Nat):Int)))/\((PP .i64 (((a:Nat):Int)+((P:Nat):Int))):Int)<=((b:Nat):Int)/\((0:Int)<=(PP .i64 (n+((P:Nat):Int)))/\((PP .i64 (n+((P:Nat):Int))):Int)<=(((Int.toNat (PP .i64 (((a:Nat):Int)+((P:Nat):Int)))):Nat):Int)/\Ue h A #[.slice m P o,.slice (dd g (Int.toNat (PP .i64 (n+((P:Nat):Int)))) b i) ((Int.toNat (PP .i64 (((a:Nat):Int)+((P:Nat):Int))))-Int.toNat (PP .i64 (n+((P:Nat):Int)))) (b-Int.toNat (PP .i64 (n+((P:Nat):Int))))] u (λO x=>∃(y:Bool),O= .bool y/\al (!y) ((∀z,bH x z->((0:Int)<=(PP .i64 (n+((P:Nat):Int)))/\((PP .i64 (n+((P:Nat):Int))):Int)<=(((Int.toNat (PP .i64 (((a:Nat):Int)+((P:Nat):Int)))):Nat):Int)/\((0:Int)<=n/\(n:Int)<=(((Int.toNat (PP .i64 (((a:Nat):Int)+((P:Nat):Int)))):Nat):Int)/\aJ h (Builtin.copy_ #[e,e] tn #[.slice (dd g (Int.toNat (PP .i64 (n+((P:Nat):Int)))) b i) ((Int.toNat (PP .i64 (((a:Nat):Int)+((P:Nat):Int))))-Int.toNat (PP .i64 (n+((P:Nat):Int)))) (b-Int.toNat (PP .i64 (n+((P:Nat):Int)))),.slice (dd g (Int.toNat n) b i) ((Int.toNat (PP .i64 (((a:Nat):Int)+((P:Nat):Int))))-Int.toNat n) (b-Int.toNat n)]) z (λQ R=>∃(S:Int),Q= WP S/\((0:Int)<=n/\(n:Int)<=(((Int.toNat (PP .i64 (((a:Nat):Int)+((P:Nat):Int)))):Nat):Int)/\aJ h (Builtin.copy_ #[e,e] tn #[.slice (dd g (Int.toNat n) b i) ((Int.toNat (PP .i64 (((a:Nat):Int)+((P:Nat):Int))))-Int.toNat n) (b-Int.toNat n),.slice m P o]) R (λT U=>∃(V:Int),T= WP V/\f (.returned (.slice g (Int.toNat (PP .i64 (((a:Nat):Int)+((P:Nat):Int)))) b)) U) (λd c=>f (.panicked [{v:=d,recovered:=false}]) c))) (λd j=>∀(_:cy) (_:cX),f (.panicked [{v:=d,recovered:=false}]) j))))) (((0:Int)<=((a:Nat):Int)/\(((a:Nat):Int):Int)<=(((Int.toNat (PP .i64 (((a:Nat):Int)+((P:Nat):Int)))):Nat):Int)/\aJ h (Builtin.copy_ #[e,e] tn #[.slice (dd g (Int.toNat ((a:Nat):Int)) b i) ((Int.toNat (PP .i64 (((a:Nat):Int)+((P:Nat):Int))))-Int.toNat ((a:Nat):Int)) (b-Int.toNat ((a:Nat):Int)),.slice m P o]) x (λW X=>∃(Y:Int),W= WP Y/\((0:Int)<=n/\(n:Int)<=(((Int.toNat (PP .i64 (((a:Nat):Int)+((P:Nat):Int)))):Nat):Int)/\PC h q #[.slice (dd g (Int.toNat n) b i) ((Int.toNat (PP .i64 (((a:Nat):Int)+((P:Nat):Int))))-Int.toNat n) (b-Int.toNat n),WP ((P:Nat):Int)] X (λZ b8=>Z= .tuple #[]/\f (.returned (.slice g (Int.toNat (PP .i64 (((a:Nat):Int)+((P:Nat):Int)))) b)) b8) (λch c=>f (.panicked ch) c))) (λd c=>f (.panicked [{v:=d,recovered:=false}]) c)))) (λd c=>f (.panicked [{v:=d,recovered:=false}]) c))))) (λd c=>f (.panicked [{v:=d,recovered:=false}]) c))))
def FY(l:Program)(e p:TypeId)(m:Nat)(h:bc)(n b:Nat)(c P:Int)(f:World)(g:am):Prop:=
 ((0:Int)<=c/\(c:Int)<=P/\(P:Int)<=((n:Nat):Int)/\(((n:Nat):Int):Int)<=((b:Nat):Int)/\al ((c:Int)==P) (g (.returned (.slice h n b)) f) ((∀o,bH f o->((0:Int)<=c/\(c:Int)<=((b:Nat):Int)/\((0:Int)<=P/\(P:Int)<=((n:Nat):Int)/\aJ l (Builtin.append_ #[e,e] e #[.slice h (Int.toNat c) b,.slice (dd h (Int.toNat P) b m) (n-Int.toNat P) (b-Int.toNat P)]) o (λq r=>∃(i:bc) (a:Nat) (d:Nat),q= .slice i a d/\((0:Int)<=((a:Nat):Int)/\(((a:Nat):Int):Int)<=((n:Nat):Int)/\(((n:Nat):Int):Int)<=((d:Nat):Int)/\aJ l (Builtin.clear_ #[e] p #[.slice (dd i (Int.toNat ((a:Nat):Int)) d m) (Int.toNat ((n:Nat):Int)-Int.toNat ((a:Nat):Int)) (d-Int.toNat ((a:Nat):Int))]) r (λt s=>g (.returned (.slice i a d)) s) (λj f=>g (.panicked [{v:=j,recovered:=false}]) f))) (λj k=>∀(_:cy) (_:cX),g (.panicked [{v:=j,recovered:=false}]) k))))))
def ru(n:World)(P:Nat)(a:Array Value):aj (·=P) n (n.setRow P a):=by
 refine⟨rfl,rfl,rfl,by simp[World.setRow],λb e c=>?_⟩;show(n.heap.modify P _)[b]? =_;rw[Array.getElem?_modify,Zq (λd=>c d.symm)]
variable{d4:Addr}{o:Array Value}{y:am}{a5 e8:List Value}{F a c i r:Nat}{f:UL}{d:bc}{h:Program}{j:Type}{C c1 g q:TypeId}{m t:ac}{b:World}
def NI{k bytes:Nat}(r:jU h g q k bytes){a e c f P d n:Nat}{cs:List Value}(l:b.heap[a]? =some (.cells o c1 (0,0)))(u:Nat.min P c=n)(v:cs.length=n*k)(w:∀s i,cs[s]? =some i->b.cell? (d4.add s)=some i)(x:e+cs.length<=o.size)(y:∀i∈cs,i.oneCell'=true)(p:∀j,j.heap[a]? =some (.cells (o.toList.take e++cs++o.toList.drop (e+cs.length)).toArray c1 (0,0))->aj (·=a) b j->j.heap.size=b.heap.size->m (WP (n:Int)) j):
  aJ h (Builtin.copy_ #[g,g] C #[.slice (some ⟨a,e,none⟩) c f,.slice (some d4) P d]) b m t:=by
 obtain⟨F,H,z,I,A,J,K⟩:=jU.info r;have B:=run_firstCells_some (P:=h) b k n d4 P d cs v w;have E:=run_storeCells_at h a e c1 cs 0 o b l (by simpa using x) y;refine aJ.mk (w':=b.setRow a (o.toList.take e++cs++o.toList.drop (e+cs.length)).toArray) ?_ (p _ (setRow_heap b a o _ c1 (0,0) l) (ru b a _) ?_)
 ·simp[Builtin.copy_,run_underlying r.under,Builtin.lenOf,sizeOf,typeInfo,z,A,u,B,E,goInt]
 ·have L:=aA l
  simp[World.setRow]
def cd.drop{c:Type}{P:kq c}{d:World}{D:UL}:∀{a:List c} {cs:List Value},cd P d D a cs->∀(n:Nat),cd P d D (a.drop n) (cs.drop (n*P.k))
 |a,cs,b,0=>by simpa using b
 |[],cs,b,n+1=>by
  have:cs=[]:=b;subst this;simp[cd]
 |x::a,cs,⟨i,j,f,g,h⟩,n+1=>by
  subst f;have e:=P.len g;rw[List.drop_succ_cons,X7,Nat.one_mul,Nat.add_comm,<-List.drop_drop,<-e,List.drop_left];rw[e];exact cd.drop h n
def gg(n:r≠i):dd (some ⟨a,c,none⟩) i r F=some ⟨a,c+i*F,none⟩:=by
 unfold dd;rw[Zq n];simp[Addr.add_lit]
def Pt{cs news ROW:List Value}{A B C k:Nat}(d:cs.length=B)(e:news.length=k)(f:A<=B)(g:ROW.length=C)(h:B+k<=C)(a:ROW.take A=cs.take A)(n:a5=ROW.take A++news++ROW.drop (A+k))(P:e8=a5.take (A+k)++cs.drop A++a5.drop (A+k+(B-A))):a5.length=C/\e8.length=C/\e8.take (B+k)=cs.take A++news++cs.drop A:=by
 have b:a5.length=C:=by rw[n];simp;omega
 have c:a5.take (A+k)=cs.take A++news:=by
  rw[n,a,List.take_append_of_le_length cS,Qz cS]
 refine⟨b,by rw[P];simp;omega,?_⟩;rw[P,c,List.take_append_of_le_length cS,Qz cS]
def Ms{cs news cur:List Value}{A B C k:Nat}(e:cs.length=B)(f:news.length=k)(g:A<=B)(h:cur.length=C)(i:B+k<=C)(a:cur.take A=cs.take A)(n:a5=cur.take (A+k)++cs.drop A++cur.drop (A+k+(B-A)))(P:e8=a5.take A++news++a5.drop (A+k)):a5.length=C/\e8.length=C/\e8.take (B+k)=cs.take A++news++cs.drop A:=by
 have b:a5.length=C:=by rw[n];simp;omega
 have c:a5.take A=cs.take A:=by
  rw[n,XQ,List.take_append_of_le_length cS,List.take_take,X2 oM,a]
 have d:a5.drop (A+k)=cs.drop A++cur.drop (A+k+(B-A)):=by
  rw[n,XQ,List.drop_left' cS]
 refine⟨b,by rw[P];simp;omega,?_⟩;rw[P,c,d,<-XQ,List.take_append_of_le_length cS,Qz cS]
def Ih.own{x tn c:TypeId}{k bytes:Nat}{ov V:FuncId}(q:jU h x c k bytes)(b2:h.underlying tn=some (.int .i64))(b3:∀t b,(callFunc ov t).run h b=((Extern.SlicesOverlaps.overlaps #[x,x] #[g] t).run h b).andThen λl j=>.ok (.value l) j){n a P z:Nat}{cs:List Value}(A:Own b c k d n a cs)(hi:P<=n)(B:b.heap[z]? =some (.cells o c (0,0)))(I:o.size=k)(W:∀l∈o.toList,l.oneCell'=true)(h1:∀l∈cs,l.oneCell'=true)(b4:aH d≠some z)(N:(n+1)*bytes<=aP)(hm:n+1<=maxLen)(X:∀E u j,Own j c k E (n+1) u (cs.take (P*k)++o.toList++cs.drop (P*k))->aj (λF=>aH d=some F) b j->(aH E=aH d\/aH E=some b.heap.size)->y (.returned (.slice E (n+1) u)) j):
  Ih h x tn k ov V d n a P (UV z) 1 1 b y:=by
 have hk:=q.pos;obtain⟨O,Y,a6,hz,hs,a7,b5⟩:=jU.info q;have v:=A.length;have d5:=Own.Si A;unfold aP at N;unfold maxLen at hm;have b6:PP .i64 ((n:Int)+((1:Nat):Int))=((n+1:Nat):Int):=by rw[wrap_i64 cw];simp
 have b7:PP .i64 ((P:Int)+((1:Nat):Int))=((P+1:Nat):Int):=by rw[wrap_i64 cw];simp
 unfold Ih;rw[b6,b7];simp only[Qx];refine⟨oM,oM,al.ff rfl (al.ey (λhe=>?_) (λd6=>?_))⟩
 ·
  obtain rfl:P=n:=oM
  refine uU q (news:=o.toList) A B (by rw[Qz (by simp[I])]) (by simp[I]) W ce (by unfold maxLen;omega) λE c' J b8 b9 c4=>⟨_,_,_,rfl,X E c' J ?_ (b9.mono λF _ c=>c.symm) c4⟩
  rw[Qz oM,List.drop_of_length_le oM,List.append_nil];exact b8
 have c5:P<n:=oM
 rcases A.cases with⟨_,h0,_,_⟩|⟨w,cur,rfl,H,c6,Z,a1⟩
 ·omega
 have a5:w≠z:=λc=>b4 (by rw[c];rfl);have a2:P*k<=n*k:=Q0 _ hi;have d7:(P+1)*k<=n*k:=Q0 _ c5;have e1:(P+1)*k=P*k+k:=by rw[X7,Nat.one_mul]
 have e2:(n+1)*k=n*k+k:=by rw[X7,Nat.one_mul]
 have d8:n*k<=a*k:=Q0 _ c6;have c8:∀i,i<=n*k->cur.toList.take i=cs.take i:=λi e=>by rw[<-a1,List.take_take,X2 e]
 have a0:∀j:World,j.heap[w]? =some (.cells cur c (0,0))->∀i m,cs[i]? =some m->j.cell? ⟨w,i,none⟩=some m:=λj C i m e=>by
  refine ae C ?_;rw[<-a1,Xw]at e;split at e
  ·simpa using e
  ·cases e
 have p:(cs.drop (P*k)).length=(n-P)*k:=by rw[XZ,v,Nat.sub_mul]
 have s:o.toList.length=1*k:=by simp[I]
 have a3:a<=maxLen:=by
  obtain⟨_,cp,_,Q,_,_,_,a3,_⟩:=A.row.2.resolve_left (by rintro⟨A,_⟩;cases A);simp only[XX]at Q;rw[Q.2.2];exact a3
 have a8:∀j:World,j.heap[z]? =some (.cells o c (0,0))->∀i m,o.toList[i]? =some m->j.cell? ((⟨z,0,none⟩:Addr).add i)=some m:=λj C i m e=>by
  rw[Addr.add_lit,Xz];exact ae C (by simpa using e)
 refine aJ.mk (v:=WP (a:Int)) (w':=b) (by simp[Builtin.cap_,run_underlying q.under,goInt]) ⟨_,rfl,al.dec (λd9=>?_) (λe0=>?_)⟩
 ·
  have a4:a=n:=oM
  have c9:PP .i64 (((n+1:Nat):Int)-(P:Int))=((n+1-P:Nat):Int):=by rw[wrap_i64 cw];omega
  rw[c9];have c0:(Builtin.firstCells O.size P (.slice (UV w) P a)).run h b.drew= .ok (cs.take (P*k)).toArray b.drew:=by
   rw[hs];exact run_firstCells_some b.drew k P ⟨w,0,none⟩ P a (cs.take (P*k)) (by rw[Qy,v];omega) (λi l e=>by
    rw[Addr.add_lit,Xz];rw[Xw]at e;split at e
    ·exact a0 b.drew H i l e
    ·cases e)
  have R:=Lib.run_append_grow_zeros (P:=h) b x tn x c O Y .i64 .i64 q.under b2 a6 hz (UV w) P a (cs.take (P*k)) c0 (n+1-P) oM oM oM oM (by rw[a7];have:(n+1-P)*bytes<=(n+1)*bytes:=Q0 _ oM;omega)
   (by rw[a7,show P+(n+1-P)=n+1 by omega];exact growslice_fits oM N)
  rw[show P+(n+1-P)=n+1 by omega]at R;have hG:=grownCap_ge b (n+1) a c;have b0:=grownCap_le_maxLen b (n+1) a c (by unfold maxLen;omega);generalize grownCap b (n+1) a c=G at R hG b0;have e3:(n+1)*k<=G*k:=Q0 _ hG;generalize a9:(cs.take (P*k)).toArray++Builtin.zeroCells Y.cells (n+1-P)++Builtin.zeroCells Y.cells (G-(n+1))=f at R;have S:f.size=G*k:=by
   rw[<-a9];simp only[Array.size_append,List.size_toArray,Qy,v,Builtin.zeroCells,Array.size_map,Array.size_range,b5];rw[Nat.sub_mul,Nat.sub_mul];omega
  have Q:(cs.take (P*k)).length=P*k:=by rw[Qy,v];omega
  have c7:f.toList.take (P*k)=cs.take (P*k):=by
   rw[<-a9];simp only[Array.toList_append,XQ];rw[List.take_left' Q]
  have e4:=aA H;have e5:=aA B;have kd:ai b (b.drew.alloc (.cells f c)):=(aj.drewN b 1).then (aj.alloc _ _);have b1:(b.drew.alloc (.cells f c)).heap[b.heap.size]? =some (.cells f c (0,0)):=heap_alloc_new b.drew _;have d0:(b.drew.alloc (.cells f c)).heap.size=b.heap.size+1:=by
   rw[show b.heap.size=b.drew.heap.size from rfl];generalize b.drew=wd;simp
  refine⟨oM,oM,aJ.mk R ?_⟩;generalize b.drew.alloc (.cells f c)=K at b1 kd d0;refine⟨_,_,_,rfl,oM,oM,?_⟩;have r:(n-P)*k=n*k-P*k:=Nat.sub_mul ..;have d2:=Pt (cs:=cs) (news:=o.toList) (ROW:=f.toList) (A:=P*k) (B:=n*k) (C:=G*k) (k:=k) v (by simp[I]) a2 (by simp[S]) oM c7 rfl rfl;obtain⟨c1,c2,c3⟩:=d2;rw[gg (show G≠P by omega)];refine NI q b1 (n:=1) (by simp only[Nat.min_def];split<;>omega) s (a8 K (kd.get B id)) (by rw[s,S];omega) W λw2 g2 L s2=>⟨_,rfl,λJ d3=>?_⟩
  have M:ai w2 J:=d3.keep;have T:=M.get g2 id;have d4:=M.get (L.get (kd.get H id) oM) id;refine⟨oM,oM,oM,oM,?_⟩;rw[gg (show G≠P+1 by omega),gg (show a≠P by omega)];simp only[Xz,s,Nat.one_mul]at T⊢;rw[e1];refine NI q T (n:=n-P) (by simp only[Nat.min_def];split<;>omega) p (λi m e=>?_) (by rw[List.size_toArray,c1,p,r];omega) (λl hv=>h1 l (List.mem_of_mem_drop hv)) λw4 g4 k4 s4=>⟨_,rfl,X _ _ _ ⟨⟨?_,.inr ⟨b.heap.size,G,_,rfl,Qj _,g4,hG,b0,?_,?_⟩⟩⟩ ?_ (.inr rfl)⟩
  ·rw[Addr.add_lit]
   rw[List.getElem?_drop]at e;exact a0 J d4 _ m e
  ·simp only[QX,Qy,v,s,p,r];omega
  ·rw[p,r,List.size_toArray];exact c2
  ·rw[p,r,e2];exact c3
  ·exact ai.keep ((kd.new L λF N=>.inr oM).then M|>.new k4 λF N=>.inr oM)
 ·
  have e6:O=O:=rfl;have a4:n+1<=a:=oM
  have r:(n-P)*k=n*k-P*k:=Nat.sub_mul ..;have e7:(n+1)*k<=a*k:=Q0 _ a4;obtain⟨c1,c2,c3⟩:=Ms (cs:=cs) (news:=o.toList) (cur:=cur.toList) (A:=P*k) (B:=n*k) (C:=a*k) (k:=k) v (by simp[I]) a2 (by simp[Z]) oM (c8 _ a2) rfl rfl;rw[gg (show a≠P+1 by omega),gg (show a≠P by omega)];refine⟨oM,oM,oM,oM,_,b3 _,aJ.mk (v:=.bool false) (w':=b) ?_ ⟨_,rfl,al.tt rfl λK d1=>?_⟩⟩
  ·have S:∀b,(sizeOf c).run h b= .ok k b:=λb=>by simp[sizeOf,typeInfo,a6,hs]
   refine Lib.run_overlaps_apart (P:=h) b x g c q.under k S ⟨z,0,none⟩ ⟨w,0+(P+1)*k,none⟩ 1 1 _ _ (λc=>a5 c.symm) c c o.size cur.size (by simp[World.shape?,B]) (by simp[World.shape?,H]) (by rw[Z];omega) ?_ ?_
   ·simp[World.frozen?,B]
   ·simp[World.frozen?,B]
  have U:ai b K:=d1.keep;have s1:K.heap.size=b.heap.size:=by rw[d1.heap]
  refine⟨oM,oM,oM,oM,?_⟩;simp only[Xz,e1];refine NI q (U.get H id) (n:=n-P) (by simp only[Nat.min_def];split<;>omega) p (λi m e=>?_) (by rw[Z,p,r];omega) (λl hv=>h1 l (List.mem_of_mem_drop hv)) λw2 g2 L s2=>⟨_,rfl,oM,oM,?_⟩
  ·rw[Addr.add_lit]
   rw[List.getElem?_drop]at e;exact a0 K (U.get H id) _ m e
  refine NI q g2 (n:=1) (by simp only[Nat.min_def];split<;>omega) s (a8 w2 (L.get (U.get B id) (λc=>a5 c.symm))) (by rw[List.size_toArray,p,r,c1,s];omega) W λJ T M s3=>⟨_,rfl,X _ _ _ ⟨⟨?_,.inr ⟨w,a,_,rfl,Qj _,T,a4,a3,?_,?_⟩⟩⟩ ?_ (.inl rfl)⟩
  ·simp only[QX,Qy,v,s,p,r];omega
  ·simp only[p,r,s,Nat.one_mul];rw[List.size_toArray];exact c2
  ·simp only[p,r,s,Nat.one_mul];rw[e2];exact c3
  ·exact((ai.keep U).then (L.mono λF _ c=>by rw[c];rfl)).then (M.mono λF _ c=>by rw[c];rfl)
def Ih.one{h:Program}{r tn s:TypeId}{bytes:Nat}{H y:FuncId}{z:Type}{c:kq z}(I:jU h r s c.k bytes)(M:h.underlying tn=some (.int .i64)){tb:TypeId}(N:∀e b,(callFunc H e).run h b=((Extern.SlicesOverlaps.overlaps #[r,r] #[tb] e).run h b).andThen λA f=>.ok (.value A) f){b:World}{i:bc}{j k g C:Nat}{l:Array Value}{E D:UL}{m:List z}{x:z}(o:aT c s E b i j k m)(O:g<=j)(Q:b.heap[C]? =some (.cells l s (0,0)))(F:c.rep b D x l.toList)(t:∀n,D n->n<b.heap.size/\aH i≠some n)(S:aH i≠some C)(P:(m.length+1)*bytes<=aP)(T:m.length+1<=maxLen){R:am}(U:∀u a f J,aT c s J f u (j+1) a (m.take g++x::m.drop g)->aj (λn=>aH i=some n) b f->(∀n,J n->E n\/D n\/b.heap.size<=n)->R (.returned (.slice u (j+1) a)) f):
  Ih h r tn c.k H y i j k g (UV C) 1 1 b R:=by
 have K:=o.len I.pos;obtain⟨cs,V,W,L,v⟩:=o.body;have X:=c.len F;refine Ih.own I M N W O Q (by simpa using X) (c.one F) (λA Y=>L.Sj A Y) S (by rw[K];exact P) (by rw[K];exact T) λu a f p w B=>?_;have a0:=w.size;refine U u a f (λn=>E n\/D n\/(b.heap.size<=n/\n<f.heap.size)) ⟨⟨_,λn=>V n\/D n,p,?_,?_⟩,?_,?_⟩ w ?_
 ·rw[XQ]
  have q:=(L.keep w λn P=>(v n P).2)
  exact cd.append ((q.take g).mono λn P=>.inl P) (cd.append (xs:=[x]) (cd.one (c.mono (c.keep F w λn P=>(t n P).2) λn P=>.inr P)) ((q.drop g).mono λn P=>.inl P))
 ·intro n P
  have a1:n<b.heap.size:=P.elim (λd=>o.aE n (v n d).1) λd=>(t n d).1;refine⟨P.elim (λd=>.inl (v n d).1) λd=>.inr (.inl d),?_⟩;rcases B with B|B
  ·rw[B];exact P.elim (λd=>(v n d).2) λd=>(t n d).2
  ·rw[B];intro Z;cases Z;omega
 ·intro n P
  rcases B with B|B
  ·exact .inl (o.self n (B▸P))
  ·have:=p.lt P
   rw[B]at P;cases P;exact .inr (.inr ⟨oM,this⟩)
 ·rintro n (P|P|P)
  ·have:=o.aE n P;omega
  ·have:=(t n P).1;omega
  ·exact P.2
 ·rintro n (P|P|P)
  ·exact .inl P
  ·exact .inr (.inl P)
  ·exact .inr (.inr P.1)
def Oo(n:Program)(P:TypeId):Bool:=match(n.info? P).bind (·.zero)with
 |some a=>a.cells.toList.all (·.oneCell')
 |none=>false
def Sk{d bytes:Nat}(f:jU h g q d bytes)(j:Oo h q=true)(s:b.heap[a]? =some (.cells o c1 (0,0)))(v:c+i*d<=o.size)(e:∀k n,k.heap[a]? =some (.cells n c1 (0,0))->n.size=o.size->n.toList.take c=o.toList.take c->aj (·=a) b k->k.heap.size=b.heap.size->m (.tuple #[]) k):
  aJ h (Builtin.clear_ #[g] C #[.slice (some ⟨a,c,none⟩) i r]) b m t:=by
 obtain⟨I,P,w,x,J,K,u⟩:=jU.info f;have A:∀l∈P.cells.toList,l.oneCell'=true:=by
  unfold Oo at j;rw[w]at j;simp only[Option.bind_some,x,ZY]at j;exact j
 cases i with
 |zero=>exact aJ.mk (w':=b) (by simp[Builtin.clear_,run_underlying f.under]) (e b o s rfl rfl (aj.refl _) rfl)
 |succ i=>
  have y:(Builtin.zeroCells P.cells (i+1)).toList.length=(i+1)*d:=by simp[Builtin.zeroCells,u]
  have B:∀l∈(Builtin.zeroCells P.cells (i+1)).toList,l.oneCell'=true:=by
   intro l p;simp only[Builtin.zeroCells,Array.toList_map,Xk,u]at p;obtain⟨z,-,rfl⟩:=p;have E:z % d<P.cells.size:=by rw[u];exact Nat.mod_lt _ f.pos
   rw[getElem!_pos P.cells (z % d) E];exact A _ sM
  have F:=run_storeCells_at h a c c1 _ 0 o b s (by rw[y];simpa using v) B;have p:(zeroValue q).run h b= .ok P b:=by simp[zeroValue,typeInfo,w,x]
  refine aJ.mk (w':=b.setRow a (o.toList.take c++(Builtin.zeroCells P.cells (i+1)).toList++o.toList.drop (c+(Builtin.zeroCells P.cells (i+1)).toList.length)).toArray) ?_ (e _ _ (setRow_heap b a o _ c1 (0,0) s) ?_ ?_ (ru b a _) ?_)
  ·simp[Builtin.clear_,run_underlying f.under,p,F]
  ·have H:o.size=o.toList.length:=sM
   simp only[List.size_toArray,QX,Qy,XZ,y];rw[H]at v⊢;omega
  ·rw[XQ,List.take_left']
   simp;omega
  ·simp[World.setRow]
def FY.own{n bytes:Nat}(o:jU h g C n bytes)(Q:Oo h C=true){cs:List Value}(l:Own b C n d a c cs)(R:i<a)(S:∀j∈cs,j.oneCell'=true)(T:a<=maxLen)(U:∀r,Own r C n d (a-1) c (cs.take (i*n)++cs.drop ((i+1)*n))->aj (λs=>aH d=some s) b r->y (.returned (.slice d (a-1) c)) r):
  FY h g q n d a c i (PP .i64 ((i:Int)+1)) b y:=by
 have hk:=o.pos;obtain⟨iT,a5,V,hz,W,b2,b3⟩:=jU.info o;have p:=l.length;unfold maxLen at T;rcases l.cases with⟨_,h0,_,_⟩|⟨e,P,rfl,X,Y,F,H⟩
 ·omega
 have t:c<=maxLen:=by
  obtain⟨_,cp,_,I,_,_,_,t,_⟩:=l.row.2.resolve_left (by rintro⟨l,_⟩;cases l);simp only[XX]at I;rw[I.2.2];exact t
 have Z:PP .i64 ((i:Int)+1)=((i+1:Nat):Int):=by rw[wrap_i64 cw];simp
 have a6:i*n<=a*n:=Q0 _ oM;have b1:(i+1)*n<=a*n:=Q0 _ R;have e1:(i+1)*n=i*n+n:=by rw[X7,Nat.one_mul]
 have e3:(a-1)*n=a*n-n:=by rw[Nat.sub_mul,Nat.one_mul]
 have e4:(a-(i+1))*n=a*n-(i+1)*n:=Nat.sub_mul ..;have a7:a*n<=c*n:=Q0 _ Y;unfold FY;rw[Z];simp only[Qx];refine⟨oM,oM,oM,oM,al.ey (λhe=>oM) (λu f J=>⟨oM,oM,oM,oM,?_⟩)⟩;have K:ai b f:=J.keep;have s1:f.heap.size=b.heap.size:=by rw[J.heap]
 have v:=K.get X id;have w:(cs.drop ((i+1)*n)).length=(a-(i+1))*n:=by rw[XZ,p,Nat.sub_mul]
 have x:∃m,dd (UV e) (i+1) c n=some ⟨e,m,none⟩/\(a≠i+1->m=(i+1)*n):=by
  by_cases L:c=i+1
  ·exact⟨0,by unfold dd;rw[Zx L],λu=>oM⟩
  ·exact⟨_,gg L,λ_=>oM⟩
 obtain⟨m,x,a8⟩:=x;rw[x];have a0:∀z j,(cs.drop ((i+1)*n))[z]? =some j->f.cell? ((⟨e,m,none⟩:Addr).add z)=some j:=λz j k=>by
  have a9:=(Qv.1 k).1;have u:a≠i+1:=by
   intro C;rw[w,C,Nat.sub_self,Nat.zero_mul]at a9;omega
  rw[a8 u,Addr.add_lit];rw[List.getElem?_drop]at k;refine ae v ?_;rw[<-H,Xw]at k;split at k
  ·simpa using k
  ·cases k
 have hf:=run_firstCells_some (P:=h) f n (a-(i+1)) ⟨e,m,none⟩ (a-(i+1)) (c-(i+1)) _ w a0;have M:=run_storeCells_at h e (i*n) C (cs.drop ((i+1)*n)) 0 P f v (by rw[w,F];omega) (λj hv=>S j (List.mem_of_mem_drop hv));have a1:i+(a-(i+1))=a-1:=oM
 refine aJ.mk (v:=.slice (UV e) (a-1) c) (w':=f.setRow e (P.toList.take (i*n)++cs.drop ((i+1)*n)++P.toList.drop (i*n+(cs.drop ((i+1)*n)).length)).toArray) ?_ ⟨_,_,_,rfl,oM,oM,oM,?_⟩
 ·have a2:i+(a-(i+1))<=c:=oM
  have a3:a<=c+1:=oM
  simp only[Nat.add_zero]at M;simp[Builtin.append_,run_underlying o.under,sizeOf,typeInfo,V,W,Builtin.lenOf,a2,a3,hf,Addr.add_lit,M,a1]
 have A:=setRow_heap f e P (P.toList.take (i*n)++cs.drop ((i+1)*n)++P.toList.drop (i*n+(cs.drop ((i+1)*n)).length)).toArray C (0,0) v;have B:=ru f e (P.toList.take (i*n)++cs.drop ((i+1)*n)++P.toList.drop (i*n+(cs.drop ((i+1)*n)).length)).toArray;have b0:P.toList.length=c*n:=by simp[F]
 have E:(P.toList.take (i*n)++cs.drop ((i+1)*n)++P.toList.drop (i*n+(cs.drop ((i+1)*n)).length)).length=c*n:=by
  simp only[QX,Qy,XZ,p,b0];omega
 have N:(P.toList.take (i*n)++cs.drop ((i+1)*n)++P.toList.drop (i*n+(cs.drop ((i+1)*n)).length)).take ((a-1)*n)=cs.take (i*n)++cs.drop ((i+1)*n):=by
  rw[show P.toList.take (i*n)=cs.take (i*n) by rw[<-H,List.take_take,X2 a6]];rw[List.take_left'];simp only[QX,Qy,XZ,p];omega
 generalize P.toList.take (i*n)++cs.drop ((i+1)*n)++P.toList.drop (i*n+(cs.drop ((i+1)*n)).length)=R1 at A B E N;generalize f.setRow e R1.toArray=w2 at A B;rw[gg (show c≠a-1 by omega)];refine Sk o Q A (by rw[List.size_toArray,E,show a-(a-1)=1 by omega];omega) λw3 a4 g3 c3 O k3 s3=>U w3 ⟨⟨?_,.inr ⟨e,c,a4,rfl,Qj _,g3,oM,t,?_,?_⟩⟩⟩ ?_
 ·simp only[QX,Qy,XZ,p];omega
 ·rw[c3,List.size_toArray,E]
 ·rw[Xz]at O;rw[O,N]
 ·exact((ai.keep K).then (B.mono λs _ C=>by rw[C];rfl)).then (k3.mono λs _ C=>by rw[C];rfl)
def FY.one{q tz k:TypeId}{bytes:Nat}{c:kq j}(u:jU h q k c.k bytes)(v:Oo h k=true){P n a:Nat}{r:List j}(l:aT c k f b d P n r)(w:a<P)(x:P<=maxLen){R:am}(y:∀e,aT c k f e d (P-1) n (r.eraseIdx a)->aj (λg=>aH d=some g) b e->R (.returned (.slice d (P-1) n)) e):
  FY h q tz c.k d P n a (PP .i64 ((a:Int)+1)) b R:=by
 obtain⟨cs,z,A,s,t⟩:=l.body;refine FY.own u v A w s.Sj x λe m o=>y e ⟨⟨_,z,m,?_,t⟩,l.self,λg p=>Qk (l.aE g p) o.size⟩ o;have i:=(s.keep o λg p=>(t g p).2)
 rw[List.eraseIdx_eq_take_drop_succ];exact cd.append (i.take a) (i.drop (a+1))
end Go.aw
namespace Go.Proofs.YtkpomgifkloklabGreatDoor
open Go.aw
variable{e:Int}{s:List Int}{c5:List bu}{b7:List cZ}{a c i r:Nat}{f:UL}{d:bc}{j:Type}{b:World}{z:ba}{c4:bu}
def qD{n:List (Bx cZ)}{D:UL}(e:Row lA.kp 32 b D d a n)(f:∀P,D P->P<b.heap.size):be 217 #[.slice d a c] b (Ok (pQ lA.kp 66 b n)):=
 iI (xg Rf dC e f λh i g=>Ok.mk g)
def TM(k:aT aO 3 f b d a c s)(p:i<=a)(q:b.heap[r]? =some (.cells #[WP e] 3 (0,0)))(t:aK e)(u:¬f r)(z:s.length<1000000):
  be 284 #[.slice d a c,WP (i:Int),.slice (UV r) 1 1] b (Ok λv l=>∃P g h,v= .slice P (a+1) g/\aT aO 3 h l P (a+1) g (s.take i++e::s.drop i)/\cm f b h l):=by
 refine nE (Ih.one (c:=aO) (tb:=4) (x:=e) (D:=λ_=>False) uZ kR ?_ k p q ⟨rfl,t⟩ (λj n=>n.elim) (λw=>u (k.self r w)) ce (by unfold maxLen;omega) λP g l h m x y=>Ok.mk ⟨P,g,h,rfl,m,x.mono λj _ n=>k.self j n,λj n=>?_⟩)
 ·intro o b
  rw[run_callFunc_extern Tryz.func322 kR kR kR (e:=Extern.SlicesOverlaps.overlaps #[55,55] #[4]) kR]
 ·rcases y j n with n|n|n
  ·exact .inl n
  ·exact n.elim
  ·exact .inr n
def TN(e:aT aO 3 f b d a c s)(g:i<a)(m:a<1000000):
  be 285 #[.slice d a c,WP (i:Int),WP (PP .i64 ((i:Int)+1))] b (Ok λh n=>h= .slice d (a-1) c/\aT aO 3 f n d (a-1) c (s.eraseIdx i)/\aj f b n):=
 nG (FY.one (c:=aO) (tz:=0) uZ kR e g (by unfold maxLen;omega) λn P j=>Ok.mk ⟨rfl,P,j.mono λk _ l=>e.self k l⟩)
def W_(a:bu)(n:cZ)(P arg:Int):cZ:=
 if P=1 then{n with n:=pW (n.n+arg)}else if P=2 then{n with n:=arg}else if P=3 then{n with set:=qz arg n.set}
 else if P=4 then{n with set:=n.set.filter λb=>b !=arg}else{n with n:=(a.bL.getD arg.toNat ⟨0,0,0,0⟩).nk}
def VZ{n P arg:Int}(a:1<=P)(b:P<=5):TO c5 b7 n P arg=b7.set n.toNat (W_ (c5.getD n.toNat ⟨0,0,false,[]⟩) (b7.getD n.toNat ⟨0,[]⟩) P arg):=by
 have:P=1\/P=2\/P=3\/P=4\/P=5:=oM
 rcases this with rfl|rfl|rfl|rfl|rfl<;>rfl
section
variable {w w':World} {D E F:UL} {f:bu} {ma ca:bc} {mn mc cn cc i:Nat} {arg:Int} {L:List (Bx cZ)} {bx:Bx cZ}
structure kQ (w:World) (ca:bc) (cn cc:Nat) (L:List (Bx cZ)) (i:Nat) (bx:Bx cZ) (F:UL):Prop where
 nj:aT lA.kp 66 (λb=>aH ca=some b) w ca cn cc L
 at':L[i]? =some bx
 set:aT aO 3 F w bx.a bx.n bx.c bx.x.set
 ap:∀b,F b->¬aH ca=some b
 ok:aK bx.x.n/\wZ bx.x.set/\bx.x.set.length<=64
 eR:L.length<=1000000
def kQ.af(n:kQ w ca cn cc L i bx F)(P:ai w w'):kQ w' ca cn cc L i bx F:=⟨n.nj.af P,n.at',n.set.af P,n.ap,n.ok,n.eR⟩
def kQ.len(n:kQ w ca cn cc L i bx F):i<cn:=by
 rw[n.nj.len dC];exact(Qv.1 n.at').1
def kQ.cells(a:kQ w ca cn cc L i bx F):∃n P,ca=some ⟨n,P,none⟩/\n<w.heap.size/\w.cell? ⟨n,P+i*2,none⟩=some (WP bx.x.n)/\w.cell? ⟨n,P+i*2+1,none⟩=some (.slice bx.a bx.n bx.c):=by
 obtain⟨n,P,e,c,d,f,b,rfl,-⟩:=(a.nj.row (bytes:=32) dC (by have:=a.eR;unfold aP;omega)).el i bx a.at';exact⟨n,P,c,d,b 0 dC,b 1 dC⟩
def qE(a:World)(ca:bc)(cn cc:Nat)(L:List (Bx cZ))(i:Nat)(F:UL)(b:cZ)(w':World):Prop:=
 ∃(n:Bx cZ) (c:UL),n.x=b/\aT lA.kp 66 (λP=>aH ca=some P) w' ca cn cc (L.set i n)/\aT aO 3 c w' n.a n.n n.c b.set/\aj (λP=>aH ca=some P\/F P) a w'/\∀P,c P->F P\/a.heap.size<=P
def KV{d w:World}(f:ai d w)(P:kQ w ca cn cc L i bx F)(g:ca=some ⟨a,c,none⟩)(h:∀w',aj (λa=>aH ca=some a) w w'->qE d ca cn cc L i F {bx.x with n:=e} w'->z w'):
  PS w ⟨a,c+i*2,none⟩ (WP e) z:=by
 refine aT.set (j:=0) (x':=⟨{bx.x with n:=e},bx.a,bx.n,bx.c⟩) P.nj P.at' dC rfl g λj k b m=>h j b ⟨_,F,rfl,k,P.set.keep b λa n l=>P.ap a n l,(ai.keep f).then (b.mono λa _ n=>.inl n),λa n=>.inl n⟩
def Rl{q P w:World}{j k:Nat}{f:UL}(r:ai q P)(b:kQ P ca cn cc L i bx F)(u:aT aO 3 f w d j k s)(g:cm F P f w)(l:ca=some ⟨a,c,none⟩)(v:∀w',qE q ca cn cc L i F {bx.x with set:=s} w'->z w'):
  PS w ⟨a,c+i*2+1,none⟩ (.slice d j k) z:=by
 have m:aT lA.kp 66 (λa=>aH ca=some a) w ca cn cc L:=b.nj.keep g.1 λa n h=>b.ap a h n;have y:=b.nj.aE a (by rw[l];rfl);have x:∀e,f e->¬aH ca=some e:=λe o p=>by
  rcases g.2 e o with h|h
  ·exact b.ap e h p
  ·rw[l]at p;simp only[aH,Q1]at p;omega
 have A:=r.size;refine aT.set (j:=1) (x':=⟨{bx.x with set:=s},d,j,k⟩) m b.at' dC rfl l λP m t B=>v P ⟨_,f,rfl,m,u.keep t x,((ai.keep r).then (g.1.mono λa _ n=>.inr n)).then (t.mono λa _ n=>.inl n),λa n=>(g.2 a n).imp id λn=>oM⟩
def do_1(n:kQ w ca cn cc L i bx F):be 219 #[AK f ma mn mc ca cn cc (i:Int) arg] w (Ok λh w'=>h= .tuple #[]/\qE w ca cn cc L i F {bx.x with n:=pW (bx.x.n+arg)} w'):=by
 have j:=n.len;refine AM (PA.mk λk l v m=>λo p=>⟨λP=>aH ca=some P,?_⟩);have d:ai k o:=p.keep;have e:=d.get m id;have c:=l.then d;obtain⟨P,q,a,r,s,x⟩:=(n.af c).cells;have y:=n.nj.aE P (by rw[a];rfl);refine ar (uY ..) e ⟨λg=>by rw[a]at g;simp only[aH,Q1]at g;omega,_,ae e rfl,PC.ok (iH a j) ?_⟩;rintro _ z ⟨rfl,b⟩;exact⟨_,rfl,ai.keep b,_,_,rfl,_,(b.cell (a:=⟨P,q+i*2,none⟩) r id).trans s,_,_,rfl,KV (c.then b) (n.af (c.then b)) a λA t u=>⟨t,Ok.mk ⟨rfl,u⟩⟩⟩
def YN(n:kQ w ca cn cc L i bx F):be 222 #[AK f ma mn mc ca cn cc (i:Int) arg] w (Ok λh w'=>h= .tuple #[]/\qE w ca cn cc L i F {bx.x with n:=arg} w'):=by
 have j:=n.len;refine AN (PA.mk λk l s m=>λo p=>⟨λa=>aH ca=some a,?_⟩);have d:ai k o:=p.keep;have e:=d.get m id;have b:=l.then d;obtain⟨a,t,P,u,v,x⟩:=(n.af b).cells;have y:=n.nj.aE a (by rw[P];rfl);refine ar (uY ..) e ⟨λg=>by rw[P]at g;simp only[aH,Q1]at g;omega,_,ae e rfl,PC.ok (iH P j) ?_⟩;rintro _ z ⟨rfl,c⟩;exact⟨_,rfl,ai.keep c,_,_,rfl,KV (b.then c) (n.af (b.then c)) P λA q r=>⟨q,Ok.mk ⟨rfl,r⟩⟩⟩
def YO(a:kQ w ca cn cc L i bx F)(g:Row kO 32 w E ma mn f.bL)(o:∀P,E P->¬aH ca=some P)(I:0<=arg)(J:arg<(mn:Int)):be 227 #[AK f ma mn mc ca cn cc (i:Int) arg] w (Ok λp w'=>p= .tuple #[]/\qE w ca cn cc L i F {bx.x with n:=(f.bL.getD arg.toNat ⟨0,0,0,0⟩).nk} w'):=by
 have q:=a.len;refine AO (PA.mk λr s K t=>λu v=>⟨λP=>aH ca=some P,?_⟩);have h:ai r u:=v.keep;have d:=h.get t id;have b:=s.then h;obtain⟨P,M,c,N,O,Q⟩:=(a.af b).cells;have R:=a.nj.aE P (by rw[c];rfl);have S:=g.len;obtain⟨n,rfl⟩:∃n:Nat,arg=n:=⟨arg.toNat,oM⟩
 have j:n<f.bL.length:=oM
 obtain⟨k,x,T,y,U,z,A,rfl,-⟩:=(g.af b).el n f.bL[n] (by simp[j]);have B:f.bL.getD n ⟨0,0,0,0⟩=f.bL[n]:=by simp[QQ,j]
 simp only[Qx,B];have l:¬aH ca=some w.heap.size:=λm=>by rw[c]at m;simp only[aH,Q1]at m;omega
 refine ar (uY ..) d ⟨l,_,_,_,ae d rfl,l,_,ae d rfl,k,x,y,oM,oM,o k z,_,A 1 dC,PC.ok (iH c q) ?_⟩;rintro _ V ⟨rfl,e⟩;exact⟨_,rfl,ai.keep e,_,_,rfl,KV (b.then e) (a.af (b.then e)) c λW C H=>⟨C,Ok.mk ⟨rfl,H⟩⟩⟩
def YP(n:kQ w ca cn cc L i bx F)(v:aK arg):be 224 #[AK f ma mn mc ca cn cc (i:Int) arg] w (Ok λx w'=>x= .tuple #[]/\qE w ca cn cc L i F {bx.x with set:=qz arg bx.x.set} w'):=by
 have y:=n.len;obtain⟨-,a,S⟩:=n.ok;refine KW (PA.mk λT l U m=>ar (uY ..) m ?_);obtain⟨b,o,h,P,V,z⟩:=(n.af l).cells;have W:=n.nj.aE b (by rw[h];rfl);refine PC.ok (iH h y) ?_;rintro _ A ⟨rfl,c⟩;refine⟨_,rfl,λp B=>?_⟩;have d:ai A p:=B.keep;have e:=(l.then c).then d;have q:=d.get (c.get m id) id;have r:=((c.then d).cell (a:=⟨b,o+i*2+1,none⟩) P id).trans z;have s:=n.set.af e;refine⟨_,_,rfl,_,_,_,r,_,ae q rfl,PC.ok (tN (s.row (bytes:=8) dC ce) a) ?_⟩;rintro _ _ ⟨rfl,rfl⟩;have X:=n.set.len dC;refine⟨_,_,rfl,al.not (al.mk (λC=>Ok.mk ⟨rfl,?_⟩) (λE=>λH I=>?_))⟩
 ·have g:arg∈bx.x.set:=XV C
  refine⟨bx,F,by rw[uV g a],?_,by rw[uV g a];exact s,ai.keep e,λb P=>.inl P⟩;have:L.set i bx=L:=by
   apply X3;intro Y;rw[Xj];split
   ·rename_i J;subst J;rw[Zx (Qv.1 n.at').1,n.at']
   ·rfl
  rw[this];exact n.nj.af e
 ·have g:arg∉bx.x.set:=Xy E
  have j:ai p H:=I.keep;have K:=j.get q id;have t:=e.then j;refine⟨no,_,_,rfl,id,_,_,_,(j.cell (a:=⟨b,o+i*2+1,none⟩) (Qk P (c.then d).size) id).trans r,_,ae K rfl,PA.mk λZ u s5 M=>⟨ai.keep u,?_⟩⟩;have k:=t.then u;have a1:=AE (λN=>decide (N<arg)) bx.x.set;have z4:=t.size;refine PC.ok (TM (n.set.af k) oM M v (λP=>by have:=n.set.aE _ P;omega) oM) ?_;rintro _ w6 ⟨a',c',F',rfl,O,Q⟩;rw[Ia a g];exact⟨_,_,_,rfl,_,_,rfl,Rl k (n.af k) O Q h λw7 R=>Ok.mk ⟨rfl,R⟩⟩
def YQ(n:kQ w ca cn cc L i bx F):be 225 #[AK f ma mn mc ca cn cc (i:Int) arg] w (Ok λo w'=>o= .tuple #[]/\qE w ca cn cc L i F {bx.x with set:=bx.x.set.filter λp=>p !=arg} w'):=by
 have q:=n.len;obtain⟨-,h,I⟩:=n.ok;refine Dg (PA.mk λJ j K k=>ar (uY ..) k ?_);obtain⟨c,r,l,P,M,s⟩:=(n.af j).cells;refine PC.ok (iH l q) ?_;rintro _ t ⟨rfl,d⟩;refine⟨_,rfl,λu v=>?_⟩;have e:ai t u:=v.keep;have a:=(j.then d).then e;have x:=e.get (d.get k id) id;have m:=((d.then e).cell (a:=⟨c,r+i*2+1,none⟩) P id).trans s;have g:=n.set.af a;refine⟨_,_,rfl,_,_,_,m,_,ae x rfl,PC.ok (tN (g.row (bytes:=8) dC ce) h) ?_⟩;rintro _ _ ⟨rfl,rfl⟩;have N:=n.set.len dC;refine⟨_,_,rfl,al.mk (λy=>?_) (λz=>Ok.mk ⟨rfl,?_⟩)⟩
 ·have b:arg∈bx.x.set:=XV y
  obtain⟨A,O⟩:=Nn h b;refine⟨_,_,rfl,_,_,_,m,PC.ok (TN g oM oM) ?_⟩;rintro _ Q ⟨rfl,B,C⟩;rw[A];exact⟨_,_,_,rfl,_,_,rfl,Rl a (n.af a) B ⟨C,λc P=>.inl P⟩ l λR E=>Ok.mk ⟨rfl,E⟩⟩
 ·have b:arg∉bx.x.set:=Xy z
  refine⟨bx,F,by rw[Ic b],?_,by rw[Ic b];exact g,ai.keep a,λc P=>.inl P⟩;have:L.set i bx=L:=by
   apply X3;intro S;rw[Xj];split
   ·rename_i H;subst H;rw[Zx (Qv.1 n.at').1,n.at']
   ·rfl
  rw[this];exact n.nj.af a
end
def Nq(n:Int):aK (pW n):=by
 unfold pW PP aK;simp[IntKind.signed,IntKind.bits];omega
def Rm(n:e∉s):(qz e s).length=s.length+1:=by
 induction s with
 |nil=>rfl
 |cons a s P=>
  simp only[Q2,not_or]at n;unfold qz;rw[Zq n.1];split
  ·rfl
  ·simp[P n.2]
def Rn{n:List j}{P:j}(b:n[a]? =some P):n.set a P=n:=by
 apply X3;intro d;rw[Xj];split
 ·rename_i c;subst c;rw[Zx (Qv.1 b).1,b]
 ·rfl
section
variable {w w':World} {D E F:UL} {t:List bu} {cells:List cZ} {op arg:Int} {ma ca ta:bc} {mn mc cn cc tn tc i:Nat} {L:List (Bx cZ)} {bx:Bx cZ}
def V_{n:cZ}(a:∀f∈c4.bL,kU.Ok f)(g:aK n.n/\wZ n.set/\n.set.length<=64)(i:aK arg)(j:op=3->arg∈n.set\/n.set.length<64):
  aK (W_ c4 n op arg).n/\wZ (W_ c4 n op arg).set/\(W_ c4 n op arg).set.length<=64:=by
 obtain⟨e,P,b⟩:=g;unfold W_
 split
 ·exact⟨Nq _,P,b⟩
 split
 ·exact⟨i,P,b⟩
 split
 ·rename_i h
  refine⟨e,Ej P,?_⟩
  by_cases a:arg∈n.set
  ·show(qz arg n.set).length<=64
   rw[uV a P];exact b
  ·show(qz arg n.set).length<=64
   rw[Rm a];rcases j h with h|h
   ·exact Zz h a
   ·omega
 split
 ·exact⟨e,P.sublist List.filter_sublist,Xx (List.length_filter_le ..) b⟩
 ·refine⟨?_,P,b⟩
  show aK (c4.bL.getD arg.toNat ⟨0,0,0,0⟩).nk
  by_cases c:arg.toNat<c4.bL.length
  ·have d:c4.bL.getD arg.toNat ⟨0,0,0,0⟩=c4.bL[arg.toNat]:=by simp[QQ,c]
   rw[d];exact(a _ (XY c)).2.1
  ·have d:c4.bL.getD arg.toNat ⟨0,0,0,0⟩=⟨0,0,0,0⟩:=by simp[QQ,Q7 (Nat.le_of_not_lt c)]
   rw[d];simp[aK]
def TP(P:Ik t cells (i:Int) op arg)(d:aK arg)(a:Row kO 32 w E ma mn (t.getD i ⟨0,0,false,[]⟩).bL)(e:∀b,E b->¬aH ca=some b)(n:kQ w ca cn cc L i bx F):
  enters LL (YA op)=true/\be (YA op) (#[]++ #[AK (t.getD i ⟨0,0,false,[]⟩) ma mn mc ca cn cc (i:Int) arg]++ #[]) w (Ok λf w'=>f= .tuple #[]/\qE w ca cn cc L i F (W_ (t.getD i ⟨0,0,false,[]⟩) bx.x op arg) w'):=by
 have h:=P.Xl;have j:=P.Xm;have:op=1\/op=2\/op=3\/op=4\/op=5:=oM
 rcases this with rfl|rfl|rfl|rfl|rfl
 ·exact⟨kR,do_1 n⟩
 ·exact⟨kR,YN n⟩
 ·exact⟨kR,YP n d⟩
 ·exact⟨kR,YQ n⟩
 ·obtain⟨g,c,k⟩:=P.mv rfl
  rw[Qx]at c;exact⟨kR,YO n a e g (by rw[a.len];exact c)⟩
structure Xo (w9:World) (ca:bc) (cn cc:Nat) (D:UL) (cells:List cZ) (j:Nat) (w':World) (L:List (Bx cZ)) (Fi:Nat->UL):Prop where
 nj:aT lA.kp 66 (λb=>aH ca=some b) w' ca cn cc L
 eq:L.map (·.x)=cells
 own:∀i b,i<j->L[i]? =some b->aT aO 3 (Fi i) w' b.a b.n b.c b.x.set
 aE:∀i x,Fi i x->w9.heap.size<=x/\x<w'.heap.size/\¬aH ca=some x
 ap:∀i k x,i≠k->Fi i x->¬Fi k x
 Aj:∀i x,j<=i->¬Fi i x
 keep:aj (λb=>aH ca=some b) w9 w'
def TQ{s:Int}(o:Ik t cells s op arg)(M:xf t cells s op arg=0)(a2:aK arg)(e3:t.length<=64)(ht:Row tR 48 w E ta tn t)(hE:∀P,E P->P<w.heap.size)(h:Row gA 32 w D ca cn cells)(hD:∀P,D P->P<w.heap.size):
  be 216 #[.agg #[.slice ta tn tc],.slice ca cn cc,WP s,WP op,WP arg] w (Ok (pQ gA 66 w (TO t cells s op arg))):=by
 obtain⟨i,rfl⟩:∃i:Nat,s=i:=⟨s.toNat,by have:=o.f0;omega⟩
 obtain⟨l,A,l2,l3⟩:=fp.boxes h;have e4:=o.len;have e5:l.length=cells.length:=by rw[<-A];simp
 refine OD (PA.mk λw1 k1 s1 g1=>PC.ok (qD (l2.af k1) λP b=>by have:=hD P b;omega) ?_);rintro _ N ⟨m,q,C,F9,rfl,v,O,d5⟩;have e6:=v.len dC;have e7:=h.len;have x:∀P,aH m=some P->w1.heap.size<=P:=λP b=>d5 P (v.self P b);have Q:∀P,aH m=some P->P<N.heap.size:=λP b=>v.aE P (v.self P b);refine⟨_,_,_,rfl,λR a8 w'=>∃d:Nat,a8=d/\d<=q/\R=q-d/\∃L p,Xo N m q C D cells d w' L p/\∀a,d<=a->L[a]? =l[a]?,
  ⟨_,0,rfl,Qj _,rfl,l,λ_ _=>False,⟨v.alone,A,λi P hi=>oM,λ_ _ h=>h.elim,λ_ _ _ _ h=>h.elim,λ_ _ _=>id,aj.refl _⟩,λa _=>rfl⟩,?_⟩
 rintro R _ _ b9 ⟨d,rfl,hj,rfl,L,p,c,a3⟩;have e8:L.length=cells.length:=by rw[<-c.eq];simp
 have F:ai w b9:=(k1.then O).new c.keep λP b=>.inr (by have:=x P b;omega);refine al.dec (λe9=>?_) (λf5=>?_)
 ·have c1:d<l.length:=oM
  have S:l[d]? =some l[d]:=Qq c1;obtain⟨P,T,es,U,b,f7,a9,rfl,-⟩:=(l2.af F).el d l[d] S;have d6:=l3 l[d] (XY c1);refine⟨P,T,U,oM,oM,_,_,_,a9 1 dC,PC.ok (bV (d6.1.af F) λP b=>by have:=hD P b;have:=F.size;omega) ?_⟩;rintro _ f9 ⟨g0,g2,g3,G,rfl,a4,H,I⟩;have a5:=c.nj.af H;have hz:=c.keep.size;obtain⟨y,c2⟩:∃y,m=UV y:=by
   rcases a5.body with⟨cs,D',ho,-⟩;rcases ho.cases with⟨-,hn,-⟩|⟨y,b0,e,-⟩
   ·omega
   ·exact⟨y,e⟩
  refine⟨_,_,_,rfl,y,0,c2,oM,oM,?_⟩;simp only[Qx];refine fp.set a5 (by rw[a3 d (Q4 _)];exact S) c2 λg4 c3 V g5=>⟨_,?_,d+1,an oM,oM,rfl,_,λa=>if a=d then G else p a,⟨c3,?_,?_,?_,?_,?_,?_⟩,?_⟩
  ·omega
  ·rw[List.map_set,c.eq,Rn]
   rw[<-A,Q9,S];rfl
  ·intro a P k b
   rw[Xj]at b
   by_cases W:d=a
   ·subst W
    rw[Zx rfl,Zx oM]at b
    cases b
    rw[Zx rfl];exact a4.keep V λn B e=>by have:=I n B;have:=Q n e;omega
   ·rw[Zq W]at b
    rw[Zq (λe=>W e.symm)];exact((c.own a P oM b).af H).keep V λn B e=>(c.aE a n B).2.2 e
  ·intro a n B
   split at B
   ·have:=I n B;have:=a4.aE n B;exact⟨oM,oM,λe=>by have:=Q n e;omega⟩
   ·have J:=c.aE a n B;have:=H.size;exact⟨J.1,oM,J.2.2⟩
  ·intro a k' n X B f
   split at B<;>split at f
   ·omega
   ·have:=I n B;have:=c.aE k' n f;omega
   ·have:=I n f;have:=c.aE a n B;omega
   ·exact c.ap a k' n X B f
  ·intro a n k B
   rw[Zq oM]at B;exact c.Aj a n oM B
  ·exact(c.keep.af H).then V
  ·intro a k
   rw[Xj,Zq oM,a3 a oM]
 ·have g6:d=q:=oM
  refine PC.ok AJ ?_;rintro _ g7 ⟨f0,rfl,Y,Z⟩;refine⟨_,rfl,jA AI lC Y ?_⟩;rw[No o.Xl o.Xm];refine⟨_,_,_,rfl,PA.mk λg8 d7 g9 d8=>aC (Rj op) d8 rfl λd9 e0 h0 b3=>al.tt rfl λb4 e1=>?_⟩;have c4:ai d9 b4:=e1.keep;have u:ai b9 b4:=((Z.then d7).new e0 λP b=>.inr (by have:=Z.size;omega)).then c4;have c5:=F.then u;have b3:=c4.get b3 id;have z9:=c.keep.size;have h2:=Z.size;have h4:=O.size;have gt:=u.get (c.keep.get (O.get g1 id) (λe=>by have:=x _ e;omega)) id;have h5:=o.f1;have h6:=ht.len;obtain⟨P,T,f6,f8,b1,U,b,h7,f1,f2,f3,f4,c6⟩:=Gi (ht.af c5) (i:=i) oM;have c7:i<L.length:=oM
  have K:L[i]? =some L[i]:=Qq c7;generalize L[i]=bx at K;have b5:cells[i]? =some bx.x:=by rw[<-c.eq,Q9,K];rfl
  have c8:cells.getD i ⟨0,[]⟩=bx.x:=by rw[QQ,b5];rfl
  have a0:∀(a:Nat) (n:cZ),cells[a]? =some n->aK n.n/\wZ n.set/\n.set.length<=64:=λa n B=>by
   rw[<-A,Q9]at B
   cases hL:l[a]? with
   |none=>rw[hL]at B;cases B
   |some b2=>rw[hL]at B;cases B;exact(l3 b2 (QZ hL)).2
  have d0:kQ b4 m q C L i bx (p i):=⟨c.nj.af u,K,(c.own i bx oM K).af u,λP b=>(c.aE i P b).2.2,a0 i _ b5,oM⟩
  obtain⟨a1,r⟩:=TP (mc:=b1) o a2 c6 (λP b e=>by have:=hE P b;have:=x P e;omega) d0;refine⟨_,ae b3 rfl,_,_,_,ae gt rfl,P,T,U,oM,oM,_,_,_,_,_,_,f1,f2,f3,f4,_,_,_,rfl,a1,PC.ok r ?_⟩;rintro _ b6 ⟨rfl,g,z,f,d1,a6,b7,d2⟩;have h8:=b7.size;have zg:=u.size;have b8:∀n,z n->N.heap.size<=n:=λn B=>by
   rcases d2 n B with h|h
   ·exact(c.aE i n h).1
   ·omega
  have d3:∀a P,(L.set i g)[a]? =some P->aT aO 3 (λn=>if a=i then z n else p a n) b6 P.a P.n P.c P.x.set:=λa P b=>by
   rw[Xj]at b
   by_cases k:i=a
   ·subst k
    rw[Zx rfl,Zx c7]at b
    cases b
    simp only[if_true];rw[f];exact a6
   ·rw[Zq k]at b
    simp only[Zq (λe:a=i=>k e.symm)];have h9:=(Qv.1 b).1;refine((c.own a P oM b).af u).keep b7 λn B e=>?_;rcases e with e|e
    ·exact(c.aE a n B).2.2 e
    ·exact c.ap a i n (λe=>k e.symm) B e
  have a7:∀P∈L.set i g,aK P.x.n/\wZ P.x.set/\P.x.set.length<=64:=λP b=>by
   obtain⟨a,k,rfl⟩:=List.getElem_of_mem b;have j:(L.set i g)[a]? =some (L.set i g)[a]:=Qq k;generalize(L.set i g)[a]=P at j;rw[Xj]at j
   by_cases d4:i=a
   ·rw[Zx d4,Zx oM]at j
    cases j
    rw[f];refine V_ (λR Y=>?_) (a0 i _ b5) a2 λh3=>?_
    ·obtain⟨c0,hq,rfl⟩:=List.getElem_of_mem Y
     obtain⟨b',o',es,-,-,-,-,-,e2⟩:=c6.el c0 _ (Qq hq);exact e2
    ·rw[Gf]at M
     have b:Rg t cells (i:Int) op arg=true:=by
      cases hq:Rg t cells (i:Int) op arg
      ·rw[hq]at M;simp at M
      ·rfl
     unfold Rg at b;subst h3;simp only[Qx,c8]at b;simpa using b
   ·rw[Zq d4]at j
    exact a0 a _ (by rw[<-c.eq,Q9,j];rfl)
  have c9:∀P∈L.set i g,P.x.set.length<=64:=λP b=>(a7 P b).2.2;have hU:aT lA.OC 66 (λn=>aH m=some n\/((∃a,a≠i/\p a n)\/z n)) b6 m q C ((L.set i g).map (·.x)):=by
   refine fp.unbox (N:=lA) (D:=λn=>(∃a,a≠i/\p a n)\/z n) d1 (λP b=>(⟨?_,a7 P b⟩:lA.In b6 _ P)) (λn B=>?_)
   ·obtain⟨a,k,rfl⟩:=List.getElem_of_mem b
    have J:=d3 a _ (Qq k);refine(J.row (bytes:=8) dC ?_).mono λn B=>?_
    ·have:=c9 _ b;unfold aP;omega
    ·split at B
     ·exact .inr B
     ·rename_i X;exact .inl ⟨a,X,B⟩
   ·rcases B with⟨a,-,B⟩|B
    ·have:=c.aE a n B;exact⟨oM,this.2.2⟩
    ·refine⟨a6.aE n B,λe=>?_⟩
     rcases d2 n B with h|h
     ·exact(c.aE i n h).2.2 e
     ·have:=Q n e;omega
  refine⟨rfl,Ok.mk ⟨m,q,C,(λn=>aH m=some n\/((∃a,a≠i/\p a n)\/z n)),rfl,?_,?_,?_⟩⟩
  ·rw[VZ o.Xl o.Xm,Qx,c8,<-f,<-c.eq,<-List.map_set];exact hU
  ·exact c5.new b7 λn B=>.inr (by
    rcases B with B|B
    ·have:=x n B;omega
    ·have:=(c.aE i n B).1;omega)
  ·rintro n (B|⟨a,-,B⟩|B)
   ·have:=x n B;omega
   ·have:=(c.aE a n B).1;omega
   ·have:=b8 n B;omega
end
end Go.Proofs.YtkpomgifkloklabGreatDoor
namespace Go.aw
open Go
variable{d:bc}{z:ba}
section
variable {α β:Type} {N:fp α β} {w9 w w':World} {a:bc} {n c j:Nat} {L0:List (Bx α)} {e:TypeId}
def dW(N:fp α β)(e:TypeId)(w9:World)(a:bc)(n c:Nat)(L0:List (Bx α))(j:Nat)(w':World):Prop:=
 ∃(b:List (Bx α)) (g:UL),aT N.kp e (λP=>aH a=some P) w' a n c b/\b.map (·.x)=L0.map (·.x)/\(∀(h:Nat) (P:Bx α),h<j->b[h]? =some P->N.In w' g P)/\(∀f:Nat,j<=f->b[f]? =L0[f]?)/\
  aj (λP=>aH a=some P) w9 w'/\∀d,g d->w9.heap.size<=d/\d<w'.heap.size/\¬aH a=some d
def dW.start(P:aT N.kp e (λb=>aH a=some b) w9 a n c L0):dW N e w9 a n c L0 0 w9:=
 ⟨L0,λ_=>False,P,rfl,λd b f=>oM,λ_ _=>rfl,aj.refl _,λ_ P=>P.elim⟩
def dW.af(b:dW N e w9 a n c L0 j w)(P:ai w w'):dW N e w9 a n c L0 j w':=by
 obtain⟨h,i,k,l,m,o,p,d⟩:=b;exact⟨h,i,k.af P,l,λq r s t=>(m q r s t).keep P λ_ _ b=>b,o,p.af P,λf g=>⟨(d f g).1,Qk (d f g).2.1 P.size,(d f g).2.2⟩⟩
def dW.keep(P:dW N e w9 a n c L0 j w):aj (λb=>aH a=some b) w9 w:=P.elim λd P=>P.elim λD P=>P.2.2.2.2.1
def dW.len(P:dW N e w9 a n c L0 j w):n=L0.length:=by
 obtain⟨g,h,b,d,-⟩:=P;have:=Zj List.length d;simp at this;have f:0<N.k:=Nat.lt_of_le_of_lt (Qj _) N.ho;rw[b.len f,this]
def dW.some(b:dW N e w9 a n c L0 j w)(h:j<n):∃P,a=UV P:=by
 obtain⟨i,k,d,-⟩:=b;rcases d.body with⟨cs,l,f,-⟩;rcases f.cases with⟨-,m,-⟩|⟨P,g,e,-⟩
 ·omega
 ·exact⟨P,e⟩
def dW.cell(l:dW N e w9 a n c L0 j w){g:Nat}(m:a=Option.some ⟨g,0,none⟩){P:Bx α}(o:L0[j]? =Option.some P)(p:n*N.k<=aP):∀d f,(N.hd P.x P.a P.n P.c)[d]? =Option.some f->w.cell? ⟨g,0+j*N.k+d,none⟩=Option.some f:=by
 obtain⟨t,u,h,v,x,q,y,z⟩:=l;have i:0<N.k:=Nat.lt_of_le_of_lt (Qj _) N.ho;have r:=h.row (bytes:=N.k) i (by rw[<-h.len i];exact p);obtain⟨A,B,C,b,-,-,s,rfl,-⟩:=r.el j P (by rw[q j (Q4 _)];exact o);rw[m]at b;cases b
 intro d f k;rw[<-k];exact s d (by have:=(Qv.1 k).1;rw[N.hl]at this;exact this)
def dW.step(v:dW N e w9 a n c L0 j w){g:Nat}(m:a=Option.some ⟨g,0,none⟩){b:Bx α}(h:L0[j]? =Option.some b){o x:Nat}{G:UL}(y:Row N.ci N.ib w G d o (N.inner b.x))(A:N.ok b.x)(i:∀P,G P->w9.heap.size<=P/\P<w.heap.size)(Q:g<w9.heap.size)(k:∀w',dW N e w9 a n c L0 (j+1) w'->aj (λb=>aH a=Option.some b) w w'->w'.heap.size=w.heap.size->z w'):
  PS w ⟨g,0+j*N.k+N.o,none⟩ (.slice d o x) z:=by
 obtain⟨C,E,F,H,I,p,J,q⟩:=v;have r:C[j]? =Option.some b:=by rw[p j (Q4 _)];exact h
 have K:=(Qv.1 r).1;have s:∀P,G P->¬aH a=Option.some P:=λP B e=>by
  have:=(i P B).1;rw[m]at e;simp only[aH,Q1]at e;omega
 refine fp.set F r m λL M f l=>k L ⟨_,λP=>E P\/G P,M,?_,?_,?_,J.then f,?_⟩ f l
 ·rw[List.map_set,H]
  apply X3;intro R;rw[Xj];split
  ·rename_i e;subst e
   rw[Zx (by simpa using(Qv.1 h).1),Q9,h];rfl
  ·rfl
 ·intro t P S B
  rw[Xj]at B
  by_cases u:j=t
  ·subst u
   rw[Zx rfl,Zx K]at B
   cases B
   exact⟨(y.keep f λP B=>s P B).mono λP B=>.inr B,A⟩
  ·rw[Zq u]at B
   exact((I t P oM B).keep f λP B=>(q P B).2.2).mono λP B=>.inl B
 ·intro O T
  rw[Xj,Zq oM,p O oM]
 ·rintro P (B|B)
  ·rw[l];exact q P B
  ·rw[l];exact⟨(i P B).1,(i P B).2,s P B⟩
def dW.done(f:dW N e w9 a n c L0 n w):∃g,aT N.OC e g w a n c (L0.map (·.x))/\∀P,g P->aH a=Option.some P\/w9.heap.size<=P:=by
 have q:=f.len;obtain⟨i,j,k,h,l,r,s,d⟩:=f;have t:i.length=L0.length:=by have:=Zj List.length h;simpa using this
 rw[<-h];refine⟨_,fp.unbox (D:=j) k (λu m=>?_) λP b=>⟨(d P b).2.1,(d P b).2.2⟩,λP b=>b.imp id λb=>(d P b).1⟩;obtain⟨o,p,rfl⟩:=List.getElem_of_mem m;exact l o _ oM (Qq p)
end
end Go.aw
namespace Go.Proofs.YtkpomgifkloklabGreatDoor
open Go.aw
def nu:fp ah Int where
 k:=10
 ci:=aO
 ib:=8
 inner:=(·.aM)
 hd:=aF
 ok:=ah.Ok
 hl:=λ_ _ _ _=>rfl
 h1:=λP a b c d n=>by
  simp only[aF,Q2,List.not_mem_nil,or_false]at n;rcases n with rfl|rfl|rfl|rfl|rfl|rfl|rfl|rfl|rfl|rfl<;>rfl
 o:=3
 ho:=dC
 fQ:=λ_ _ _ _ _ _ _=>rfl
def Un:nu.OC=jh:=rfl
def KL:fp bu kU where
 k:=4
 ci:=kO
 ib:=32
 inner:=(·.bL)
 hd:=fv
 ok:=λn=>aK n.kind/\aK n.dX
 hl:=λ_ _ _ _=>rfl
 h1:=λa b c d e P=>by
  simp only[fv,Q2,List.not_mem_nil,or_false]at P;rcases P with rfl|rfl|rfl|rfl<;>rfl
 o:=3
 ho:=dC
 fQ:=λ_ _ _ _ _ _ _=>rfl
def HW:KL.OC=tR:=rfl
variable{e:Int}{b7:List cZ}{a c:Nat}{d:bc}
section
variable {w w':World} {D E F:UL}
def o_{e:ah}{w:World}{D:UL}(h:Row aO 8 w D d a e.aM)(s:∀n,D n->n<w.heap.size):
  be 162 #[kM e d a c] w (Ok λt w'=>∃d a c G,t=kM e d a c/\Row aO 8 w' G d a e.aM/\(∀n,G n->w.heap.size<=n/\n<w'.heap.size)/\ai w w'):=by
 have u:=h.eR;have v:=h.len;refine GI (PA.mk λz l A b=>PA.mk λB f C i=>⟨_,_,_,ae (f.get b id) rfl,PC.ok (bV (h.af (l.then f)) λn P=>by have:=s n P;omega) ?_⟩);rintro _ E ⟨m,o,p,G,rfl,q,g,j⟩;have b:=g.get (f.get b id) id;have i:=g.get i id;refine⟨_,_,_,rfl,PS.mk b (by simp[aF]) λF k H x=>?_⟩;refine ar (cs:=aF e m o p) (bb _ _ _ _) x (aC (bb _ _ _ _) (k.get i oM) rfl λI r J y=>ar (bb _ _ _ _) y (Ok.mk ⟨m,o,p,G,rfl,?_,?_,?_⟩))
 ·refine(((q.keep k λn P=>?_).keep r λn P=>?_).row (bytes:=8) dC (by rw[<-v];exact u))
  ·have:=j n P;omega
  ·have:=j n P;omega
 ·intro n P
  have:=j n P;have:=q.aE n P;omega
 ·have K:=g.size
  exact((aj.new ((l.then f).then g) k λn P=>.inr oM).new r λn P=>.inr oM)
def Md(h:Row gA 32 w D d a b7)(C:∀n,D n->n<w.heap.size):
  be 165 #[.agg #[WP e,.slice d a c]] w (Ok λa0 w'=>∃E H I F,a0= .agg #[WP e,.slice E H I]/\aT gA 66 F w' E H I b7/\(∀n,F n->w.heap.size<=n)/\ai w w'):=by
 obtain⟨k,J,l2,l3⟩:=fp.boxes h;have K:=h.eR;have c2:=h.len;have c3:k.length=b7.length:=by rw[<-J];simp
 refine GJ (PA.mk λL M s1 N=>PA.mk λw2 p s2 g2=>⟨_,_,_,ae (p.get N id) rfl,PC.ok (qD (l2.af (M.then p)) λn P=>by have:=C n P;omega) ?_⟩);rintro _ w9 ⟨i,l,v,F9,rfl,q,r,b6⟩;have m:∀n,aH i=some n->w2.heap.size<=n:=λn P=>b6 n (q.self n P);have a1:∀n,aH i=some n->n<w9.heap.size:=λn P=>q.aE n (q.self n P);refine⟨_,_,_,rfl,PS.mk (r.get (p.get N id) id) sM λs x c4 t=>⟨_,_,_,ae t rfl,?_⟩⟩;have z9:=r.size;have a2:=x.get (r.get g2 id) oM;have a3:aT lA.kp 66 (λn=>aH i=some n) s i l v k:=q.alone.keep x λn P b=>by have:=m n P;omega
 have a4:ai w s:=((M.then p).then r).new x λn P=>.inr oM;refine⟨λO a5 w'=>∃f:Nat,a5=f/\f<=l/\O=l-f/\dW lA 66 s i l v k f w',⟨_,0,rfl,Qj _,rfl,dW.start a3⟩,?_⟩;rintro O _ _ Q ⟨f,rfl,hj,rfl,g⟩;have c5:=g.len;have y:ai w Q:=a4.new g.keep λn P=>.inr (by have:=m n P;omega);have z:¬aH i=some w.heap.size:=λb=>by have:=m _ b;omega
 have R:¬aH i=some L.heap.size:=λb=>by have:=m _ b;omega
 refine al.dec (λc6=>λa6 b8=>?_) (λc7=>?_)
 ·have o:ai Q a6:=b8.keep
  have S:=g.af o;obtain⟨j,rfl⟩:=g.some oM;have c8:=m j rfl;have a7:j<s.heap.size:=by have:=a1 j rfl;omega
  have A:k[f]? =some k[f]:=Qq oM;have u:=l3 k[f] (XY oM);generalize k[f]=B at A u;have T:=o.get (g.keep.get t z) id;refine⟨λn=>n=j,by show w.heap.size≠j;omega,_,_,_,ae T rfl,_,_,_,ae T rfl,j,0,rfl,by omega,by omega,_,_,_,S.cell rfl A (by show l*2<=aP;unfold aP at K⊢;omega) 1 _ rfl,PC.ok (bV ((u.1.af y).af o) λn P=>by have:=C n P;have:=(y.then o).size;omega) ?_⟩;rintro _ d0 ⟨d1,d2,d3,G,rfl,U,V,hG⟩;refine⟨_,_,_,rfl,ai.keep V,j,0,rfl,oM,oM,?_⟩;have d4:=g.keep.size;have d5:=o.size;refine(S.af V).step (g:=j) rfl A (U.row (bytes:=8) dC ?_) u.2 (λW X=>⟨by have:=hG W X;omega,U.aE W X⟩) a7 λd6 b0 b9 d7=>⟨b9.mono λn _ b=>(by simpa[aH]using b.symm),_,?_,f+1,an (by unfold aP at K;omega),oM,rfl,b0⟩
  ·have:B.x.set.length<=64:=u.2.2.2
   show(lA.inner B.x).length*8<=aP;unfold aP;show B.x.set.length*8<=_;omega
  ·omega
 ·obtain rfl:f=l:=oM
  obtain⟨Fd,Y,Z⟩:=g.done;rw[J]at Y;have d8:=g.keep.size;refine⟨_,_,_,_,ae (g.keep.get t z) rfl,ae (g.keep.get t z) rfl,PS.mk (g.keep.get a2 R) sM λd9 b2 e0 c1=>PS.mk c1 sM λe1 b3 e2 b4=>⟨_,_,_,_,ae b4 rfl,ae b4 rfl,Ok.mk ⟨i,_,v,Fd,rfl,?_,?_,?_⟩⟩⟩
  ·have b5:∀n,Fd n->n≠L.heap.size:=λn P b=>by
    rcases Z n P with h|h
    ·exact R (b▸h)
    ·omega
   exact(Y.keep b2 λn P b=>b5 n P b).keep b3 λn P b=>b5 n P b
  ·intro n P
   rcases Z n P with h|h
   ·have:=m n h;omega
   ·omega
  ·exact(y.new b2 λn P=>.inr oM).new b3 λn P=>.inr oM
end
variable{v:bc}{S:aR}
section
variable {w w':World} {D E F:UL}
def qx{n:List jS}(b:Row Jj 40 w D d a n)(e:∀P,D P->P<w.heap.size):be 135 #[.slice d a c] w (Ok (pQ Jj 156 w n)):=
 iR (xg RU dC b e λg w' f=>Ok.mk f)
def qy{n:List (Bx bu)}(b:Row KL.kp 48 w D d a n)(e:∀P,D P->P<w.heap.size):be 136 #[.slice d a c] w (Ok (pQ KL.kp 85 w n)):=
 gW (xg Vu dC b e λg w' f=>Ok.mk f)
def DO{tn tc pn pc:Nat}(g:bt w D S d tn v pn)(R:∀n,D n->n<w.heap.size):
  be 160 #[.agg #[.slice d tn tc,.slice v pn pc]] w (Ok λa5 w'=>∃o Nw T c e f G,a5= .agg #[.slice o Nw T,.slice c e f]/\bt w' G S o Nw c e/\(∀n,G n->w.heap.size<=n/\n<w'.heap.size)/\ai w w'):=by
 have d3:=g.aX.len;have C:=g.aX.eR;have d4:=g.FQ.len;have d5:=g.FQ.eR;refine zI (PA.mk λw1 k1 s1 g1=>PA.mk λw2 E s2 g2=>⟨_,_,_,ae (E.get g1 id) rfl,PC.ok (qx (g.FQ.af (k1.then E)) λn B=>by have:=R n B;omega) ?_⟩);rintro _ p ⟨c,e,f,G1,rfl,U,F,b4⟩;have z8:=F.size;refine⟨_,_,_,rfl,PA.mk λg4 d6 g5 d7=>PS.mk d7 sM λg6 d8 g7 d9=>PS.mk d9 sM λq e0 g8 e1=>?_⟩;have r:ai p q:=(d6.new d8 λn B=>.inr oM).new e0 λn B=>.inr oM;have b5:ai w q:=((k1.then E).then F).then r;have ga:=r.get (F.get (E.get g1 id) id) id;have gz:=r.get (F.get g2 id) id;have g9:=r.size;have b6:q.heap[p.heap.size]? =some (.cells #[.slice none 0 0,.slice c e f] 25 (0,0)):=e1;refine⟨_,_,_,ae ga rfl,λs V w'=>∃P:Nat,V=P/\P<=tn/\s=tn-P/\aj (·=p.heap.size) q w'/\∃H I W t,w'.heap[p.heap.size]? =some (.cells #[.slice H I W,.slice c e f] 25 (0,0))/\aT ns 88 t w' H I W (S.types.take P)/\∀n,t n->q.heap.size<=n,
  ⟨_,0,rfl,Qj _,rfl,aj.refl _,none,0,0,λ_=>False,b6,aT.nil _,λ_ g=>g.elim⟩,?_⟩
 rintro s _ _ Y ⟨P,rfl,hj,rfl,u,H,I,W,t,Z,h,k⟩;have J:ai w Y:=b5.new u λn B=>.inr oM;have zk:=u.size;refine al.dec (λh0=>?_) (λh3=>?_)
 ·have b7:P<S.types.length:=oM
  obtain⟨n,a6,es,ha,B,h4,a8,fa,fn,fc,rfl,K⟩:=(g.aX.af J).el P S.types[P] (by simp[b7]);have b8:S.types[P]? =some S.types[P]:=Qq b7;generalize S.types[P]=a1 at K b8;have c0:=a8 0 dC;have e2:ns.k=1:=rfl;rw[e2,Nat.mul_one]at c0;refine⟨n,a6,ha,oM,oM,fa,fn,fc,by rw[Qx];exact c0,PA.mk λh5 e3 h6 e4=>PS.mk e4 sM λb9 e5 h7 e6=>⟨_,_,_,ae e6 rfl,?_⟩⟩;have L:ai Y b9:=e3.new e5 λn B=>.inr oM;have c1:=J.then L;obtain⟨l,l1,l2,l3⟩:=fp.boxes (N:=KL) K;have a7:=K.eR;refine PC.ok (qy (l2.af L) λn B=>by have:=R n B;have:=c1.size;omega) ?_;rintro _ c2 ⟨a9,x,c9,F9,rfl,M,c3,e7⟩;have h8:=L.size;have h9:=c3.size;have N:∀n,aH a9=some n->b9.heap.size<=n:=λn B=>e7 n (M.self n B);have c4:∀n,aH a9=some n->n<c2.heap.size:=λn B=>M.aE n (M.self n B);refine⟨_,_,_,rfl,λs V w'=>∃P:Nat,V=P/\P<=x/\s=x-P/\dW KL 85 c2 a9 x c9 l P w',⟨_,0,rfl,Qj _,rfl,dW.start M.alone⟩,?_⟩;rintro s _ _ e8 ⟨m,rfl,hi,rfl,i⟩;have i0:=i.len;have i1:l.length=a1.length:=by rw[<-l1];simp
  have e9:=K.len;have y:ai Y e8:=(L.then c3).new i.keep λn B=>.inr (by have:=N n B;omega);have i2:=i.keep.size;refine al.dec (λf9=>?_) (λg0=>?_)
  ·obtain⟨O,rfl⟩:=i.some oM
   have c5:=c4 O rfl;have a0:l[m]? =some l[m]:=Qq oM;have z:=l3 l[m] (XY oM);generalize l[m]=Q at a0 z;refine⟨O,0,rfl,oM,oM,_,_,_,i.cell rfl a0 (by show x*4<=aP;unfold aP at a7⊢;omega) 3 _ rfl,PC.ok (tI (z.1.af y) λn B=>by have:=R n B;have:=(J.then y).size;omega) ?_⟩;rintro _ i3 ⟨i4,i5,i6,G,rfl,a2,f2,hG⟩;refine⟨_,_,_,rfl,O,0,rfl,oM,oM,?_⟩;refine(i.af f2).step (g:=O) rfl a0 (a2.row (bytes:=32) dC ?_) z.2 (λa3 hx=>⟨by have:=hG a3 hx;omega,a2.aE a3 hx⟩) c5 λi7 c6 i8 i9=>⟨_,?_,m+1,an (by unfold aP at a7;omega),oM,rfl,c6⟩
   ·have b:=z.1.eR
    have X:=z.1.len;show Q.x.bL.length*32<=aP;have j0:Q.n=Q.x.bL.length:=X;have j1:Q.n*32<=aP:=b;omega
   ·omega
  ·obtain rfl:m=x:=oM
   obtain⟨Fd,hd,b0⟩:=i.done;rw[l1,HW]at hd;have a4:=y.get Z id;refine⟨_,_,_,ae a4 rfl,Ou (c:=ns) (x:=a1) (h.af y) QU (D:=Fd) ⟨_,_,_,rfl,hd.row dC (by rw[<-e9];exact a7)⟩ (λn B=>⟨hd.aE n B,λa=>?_⟩) ?_ ?_ λa' A j2 F' d0 b1 c7 g3=>⟨_,_,_,rfl,?_⟩⟩
   ·have b:=h.aE n (h.self n a)
    rcases b0 n B with X|X
    ·have:=N n X;omega
    ·omega
   ·have:=List.length_take_le P S.types;unfold aP at C⊢;omega
   ·have:=List.length_take_le P S.types;unfold aP at C;unfold maxLen;omega
   ·have j:¬aH H=some p.heap.size:=λa=>by have:=k _ (h.self _ a);omega
    have f4:=b1.get a4 j;have j3:=b1.size;refine PS.mk f4 sM λj4 c8 j5 f5=>⟨_,?_,P+1,an (by unfold aP at C;omega),oM,rfl,?_,a',I+1,A,F',f5,?_,?_⟩
    ·omega
    ·exact((u.af y).new b1 λn B=>.inr (k _ (h.self n B))).then c8
    ·rw[Qw,b8]
     refine d0.keep c8 λn B a=>?_;rcases c7 n B with b|b|b
     ·have:=k n b;omega
     ·rcases b0 n b with X|X
      ·have:=N n X;omega
      ·omega
     ·omega
    ·intro n B
     rcases c7 n B with b|b|b
     ·exact k n b
     ·rcases b0 n b with X|X
      ·have:=N n X;omega
      ·omega
     ·omega
 ·obtain rfl:P=tn:=oM
  rw[Qz oM]at h;have d1:=u.get gz oM;have f0:=(U.af r).keep u λn B a=>by have:=U.aE n B;omega
  refine⟨_,_,_,_,_,_,ae Z rfl,ae Z rfl,PS.mk d1 sM λj6 b2 j7 f7=>PS.mk f7 sM λj8 b3 j9 d2=>⟨_,_,_,_,_,_,ae d2 rfl,ae d2 rfl,Ok.mk ⟨_,_,_,_,_,_,λn=>t n\/G1 n,rfl,⟨?_,?_⟩,?_,?_⟩⟩⟩
  ·have j:∀n,t n->n≠w1.heap.size:=λn B a=>by have:=k n B;omega
   exact((((h.row (bytes:=24) dC (by rw[<-d3];exact C)).keep b2 λn B a=>j n B a).keep b3 λn B a=>j n B a)).mono λn B=>.inl B
  ·have j:∀n,G1 n->n≠w1.heap.size:=λn B a=>by have:=b4 n B;omega
   exact((((f0.row (bytes:=40) dC (by rw[<-d4];exact d5)).keep b2 λn B a=>j n B a).keep b3 λn B a=>j n B a)).mono λn B=>.inr B
  ·rintro n (B|B)
   ·have:=k n B;have:=h.aE n B;omega
   ·have:=b4 n B;have:=U.aE n B;omega
  ·exact(J.new b2 λn B=>.inr oM).new b3 λn B=>.inr oM
end
end Go.Proofs.YtkpomgifkloklabGreatDoor
namespace Go.aw
open Go
def px{n P a:Type}(b:n->P->a->Prop):List (n×P)->List (n×a)->Prop
 |[],[]=>True
 |(c,d)::e,(f,g)::h=>c=f/\b c d g/\px b e h
 |_,_=>False
section
variable {κ β γ:Type} {R R':κ->β->γ->Prop}
def px.mono:∀{n:List (κ×β)} {P:List (κ×γ)},px R n P->(∀d a b,R d a b->R' d a b)->px R' n P
 |[],[],_,_=>trivial
 |(f,a)::n,(g,b)::P,c,e=>⟨c.1,e _ _ _ c.2.1,px.mono c.2.2 e⟩
def px.au[BEq κ][LawfulBEq κ](n:κ):∀{P:List (κ×β)} {a:List (κ×γ)},px R P a->
  (aw.au P n=none/\aw.au a n=none)\/∃b c,aw.au P n=some b/\aw.au a n=some c/\R n b c
 |[],[],_=>.inl ⟨rfl,rfl⟩
 |(e,b)::P,(i,c)::a,f=>by
  obtain⟨rfl,g,h⟩:=f;unfold aw.au
  by_cases d:n==e
  ·obtain rfl:n=e:=by simpa using d
   simp only[d,if_true];exact .inr ⟨b,c,rfl,rfl,g⟩
  ·simp only[d];exact px.au n h
def px.off{f:κ}:∀{n:List (κ×β)} {P:List (κ×γ)},px R n P->(∀a b c,a≠f->R a b c->R' a b c)->f∉n.map (·.1)->px R' n P
 |[],[],_,_,_=>trivial
 |(i,b)::n,(j,c)::P,d,g,e=>by
  simp only[QY,Q2,not_or]at e;exact⟨d.1,g _ _ _ (λh=>e.1 h.symm) d.2.1,px.off d.2.2 g e.2⟩
def px.aI[BEq κ][LawfulBEq κ]{n:κ}{P:β}{a:γ}(e:R' n P a):∀{b:List (κ×β)} {f:List (κ×γ)},px R b f->(∀g P a,g≠n->R g P a->R' g P a)->Tidy b->px R' (aw.aI b n P) (aw.aI f n a)
 |[],[],_,_,_=>⟨rfl,e,trivial⟩
 |(i,p)::b,(q,r)::f,k,h,c=>by
  obtain⟨rfl,l,j⟩:=k;unfold Tidy at c;simp only[QY,List.nodup_cons]at c;unfold aw.aI
  by_cases d:n==i
  ·simp only[d,if_true]
   obtain rfl:n=i:=by simpa using d
   refine⟨rfl,e,?_⟩;have m:n∉b.map (·.1):=c.1;exact px.off j h m
  ·simp only[d]
   exact⟨rfl,h _ _ _ (λo=>d (by simp[o])) l,px.aI e j h c.2⟩
end
def wI{b:Type}(d:World)(e:Nat)(P:b->Value)(f:b)(g:Int):Prop:=
 ∃(c:Array MapEntry) (n h:Nat) (a:MapEntry),d.heap[e]? =some (.map c n)/\c[h]? =some a/\a.key=P f/\(a.born:Int)=g
variable{e:Int}{a:Nat}{j:Type}{w:Value}{m:ac}{b k:World}
def wI.keep{S:UL}{P:j->Value}{c:j}(d:wI b a P c e)(f:aj S b k)(g:¬S a):wI k a P c e:=by
 obtain⟨h,n,i,l,m,o⟩:=d;exact⟨h,n,i,l,f.get m g,o⟩
section
variable {κ:Type} [BEq κ] [LawfulBEq κ] {P:Program} {t kt vt:TypeId} {z:Value} {enc:κ->Value}
def E_{κ c:Type}[BEq κ][LawfulBEq κ]{P:κ}{d:c}:∀{a:List (κ×c)},au a P=some d->aI a P d=a
 |(e,f)::a,n=>by
  unfold au at n;unfold aI
  by_cases b:P==e
  ·rw[Zx b]at n⊢
   obtain rfl:P=e:=by simpa using b
   cases n;rfl
  ·rw[Zq b]at n⊢
   rw[E_ n]
def Hq(u:mK P t kt vt z)(m:ji P kt enc){d:List (κ×Value)}(v:bW b a enc d){k:κ}{w H:ac}(o:∀w' B,bW w' a enc (aI d k ((au d k).getD z))->wI w' a enc k B->aj (·=a) b w'->w'.heap.size=b.heap.size->w (.tuple #[(au d k).getD z,WP B]) w'):aJ P (Instr.mapEntry t (.map (some a)) (enc k)) b w H:=by
 obtain⟨c,n,i,j,x,C⟩:=v.at';have p:=ki m k c.toList d j b;have I:c.toList.length=d.length:=by have:=Zj List.length j;simpa using this
 have q:=aA i;have g:=xZ d k 0
 cases r:m_ d k 0 with
 |none=>
  rw[r]at p g;have s:au d k=none:=g.symm;rw[s]at o;have J:=u.NU b;refine aJ.mk (w':={b with heap:=b.heap.setIfInBounds a (.map (c.push {key:=enc k,val:=z,born:=n}) (n+1))}) ?_ (o _ n ⟨⟨_,_,cV b a _ q,?_,?_,?_⟩,v.tidy.aI k z⟩ ⟨_,_,c.size,{key:=enc k,val:=z,born:=n},cV b a _ q,sM,rfl,rfl⟩ (aj.setObj b a _) sM)
  ·simp[Instr.mapEntry,run_underlying u.under,dJ i,dQ m,p,eM i,J,goInt]
  ·rw[Option.getD_none,(sr r).1 z];simp[j]
  ·intro f h
   simp only[Array.toList_push,Q6,List.mem_singleton]at h;rcases h with h|rfl
   ·have:=x f h;omega
   ·show n<n+1;omega
  ·simp only[Array.toList_push,Q3,QY,List.map_nil]
   rw[List.nodup_append];refine⟨C,sM,?_⟩;intro K g L y T;simp only[List.mem_singleton]at y;obtain⟨f,h,rfl⟩:=Xk.1 g;have:=x f h;omega
 |some M=>
  obtain⟨e,E⟩:=M;rw[r]at p g;have s:au d k=some E:=g.symm;obtain⟨_,N,F,O⟩:=ou r;rw[Nat.sub_zero]at N F O;have A:e<c.size:=by
                 have:c.size=d.length:=by simpa using I
                 omega
  have l:c[e].key=enc k:=by
   have:=Zj (·[e]?) j;simp only[Q9,F,Option.map_some]at this;simp[A]at this;exact this.1
  have Q:(c.modify e λf=>{f with key:=enc k})=c:=by
   apply Array.ext
   ·simp
   ·intro U V W
    rw[Array.getElem_modify];split
    ·rename_i f;subst f
     cases R:c[e]with
     |mk K L w=>rw[R]at l;simp at l;simp[l]
    ·rfl
  rw[s]at o;refine aJ.mk (w':={b with heap:=b.heap.setIfInBounds a (.map c n)}) ?_ (o _ (c[e].born) ⟨⟨_,_,cV b a _ q,?_,x,C⟩,v.tidy.aI k E⟩ ⟨_,_,e,c[e],cV b a _ q,by simp[A],l,rfl⟩ (aj.setObj b a _) sM)
  ·have S:(Instr.keyThatStays (enc k) (enc k)).run P b= .ok (enc k) b:=by simp[Instr.keyThatStays,m.same]
   simp[Instr.mapEntry,run_underlying u.under,dJ i,dQ m,p,A,l,S,eM i,Q,goInt]
  ·rw[Option.getD_some,E_ s];exact j
def Ct(J:ji P kt enc){c:List (κ×Value)}(s:bW b a enc c){h:κ}(K:wI b a enc h e){y:ba}(L:∀o,bW o a enc (aI c h w)->aj (·=a) b o->o.heap.size=b.heap.size->y o):lM P (Instr.entryStore t (.map (some a)) (WP e) w) b y m:=by
 obtain⟨f,k,p,u,M,z⟩:=s.at';obtain⟨N,q,n,i,l,O,A,Q⟩:=K;rw[p]at l;cases l
 subst Q;have R:f.toList.length=c.length:=by have:=Zj List.length u;simpa using this
 have S:=aA p;obtain⟨r,rfl⟩:=Q5.1 O;have v:n<c.length:=by
                have:f.size=c.length:=by simpa using R
                omega
 have B:c[n]? =some (h,f[n].val):=by
  have:=Zj (·[n]?) u;simp only[Q9,Qq v,Option.map_some]at this;simp[r]at this;have T:c[n].1=h:=J.inj (by rw[<-this.1,A]);rw[Qq v]
  congr 1
  exact Prod.ext T this.2.symm
 have U:aI c h w=c.set n (h,w):=by
  cases C:m_ c h 0 with
  |none=>
   have E:=xZ c h 0;rw[C]at E;have:=jC.1 E.symm;exact Zz (Xk.2 ⟨_,QZ B,rfl⟩) this
  |some V=>
   obtain⟨g,a2⟩:=V;obtain⟨_,d,F,H⟩:=ou C;rw[Nat.sub_zero]at d F H;have j:g=n:=by
    have W:(c.map (·.1))[g]? =some h:=by rw[Q9,F];rfl
    have X:(c.map (·.1))[n]? =some h:=by rw[Q9,B];rfl
    obtain⟨Y,Z⟩:=Qv.1 W;obtain⟨q3,q4⟩:=Qv.1 X;exact(List.getElem_inj (xs:=c.map (λe=>e.1)) (h₀:=Y) (h₁:=q3) (show(c.map (λe=>e.1)).Nodup from s.tidy)).1 (Z.trans q4.symm)
   rw[(H w).1,j]
 have a0:f.findIdx? (λi=>(i.born:Int)==(f[n].born:Int))=some n:=by
  rw[Array.findIdx?_eq_some_iff_getElem];refine⟨r,sM,λg d=>?_⟩;have a1:g<f.size:=oM
  have a3:f[g].born≠f[n].born:=λi=>by
   have:=(List.getElem_inj (xs:=f.toList.map (·.born)) (h₀:=by simpa using a1) (h₁:=by simpa using r) z).1 (by simpa using i);omega
  simp;omega
 refine lM.mk (w':={b with heap:=b.heap.setIfInBounds a (.map (f.modify n λi=>{i with val:=w}) k)}) ?_ (L _ ⟨⟨_,_,cV b a _ S,?_,?_,?_⟩,s.tidy.aI h w⟩ (aj.setObj b a _) sM)
 ·simp[Instr.entryStore,dJ p,asInt,asIntOf,a0,eM p]
 ·rw[U]
  apply X3;intro g;have d:=Zj (·[g]?) u;simp only[Q9]at d;simp only[Array.toList_modify,Q9,Xj,List.getElem?_modify]
  by_cases j:n=g
  ·subst j
   simp[r,v,A]
  ·simp only[j,if_false,Option.map_map]at d⊢
   simpa using d
 ·intro i I
  rw[Array.toList_modify]at I;obtain⟨g,d⟩:=List.getElem?_of_mem I;rw[List.getElem?_modify]at d
  cases x:f.toList[g]? with
  |none=>rw[x]at d;simp at d
  |some e'=>
   rw[x]at d;have hm:=QZ x;have:=M e' hm
   by_cases j:n=g
   ·simp[j]at d;subst d;exact this
   ·simp[j]at d;subst d;exact this
 ·have:(f.modify n λi=>{i with val:=w}).toList.map (·.born)=f.toList.map (·.born):=by
   apply X3;intro g;simp only[Array.toList_modify,Q9,List.getElem?_modify,Option.map_map]
   by_cases j:n=g<;>simp[j]<;>rfl
  rw[this];exact z
end
end Go.aw
namespace Go.Proofs.YtkpomgifkloklabGreatDoor
open Go.aw
def wW{e:Type}{c:e->Int}:∀{d:List e},cK c d=0->∀a∈d,c a=0
 |[],_,a,P=>by cases P
 |y::d,n,a,P=>by
  unfold cK at n
  by_cases b:c y=0
  ·rw[b]at n
   simp only[bne_self_eq_false,Bool.false_eq_true,if_false]at n;rcases Q2.1 P with rfl|P
   ·exact b
   ·exact wW n a P
  ·rw[Zx (by simpa using b)]at n
   exact Zz n b
variable{e p:Int}{c5:List bu}{b7:List cZ}{S:aR}{d9:aY}{c4:bu}
def nn(n:dj S=0):rU S=false/\(∀P∈S.types,∀c∈P,fM P c=0)/\∀d∈S.projs,mJ S d=0:=by
 unfold dj at n;split at n
 ·simp at n
 ·rename_i e
  simp only at n;split at n
  ·rename_i a
   exact Zz n (by simpa using a)
  ·rename_i a
   refine⟨by simpa using e,λP f=>?_,wW n⟩;have b:cK (λP=>cK (fM P) P) S.types=0:=by simpa using a
   exact wW (wW b P f)
def Ax(n:rU S=false):1<=S.types.length/\S.types.length<=8/\S.projs.length<=8/\∀P∈S.types,1<=P.length/\P.length<=8:=by
 unfold rU at n;split at n
 ·cases n
 ·rename_i a
  simp only[Bool.or_eq_true,Bool.not_eq_true',Zk,not_or,Bool.not_eq_false,Nat.not_lt]at a;obtain⟨a,b⟩:=a;rw[bN]at a;refine⟨oM,oM,b,λP c=>?_⟩;rw[List.any_eq_false]at n;have:=n P c;simp only[Bool.or_eq_true,Bool.not_eq_true',not_or,Bool.not_eq_false]at this;have:=bN.1 this.1;omega
def Vo(n:fM c5 c4=0):∀P∈c4.bL,P.lV<(c5.length:Int):=by
 intro P b;unfold fM at n;split at n
 ·simp at n
 split at n
 ·simp at n
 split at n
 ·simp at n
 split at n
 ·simp at n
 ·rename_i a
  rw[Bool.not_eq_true,List.any_eq_false]at a;have:=a P b
  by_cases c:P.lV= -1
  ·omega
  ·have:TB c5 P.lV 1=true:=by
    simpa[c]using this
   unfold TB at this;simp only[QK]at this;have:=bN.1 this.1;omega
def wT(n:S.DY e p=some c4):0<=e/\e<(S.types.length:Int)/\S.at e=S.types.getD e.toNat []/\0<=p/\p<((S.at e).length:Int)/\(S.at e).getD p.toNat ⟨0,0,false,[]⟩=c4/\c4∈S.at e:=by
 unfold aR.DY at n;split at n
 ·rename_i P
  simp only[QK,bN]at P;refine⟨P.1.1,oM,?_,P.2.1,oM,by rw[QQ,n];rfl,QZ n⟩;unfold aR.at;rw[Zx (bN.2 P.1)]
 ·cases n
def at_mem(P:0<=e)(a:e<(S.types.length:Int)):S.at e∈S.types:=by
 unfold aR.at;rw[Zx (bN.2 ⟨P,oM⟩)];have n:e.toNat<S.types.length:=oM
 have:S.types.getD e.toNat []=S.types[e.toNat]:=by simp[QQ,n]
 rw[this];exact XY n
def Oj(m:dj S=0){P b e arg:Int}(n:lR S P b e arg=0)(o:b7.length=(S.at P).length):
  Ik (S.at P) b7 b e arg/\0<=P/\P<(S.types.length:Int)/\(S.at P).length<=8:=by
 obtain⟨p,q,y⟩:=nn m;obtain⟨z,A,B,r⟩:=Ax p;unfold lR at n
 cases c:S.DY P b with
 |none=>rw[c]at n;simp at n
 |some a=>
  rw[c]at n;simp only at n;obtain⟨f,g,C,s,t,u,v⟩:=wT c;split at n
  ·simp at n
  ·rename_i h
   split at n
   ·simp at n
   ·rename_i i
    simp only[Bool.or_eq_true,Bool.not_eq_true',not_or,Bool.not_eq_false]at h i;have j:=bN.1 h.1;have k:=at_mem f g;refine⟨⟨s,t,o,j.1,j.2,λw=>?_⟩,f,g,(r _ k).2⟩;rw[u];have x:=Vo (q _ k a v);have d:within arg 0 (a.bL.length-1)=true:=by
     have:=i.2;simp only[QK,beq_iff_eq,Bool.not_eq_true',not_and,Bool.not_eq_false]at this;exact this w
    have d:=bN.1 d;have l:arg.toNat<a.bL.length:=oM
    refine⟨d.1,oM,?_⟩;have:a.bL.getD arg.toNat ⟨0,0,0,0⟩=a.bL[arg.toNat]:=by simp[QQ,l]
    rw[this];exact x _ (XY l)
structure aY.OK (V:aY):Prop where
 decl:dj V.decl=0
 st:∀x∈V.eS,x.2.cells.length=(V.decl.at x.1.1).length
def Ol(P:List bu)(n:List cZ)(a b arg:Int):(TO P n a b arg).length=n.length:=by
 unfold TO
 simp only;split
 ·simp
 split
 ·simp
 split
 ·simp
 split
 ·simp
 split
 ·simp
 ·rfl
def aY.cellsOf(P:aY)(n:ah):List cZ:=match au P.eS (n.aX,n.agg)with
 |some a=>a.cells
 |none=>dY (P.decl.at n.aX)
def aY.OK.len(P:d9.OK)(n:ah):(d9.cellsOf n).length=(d9.decl.at n.aX).length:=by
 unfold aY.cellsOf
 cases a:au d9.eS (n.aX,n.agg)with
 |none=>simp[dY]
 |some b=>exact P.st _ (cz a)
def aY.py(P:aY)(n:ah):P.try n=if lR P.decl n.aX n.field n.op n.arg≠0 then(true,(0,0),P)else
  match((au P.done (n.aX,n.agg,n.field)).getD []).find? λa=>mV ((P.decl.at n.aX).getD n.field.toNat ⟨0,0,false,[]⟩) a n with
  |some a=>(true,bd a,P)
  |none=>if xf (P.decl.at n.aX) (P.cellsOf n) n.field n.op n.arg≠0 then(true,(0,0),P)else
   (false,(0,0),{P with eS:=aI P.eS (n.aX,n.agg) ⟨pW (((au P.eS (n.aX,n.agg)).getD ⟨0,[]⟩).version+1),TO (P.decl.at n.aX) (P.cellsOf n) n.field n.op n.arg⟩,done:=aI P.done (n.aX,n.agg,n.field) ((au P.done (n.aX,n.agg,n.field)).getD []++[n])}):=rfl
def aY.Tx(n:d9.OK)(a:ah):(d9.try a).2.2.OK/\(d9.try a).2.2.decl=d9.decl:=by
 rw[aY.py];split
 ·exact⟨n,rfl⟩
 split
 ·exact⟨n,rfl⟩
 split
 ·exact⟨n,rfl⟩
 ·refine⟨⟨n.decl,λb P=>?_⟩,rfl⟩
  rcases fG P with rfl|P
  ·show(TO _ _ _ _ _).length=_
   rw[Ol,n.len]
  ·exact n.st b P
def aY.AA(a:d9.OK)(n:ah):(d9.add n).2.OK/\(d9.add n).2.decl=d9.decl:=by
 obtain⟨P,b⟩:=aY.Tx a n;exact⟨⟨P.decl,P.st⟩,b⟩
def aY.tL(n:dj S=0):(aY.new S).OK:=⟨n,λa P=>by cases P⟩

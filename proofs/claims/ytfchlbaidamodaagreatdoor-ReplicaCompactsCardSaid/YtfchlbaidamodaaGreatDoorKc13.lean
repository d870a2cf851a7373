import Derived.Test.YtfchlbaidamodaaGreatDoorKc12
import Derived.StringKeys
set_option linter.all false
set_option maxRecDepth 20000
namespace Go.Proofs.YtfchlbaidamodaaGreatDoor
open Go.ax
variable{X r:Array Value}{a8:FrameMode}{z:FuncId}{e:Int}{b3 s:List Int}{a1:List PanicEntry->World->Prop}{v:List UInt8}{B:List ah}{a c i:Nat}{f:Nat->Prop}{R Y:Operand}{d p:Option Addr}{h:Program}{b:World}{y:World->Prop}{l:ah}{Q:g_}
def SQ(m:fF b a f Q):
  Calls ZQ 254 #[ZX a,QH e] b (Wu b a f Q (if Q.num.1=0 then(if Q.num.2.1<0\/e<Q.num.2.1 then 3 else 0)else Q.num.1) (λk n=>k= QH Q.num.2.1) Q.num.2.2):=by
 refine tu (PC.red (Gv m) ?_ ?_)
 rotate_left
 ·intro g l h i j
  rw[if_neg g];exact⟨.inr ⟨g,rfl,h⟩,i,j⟩
 rintro g _ l h rfl i j;rw[if_pos g];have d:Q.num.2.1<0\/e<Q.num.2.1->Wu b a f Q (if Q.num.2.1<0\/e<Q.num.2.1 then 3 else 0) (λk n=>k= QH Q.num.2.1) Q.num.2.2 (.panicked (Vw 3)) l:=λc=>by
  rw[if_pos c];exact⟨.inr ⟨dC,rfl,_,h⟩,i,j⟩
 refine⟨_,rfl,al.dec (λo=>gy (λc=>⟨rfl,?_⟩) (λc=>d (.inr ?_))) (λo=>gy (λc=>by cases c) (λ_=>d (.inl oM)))⟩
 ·have c:=XV c
  rw[if_neg oM];exact⟨.inl ⟨rfl,h,_,rfl,rfl⟩,i,j⟩
 ·have c:=Xy c
  omega
def Kn:(do eqGuard .eql 20 R (.const .nilIface) .nilIface .nilIface;binOp .eql 20 .nilIface .nilIface:Sem Value).run ZQ b= .ok (.bool true) b:=by
 cases R<;>rfl
def Ih:(do eqGuard .eql 20 R Y (.iface 376 (QH e)) .nilIface;binOp .eql 20 (.iface 376 (QH e)) .nilIface:Sem Value).run ZQ b= .ok (.bool false) b:=by
 rfl
def Ko:(Instr.typeAssert (.iface 376 (QH e)) 20 376 true).run ZQ b= .ok (.tuple #[QH e,.bool true]) b:=by
 rfl
def Lv.ret{ret:World->Prop}(a:a8= .returning)(c:ret b):Lv h ret a1 [] a8 b:=by
 subst a;unfold Lv;exact c
def Lv.one{w:World}(c:a8≠.run)(d:enters h z=true)(e:CallsD h z r a8 w λf a b=>Sx f (λ_=>Lv h y a1 [] (settle a) b) (λg=>Lv h y a1 [] (raised a g) b)):Lv h y a1 [{target:=.fn (.func z) r,args:= #[]}] a8 w:=
 ⟨c,z,r,rfl,d,by rw[show(#[]++r:Array Value)=r by simp];exact e⟩
def DB{j S:Nat->Prop}(f:fF b a j Q)(J:enters ZQ z=true){A:World->Prop}{no:Int}(t:∀g,S g->g<b.heap.size)(K:Q.sO=0->∀e,ai b e->Calls ZQ z (r++ #[]++X) e λd c=>aj S e c/\((no=0/\d= .returned (.tuple #[])/\A c)\/(no≠0/\(no=3\/no=4\/no=5)/\d= .panicked (Vw no)/\aj (·=a) e c/\∃u,fF c a j ⟨Q.bytes,u,0⟩))):
  Calls ZQ 252 #[ZX a,.func (.func z) r X] b (Ok λL c=>L= .tuple #[]/\aj (λg=>S g\/g=a) b c/\
   ((Q.sO≠0/\ai b c)\/(Q.sO=0/\no=0/\aj S b c/\A c)\/(Q.sO=0/\no≠0/\aj (·=a) b c/\fF c a j ⟨Q.bytes,Q.pos,no⟩))):=by
 obtain⟨a0,a2,M,G,v,h2,h3⟩:=f.body;have hp:=aC v;refine pW (PA.mk λe k s1 l=>?_);have w:=k.get v id;refine⟨_,ae l rfl,a,0,rfl,_,ae w rfl,al.dw (λN=>Ok.mk ⟨rfl,k.keep,.inl ⟨N,k⟩⟩) (λm=>?_)⟩;refine⟨_,ae l rfl,a,0,rfl,_,ae w rfl,PA.mk λw2 O s2 P=>PS.mk P sM λn R s3 T=>⟨z,r,X,rfl,J,?_⟩⟩;have x:aj (·=e.heap.size) e n:=O.keep.then R;have o:ai b n:=k.new x λg hb=>.inr oM;refine(K m n o).mono ?_;rintro d h ⟨p,U⟩;have y:h.heap[b.heap.size]? =some (.cells #[ZX a] 295 (0,0)):=p.get (x.get l (by intro d;omega)) (λq=>by have:=t _ q;omega);have V:h.heap[e.heap.size]? =some (.cells #[QH (Q.pos:Int)] 3 (0,0)):=p.get T (λq=>by have:=t _ q;omega);have B:aj S b h:=o.keep.then p;rcases U with⟨s,rfl,W⟩|⟨s,Y,rfl,Z,u,C⟩
 ·refine⟨rfl,Lv.one sM kR ?_⟩
  refine CallsD.mono (gK (rv:=.nilIface) (u:=.returning) rfl (R:=λd i c=>d= .returned (.tuple #[])/\i= .returning/\c=h) ?_) ?_
  ·exact aH.mk Kn ⟨_,rfl,al.tt rfl ⟨rfl,rfl,rfl⟩⟩
  ·rintro d i c ⟨rfl,rfl,rfl⟩
   refine Lv.ret rfl ?_;exact Ok.mk ⟨rfl,B.mono λ_ _ f=>.inl f,.inr (.inl ⟨m,s,B,W⟩)⟩
 ·refine Lv.one sM kR ?_
  obtain⟨a',n',E,G',e1,e2,e3⟩:=C.body;refine CallsD.mono (gK (rv:=.iface 376 (QH no)) (u:=.panicking (Vw no)) rfl (R:=λd i c=>d= .returned (.tuple #[])/\settle i= .returning/\fF c a j ⟨Q.bytes,Q.pos,no⟩/\aj (·=a) b c) ?_) ?_
  ·refine aH.mk (v:=.bool false) (w':=h) ?_ ⟨_,rfl,al.ff rfl (aH.mk (v:=.tuple #[QH no,.bool true]) (w':=h) ?_ ⟨_,_,rfl,al.tt rfl ?_⟩)⟩
   ·exact Ih
   ·exact Ko
   ·refine⟨_,ae y rfl,_,ae y rfl,_,ae V rfl,a,0,rfl,PS.mk e1 sM λw5 F s5 g5=>⟨a,0,rfl,PS.mk g5 sM λw6 H s6 g6=>⟨rfl,rfl,?_,?_⟩⟩⟩
    ·exact C.fr (r':=⟨Q.bytes,Q.pos,no⟩) e2 e3 (F.then H) g6 rfl ⟨f.fit.pos,.inr Y⟩
    ·exact(o.keep.then Z).then (F.then H)
  ·rintro d i c ⟨rfl,fz,a1,I⟩
   refine Lv.ret fz ?_;exact Ok.mk ⟨rfl,I.mono λ_ _ f=>.inr f,.inr (.inr ⟨m,s,I,a1⟩)⟩
def HE(c:fF b a f Q):
  Calls ZQ 185 #[ZX a] b (Ok λr i=>r= QH (fu Q).1/\fF i a f (fu Q).2/\aj (·=a) b i):=by
 have P:a<b.heap.size:=c.aF a c.self;refine vY (PA.mk λm H R x=>PA.mk λI s S t=>⟨_,ae (s.get x id) rfl,?_⟩);have y:ai b I:=H.then s;have u:=c.af y;have J:=s.get x id;refine PC.ok (DB (S:=λh=>h=a\/h=m.heap.size) (no:=Q.num.1) (A:=λi=>fF i a f ⟨Q.bytes,Q.pos+Q.num.2.2,Q.sO⟩/\i.heap[m.heap.size]? =some (.cells #[QH Q.num.2.1] 3 (0,0))) u kR ?_ ?_) ?_
 ·rintro h (rfl|rfl)<;>omega
 ·intro K n q
  refine tv ⟨_,ae (q.get J id) rfl,PC.red (Gv (u.af q)) ?_ ?_⟩
  ·rintro j _ z d rfl k A
   have v:=k.get (q.get t id) oM;refine⟨_,rfl,PS.mk v sM λT B U L=>⟨(k.mono λ_ _ c=>.inl c).then (B.mono λ_ _ c=>.inr c),.inl ⟨j,rfl,d.keep B λh o g=>?_,L⟩⟩⟩;have:=c.aF h o;omega
  ·rintro j z d k A
   rw[K]at d;have:=km (Q.bytes.drop Q.pos);exact⟨k.mono λ_ _ c=>.inl c,.inr ⟨j,by have:=this.2.2.2.1;unfold g_.num at j⊢;omega,rfl,k,d⟩⟩
 ·rintro _ n ⟨rfl,q,M⟩
  have N:aj (·=a) b n:=y.keep.new q λh o=>by
   rcases o with(rfl|rfl)|rfl
   ·exact .inl rfl
   ·exact .inr oM
   ·exact .inl rfl
  have e:∀w:Int,n.heap[m.heap.size]? =some (.cells #[QH w] 3 (0,0))->fF n a f (fu Q).2->w=(fu Q).1->
    (∃C:Int,n.cell? ⟨m.heap.size,0,none⟩=some (QH C)/\PS n ⟨m.heap.size,0,none⟩ (QH C) λE=>∃F:Int,E.cell? ⟨m.heap.size,0,none⟩=some (QH F)/\
     Ok (λr i=>r= QH (fu Q).1/\fF i a f (fu Q).2/\aj (·=a) b i) (.returned (QH F)) E):=by
   rintro w l d rfl;refine⟨_,ae l rfl,PS.mk l sM λz k A v=>⟨_,ae v rfl,Ok.mk ⟨rfl,d.keep k λh o g=>?_,N.new k λh o=>.inr oM⟩⟩⟩;have:=c.aF h o;omega
  refine⟨rfl,?_⟩;rcases M with⟨p,l⟩|⟨p,j,_,d,l⟩|⟨p,j,O,d⟩
  ·have g:fu Q=(0,Q):=by unfold fu;rw[if_pos p]
   exact e 0 (l.get t id) (by rw[g];exact u.af l) (by rw[g])
  ·have g:fu Q=(Q.num.2.1,⟨Q.bytes,Q.pos+Q.num.2.2,0⟩):=by unfold fu;rw[if_neg (by simp[p]),if_pos j]
   exact e _ l (by rw[g];rw[p]at d;exact d) (by rw[g])
  ·have g:fu Q=(0,⟨Q.bytes,Q.pos,Q.num.1⟩):=by unfold fu;rw[if_neg (by simp[p]),if_neg j]
   exact e 0 (O.get t oM) (by rw[g];exact d) (by rw[g])
def JD{m:Int}(d:fF b a f Q):
  Calls ZQ 184 #[ZX a,QH m] b (Ok λw k=>w= QH (bM m Q).1/\fF k a f (bM m Q).2/\aj (·=a) b k):=by
 have Y:a<b.heap.size:=d.aF a d.self;refine tk (PA.mk λZ N s1 E=>PA.mk λo x sm O=>PA.mk λP v s2 y=>⟨_,ae (v.get (x.get E id) id) rfl,?_⟩);have F:ai b P:=(N.then x).then v;have z:=d.af F;have R:=v.get (x.get E id) id;have S:=v.get O id;generalize i:(if Q.num.1=0 then(if Q.num.2.1<0\/m<Q.num.2.1 then 3 else 0)else Q.num.1:Int)=no;refine PC.ok (DB (S:=λj=>j=a\/j=o.heap.size) (no:=no) (A:=λk=>fF k a f ⟨Q.bytes,Q.pos+Q.num.2.2,Q.sO⟩/\k.heap[o.heap.size]? =some (.cells #[QH Q.num.2.1] 3 (0,0))) z kR ?_ ?_) ?_
 ·rintro j (rfl|rfl)<;>omega
 ·intro T p q
  refine qi ⟨_,ae (q.get R id) rfl,_,ae (q.get S id) rfl,PC.red (SQ (z.af q)) ?_ ?_⟩
  ·rintro e _ H g rfl l I
   rw[i]at e;have A:=l.get (q.get y id) oM;refine⟨_,rfl,PS.mk A sM λw5 J s5 U=>⟨(l.mono λ_ _ d=>.inl d).then (J.mono λ_ _ d=>.inr d),.inl ⟨e,rfl,g.keep J λj r c=>?_,U⟩⟩⟩;have:=d.aF j r;omega
  ·rintro e H g l I
   rw[i]at e⊢;rw[T]at g;have B:=(km (Q.bytes.drop Q.pos)).2.2.2.1;refine⟨l.mono λ_ _ d=>.inl d,.inr ⟨e,?_,rfl,l,g⟩⟩
   change Q.num.1=0\/Q.num.1=4\/Q.num.1=5 at B
   rw[<-i]at e⊢;split
   ·rename_i c
    rw[if_pos c]at e;split
    ·exact .inl rfl
    ·rename_i t;rw[if_neg t]at e;exact absurd rfl e
   ·omega
 ·rintro _ p ⟨rfl,q,V⟩
  have W:aj (·=a) b p:=F.keep.new q λj r=>by
   rcases r with(rfl|rfl)|rfl
   ·exact .inl rfl
   ·exact .inr oM
   ·exact .inl rfl
  have h:∀C:Int,p.heap[o.heap.size]? =some (.cells #[QH C] 3 (0,0))->fF p a f (bM m Q).2->C=(bM m Q).1->
    (∃K:Int,p.cell? ⟨o.heap.size,0,none⟩=some (QH K)/\PS p ⟨o.heap.size,0,none⟩ (QH K) λL=>∃M:Int,L.cell? ⟨o.heap.size,0,none⟩=some (QH M)/\
     Ok (λw k=>w= QH (bM m Q).1/\fF k a f (bM m Q).2/\aj (·=a) b k) (.returned (QH M)) L):=by
   rintro C n g rfl;refine⟨_,ae n rfl,PS.mk n sM λH l I A=>⟨_,ae A rfl,Ok.mk ⟨rfl,g.keep l λj r c=>?_,W.new l λj r=>.inr oM⟩⟩⟩;have:=d.aF j r;omega
  refine⟨rfl,?_⟩;rcases V with⟨s,n⟩|⟨s,e,_,g,n⟩|⟨s,e,X,g⟩
  ·have c:bM m Q=(0,Q):=by unfold bM;rw[if_pos s]
   exact h 0 (n.get y id) (by rw[c];exact z.af n) (by rw[c])
  ·have c:bM m Q=(Q.num.2.1,⟨Q.bytes,Q.pos+Q.num.2.2,0⟩):=by
    have B:=(km (Q.bytes.drop Q.pos)).2.2.2.1
    change Q.num.1=0\/Q.num.1=4\/Q.num.1=5 at B
    unfold bM;rw[if_neg (by simp[s])];split at i
    ·rename_i u
     rw[if_pos u];split at i
     ·omega
     ·rename_i t;rw[if_neg t]
    ·omega
   exact h _ n (by rw[c];rw[s]at g;exact g) (by rw[c])
  ·have c:bM m Q=(0,⟨Q.bytes,Q.pos,no⟩):=by
    unfold bM;rw[if_neg (by simp[s])];split at i
    ·rename_i u
     rw[if_pos u];split at i
     ·rename_i t;rw[if_pos t,i]
     ·omega
    ·rename_i u;rw[if_neg u,i]
   exact h 0 (X.get y oM) (by rw[c];exact g) (by rw[c])
def Oa(h:fF b a f Q):
  Calls ZQ 186 #[ZX a] b (Ok λi j=>i= QH (h_ Q)/\bE b j):=by
 obtain⟨o,p,k,G,d,l,q⟩:=h.body;have r:=l.len dC;have g:Q.sO≠0\/¬Q.pos<Q.bytes.length->h_ Q=Q.sO:=λs=>by unfold h_;rw[if_neg oM]
 refine uJ ⟨a,0,rfl,_,ae d rfl,al.dX (λe=>⟨a,0,rfl,_,ae d rfl,a,0,rfl,_,_,_,ae d rfl,λm c=>al.dec (λn=>?_) λn=>?_⟩) (λe m c=>?_)⟩
 ·exact Ok.mk ⟨by unfold h_;rw[if_pos ⟨e,oM⟩],c⟩
 ·exact⟨a,0,rfl,_,ae ((c.keep (S:=λ_=>False)).get d id) rfl,Ok.mk ⟨by rw[g (.inr oM)],c⟩⟩
 ·exact⟨a,0,rfl,_,ae ((c.keep (S:=λ_=>False)).get d id) rfl,Ok.mk ⟨by rw[g (.inl e)],c⟩⟩
def tN:jP ZQ 55 3 1 8:=⟨kR,kR,dC⟩
def aE(a:ah)(b:Option Addr)(c d:Nat):List Value:=
 [QH a.origin,QH a.seq,QH a.aA,.slice b c d,QH a.bd,QH a.agg,QH a.field,QH a.op,QH a.arg,QH a.key]
def fZ:kM ah where
 k:=10
 rep:=λj D e cs=>∃a b c,cs=aE e a b c/\Row aP 8 j D a b e.aK/\e.Ok
 keep:=λ⟨a,b,c,d,f,g⟩ k h=>⟨a,b,c,d,f.keep k h,g⟩
 mono:=λ⟨a,b,c,d,f,g⟩ h=>⟨a,b,c,d,f.mono h,g⟩
 len:=λ⟨a,b,c,d,_,_⟩=>by rw[d];rfl
 one:=λ⟨a,b,c,d,_,_⟩ l i=>by
  rw[d]at i;simp only[aE,Q2,List.not_mem_nil,or_false]at i;rcases i with rfl|rfl|rfl|rfl|rfl|rfl|rfl|rfl|rfl|rfl<;>rfl
def qz:kM ah where
 k:=10
 rep:=λn D g cs=>∃a b c d,cs=aE g a b c/\aV aP 3 d n a b c g.aK/\(∀e,d e->D e)/\g.Ok/\g.aK.length*8<=aQ
 keep:=λ⟨a,b,c,d,f,i,h,j⟩ o k=>⟨a,b,c,d,f,i.keep o (λe l=>k e (h e l)),h,j⟩
 mono:=λ⟨a,b,c,d,f,i,h,j⟩ k=>⟨a,b,c,d,f,i,λe l=>k e (h e l),j⟩
 len:=λ⟨a,b,c,d,f,_⟩=>by rw[f];rfl
 one:=λ⟨a,b,c,d,f,_⟩ p m=>by
  rw[f]at m;simp only[aE,Q2,List.not_mem_nil,or_false]at m;rcases m with rfl|rfl|rfl|rfl|rfl|rfl|rfl|rfl|rfl|rfl<;>rfl
def qz.read{D:Nat->Prop}{cs:List Value}(a:qz.rep b D l cs):fZ.rep b D l cs:=by
 obtain⟨c,d,e,k,f,g,h,i,j⟩:=a;exact⟨c,d,e,f,(g.row dC j).mono h,i⟩
def qz.row{D:Nat->Prop}(c:Row qz 96 b D d a B):Row fZ 96 b D d a B:=
 ⟨c.len,c.d_,λf g h=>by
  obtain⟨i,e,j,k,l,m,n,o⟩:=c.el f g h;exact⟨i,e,j,k,l,m,n,qz.read o⟩⟩
def Eg:jP ZQ 50 59 10 96:=⟨kR,kR,dC⟩
def HD{u w:Nat}{m D:Nat->Prop}{n S:Nat}(E:b.heap[a]? =some (.cells #[.slice d u w] 197 (0,0)))(j:aV gq 5 m b d u w v)(t:Row aP 8 b D p n s)(T:¬m a)(U:¬D a)(V:v.length+9*s.length+9<=aQ):
  Calls ZQ 282 #[.slice p n S,ZX a] b (Ok λW k=>W= .tuple #[]/\∃f g h l,k.heap[a]? =some (.cells #[.slice f g h] 197 (0,0))/\
   aV gq 5 l k f g h (v++bt s)/\¬l a/\aj (·=a) b k/\∀c,l c->m c\/b.heap.size<=c):=by
 have X:=t.len;have a7:=aC E;have Y:=t.d_;unfold aQ at Y;refine EC ⟨λF i k=>∃e:Nat,i=e/\e<=n/\F=n-e/\∃f g h l,k.heap[a]? =some (.cells #[.slice f g h] 197 (0,0))/\
   aV gq 5 l k f g h (v++bt (s.take e))/\¬l a/\aj (·=a) b k/\∀c,l c->m c\/b.heap.size<=c,
  ⟨_,0,rfl,Qj _,rfl,d,u,w,m,E,by simpa[bt]using j,T,aj.refl _,λc x=>.inl x⟩,?_⟩
 rintro F i _ w1 ⟨e,rfl,hj,rfl,H,I,J,Z,y,o,a0,q,a1⟩;refine al.dec (λh1=>?_) (λh1=>?_)
 ·obtain⟨c,z,A,rfl,B,C,hc⟩:=(t.keep q (λc j r=>U (r▸j))).mh (i:=e) oM
  refine⟨c,z,rfl,oM,oM,A,hc,H,I,J,ae y rfl,?_⟩;have a8:(bt (s.take e)).length<=9*e:=by
   have:=fT (l:=s.take e) (λa9 hy=>by
    obtain⟨K,L⟩:=List.getElem?_of_mem (List.mem_of_mem_take hy);have a2:K<n:=by rw[X];exact(Qv.1 L).1
    obtain⟨_,_,b0,_,M,a3,_⟩:=t.mh (i:=K) a2;rw[L]at M;cases M;exact a3)
   simp only[Qy]at this;omega
  have a4:=o.len dC;rw[QX]at a4;unfold aQ at V;refine PC.ok (Cx C (o.row (bytes:=1) dC (by rw[QX];unfold aQ;omega)) (by unfold aQ;omega) o.aF) ?_;rintro _ w2 ⟨a5,n2,c2,N,rfl,a6,O,P⟩;have Q:¬N a:=λx=>by have:=P a x;have:=q.size;omega
  refine⟨_,_,_,rfl,PS.mk (O.get y id) sM λw3 R s3 g3=>⟨_,oM,e+1,an oM,oM,rfl,a5,n2,c2,N,g3,?_,Q,(q.af O).then R,λc j=>.inr (Xx q.size (P c j))⟩⟩;rw[Qw,B];have r:v++bt (List.take e s++(some A).toList)=v++bt (List.take e s)++eB A:=by rw[iP];simp[bt]
  rw[r];exact a6.keep R λc j r=>Q (r▸j)
 ·rw[Qz oM]at o
  exact Ok.mk ⟨rfl,H,I,J,Z,y,o,a0,q,a1⟩
def Cy{f:Nat×Nat}(c:List Int)(d:b.heap[a]? =some (.cells (c.map (Value.int .i64)).toArray 3 f))(e:∀g∈c,aN g)(h:c.length<=1000):Row aP 8 b (·=a) (ZZ a) c.length c:=
 Row.lit d c sM e (by unfold aQ;omega)
def PD{D:Nat->Prop}(x:Row aP 8 b D d a l.aK)(e:l.Ok)(H:∀f,D f->f<b.heap.size):
  Calls ZQ 221 #[.agg (aE l d a c).toArray] b (Ok λI J=>∃y,I= .tuple #[y,QH (jt l).2]/\qD gq 5 b (jt l).1 y J):=by
 have K:=x.len;refine Jk (PA.mk λk o s1 z=>⟨d,a,c,ae z rfl,al.dec (λh=>?_) (λh=>?_)⟩)
 ·have r:jt l=([],3):=by unfold jt;rw[if_pos oM]
  rw[r];exact Ok.mk ⟨_,rfl,none,0,0,λ_=>False,rfl,aV.nil k,o,λ_ h=>h.elim⟩
 have a8:l.aK.length<=64:=oM
 have r:jt l=(bt (fU l),0):=by unfold jt;rw[if_neg oM]
 rw[r];have A:∀f,D f->f<k.heap.size:=λf i=>Qk (H f i) o.size;refine PA.mk λm s s2 L=>?_;have n:=s.get z id;refine⟨_,ae n rfl,_,ae n rfl,_,ae n rfl,_,_,_,ae n rfl,PA.mk λB C s3 M=>⟨_,_,_,rfl,kR,?_⟩⟩;have N:Row aP 8 B (·=m.heap.size) (ZZ m.heap.size) 4 [l.origin,l.seq,l.aA,(l.aK.length:Int)]:=
  Cy (f:=(0,0)) [l.origin,l.seq,l.aA,(l.aK.length:Int)] (by rw[M,<-K];rfl) (by intro t g;simp at g;rcases g with rfl|rfl|rfl|rfl;exact e.origin;exact e.seq;exact e.aA;unfold aN;omega) sM
 refine PC.ok (HD (C.get L id) (aV.nil B) N id (by show¬k.heap.size=m.heap.size;omega) (by unfold aQ;simp)) ?_;rintro _ E ⟨rfl,a4,n4,c4,F4,O,P,Q,R,S⟩;have p:aj (·=k.heap.size) m E:=C.keep.then R;have F:=p.get n oM;have T:Row aP 8 E D d a l.aK:=((x.af (o.then s)).keep p λf i l=>by have:=A f i;omega)
 refine⟨rfl,_,_,_,ae F rfl,_,_,_,rfl,kR,PC.ok (HD O P T Q (λh=>by have:=A _ h;omega) ?_) ?_⟩
 ·have u:=fT (l:=[l.origin,l.seq,l.aA,(l.aK.length:Int)]) (by intro t g;simp at g;rcases g with rfl|rfl|rfl|rfl;exact e.origin;exact e.seq;exact e.aA;unfold aN;omega)
  simp only[List.nil_append,Xq,List.length_nil]at u⊢;unfold aQ;omega
 rintro _ v ⟨rfl,a5,n5,c5,F5,U,V,W,w,X⟩;have j:=w.get F oM;refine⟨rfl,_,ae j rfl,_,ae j rfl,_,ae j rfl,_,ae j rfl,_,ae j rfl,_,ae j rfl,PA.mk λY q s6 Z=>⟨_,_,_,rfl,kR,?_⟩⟩;have r6:Row aP 8 Y (·=v.heap.size) (ZZ v.heap.size) 6 [l.bd,l.agg,l.field,l.op,l.arg,l.key]:=
  Cy (f:=(0,0)) [l.bd,l.agg,l.field,l.op,l.arg,l.key] Z (by intro t g;simp at g;rcases g with rfl|rfl|rfl|rfl|rfl|rfl;exact e.bd;exact e.agg;exact e.field;exact e.op;exact e.arg;exact e.key) sM
 have a6:=p.size;have a9:=w.size;refine PC.ok (HD (q.get U id) (V.af q) r6 W (by show¬k.heap.size=v.heap.size;omega) ?_) ?_
 ·have u:=fT (l:=[l.origin,l.seq,l.aA,(l.aK.length:Int)]) (by intro t g;simp at g;rcases g with rfl|rfl|rfl|rfl;exact e.origin;exact e.seq;exact e.aA;unfold aN;omega)
  have h2:=fT e.aK;simp only[List.nil_append,Xq,List.length_nil,QX]at u h2⊢;unfold aQ;omega
 rintro _ w7 ⟨rfl,a7,n7,c7,F7,g7,a2,b0,k7,a3⟩;refine⟨rfl,_,_,_,ae g7 rfl,Ok.mk ⟨_,rfl,a7,n7,c7,F7,rfl,?_,?_,?_⟩⟩
 ·have:fU l=[l.origin,l.seq,l.aA,(l.aK.length:Int)]++l.aK++[l.bd,l.agg,l.field,l.op,l.arg,l.key]:=rfl
  rw[this,iP,iP];exact a2
 ·have ka:ai b m:=o.then s
  exact(ka.new ((p.then w).then (q.keep.then k7)) λf i=>.inr oM)
 ·intro f i
  rcases a3 f i with h|h
  ·rcases X f h with h|h
   ·rcases S f h with h|h
    ·exact h.elim
    ·omega
   ·omega
  ·have:=q.size;omega
def rz(b:List Int)(c:Option Addr)(d e:Nat)(a:List Int):List Value:=
 [QH (b.getD 0 0),QH (b.getD 1 0),QH (b.getD 2 0),.slice c d e,QH (a.getD 0 0),QH (a.getD 1 0),QH (a.getD 2 0),QH (a.getD 3 0),QH (a.getD 4 0),QH (a.getD 5 0)]
def Me(b:s.length=i)(f:i<3):(rz s d a c b3).toArray.setIfInBounds i (QH e)=(rz (s++[e]) d a c b3).toArray:=by
 match s,b with
 |[],b=>subst b;rfl
 |[_],b=>subst b;rfl
 |[_,_],b=>subst b;rfl
 |_::_::_::_,b=>simp at b;omega
def Mf(b:b3.length=i)(f:i<6):(rz s d a c b3).toArray.setIfInBounds (4+i) (QH e)=(rz s d a c (b3++[e])).toArray:=by
 match b3,b with
 |[],b=>subst b;rfl
 |[_],b=>subst b;rfl
 |[_,_],b=>subst b;rfl
 |[_,_,_],b=>subst b;rfl
 |[_,_,_,_],b=>subst b;rfl
 |[_,_,_,_,_],b=>subst b;rfl
 |_::_::_::_::_::_::_,b=>simp at b;omega
def mu(a:Nat)(b:g_):aY (a+1) b=((aY a b).1++[(fu (aY a b).2).1],(fu (aY a b).2).2):=rfl
def PE{D:Nat->Prop}(g:Row gq 1 b D d a v)(hD:∀e,D e->e<b.heap.size):
  Calls ZQ 257 #[.slice d a c] b (Ok λa8 l=>∃a' n' c' x,a8= .tuple #[.agg (aE (iQ v).1 a' n' c').toArray,QH (iQ v).2]/\aV aP 3 x l a' n' c' (iQ v).1.aK/\ai b l/\∀e,x e->b.heap.size<=e):=by
 refine Jl (PA.mk λw1 k1 s1 g1=>PC.ok (FM (g.af k1) (λe h=>by have:=hD e h;omega)) ?_);rintro _ j ⟨k,a0,rfl,T,k2,hP⟩;refine⟨_,rfl,PA.mk λw3 U s3 g3=>PA.mk λy z s4 g4=>?_⟩;have c2:=T.self;have h4:w1.heap.size<=k/\k<j.heap.size:=⟨hP k c2,T.aF k c2⟩
 have V:=T.aF;have h2:=k2.size;have d8:=z.get g3 id;have d9:=z.get (U.get (k2.get g1 id) id) id;have e0:=(T.af U).af z;have b1:ai b y:=((k1.then k2).then U).then z;refine⟨λm C l=>∃f:Nat,C=f/\f<=3/\m=3-f/\l.heap[j.heap.size]? =some (.cells (rz (aY f ⟨v,0,0⟩).1 none 0 0 []).toArray 59 (0,0))/\fF l k a0 (aY f ⟨v,0,0⟩).2/\aj (λe=>e=j.heap.size\/e=k) y l,
  ⟨_,0,rfl,oM,rfl,d8,e0,aj.refl _⟩,?_⟩
 rintro m C _ w5 ⟨f,rfl,hj,rfl,c3,c4,k5⟩;have c5:(g_.mk v 0 0).Fit:=⟨Qj _,.inl rfl⟩
 refine al.dec (λO=>?_) (λO=>?_)
 ·have c6:f<3:=oM
  have g5:=k5.get g4 oM;have a1:w5.cell? ⟨w3.heap.size,0+Int.toNat (f:Int),none⟩=some (.pointer (some ⟨j.heap.size,f,none⟩)):=by
   rw[Qx,Xz]
   match f,c6 with
   |0,_=>exact ae g5 rfl
   |1,_=>exact ae g5 rfl
   |2,_=>exact ae g5 rfl
  refine⟨_,_,rfl,oM,oM,_,a1,PC.ok (HE c4) ?_⟩;rintro _ w6 ⟨rfl,P,Q⟩;have W:=Q.get c3 oM;refine⟨_,rfl,_,_,rfl,PS.mk W (by simp[rz];omega) λX E s7 g7=>⟨_,oM,f+1,an oM,oM,rfl,?_,?_,?_⟩⟩
  ·rw[g7,Me (c5.ints f).2.2.1 c6];rfl
  ·rw[mu]
   exact P.keep E λe g s=>by have:=V e g;omega
  ·exact k5.then ((Q.mono λ_ _ h=>.inr h).then (E.mono λ_ _ h=>.inl h))
 obtain rfl:f=3:=oM
 obtain⟨c7,e1,h5,_⟩:=c5.ints 3;refine PC.ok (JD c4) ?_;rintro _ w6 ⟨rfl,P,Q⟩;have W:=Q.get c3 oM;have e3:aj (λe=>e=j.heap.size\/e=k) y w6:=k5.then (Q.mono λ_ _ h=>.inr h);generalize hL:(aY 3 ⟨v,0,0⟩).1=I at W e1;generalize hR:(aY 3 ⟨v,0,0⟩).2=a5 at P c7;obtain⟨Y,e4,c8,_⟩:=c7.count (m:=64) oM;generalize hC:(bM 64 a5).1=J at e4 c8;generalize e5:(bM 64 a5).2=F at P Y;refine⟨_,rfl,λm C l=>∃f:Nat,C=f/\f<=J.toNat/\m=J.toNat-f/\∃t p u x,l.heap[j.heap.size]? =some (.cells (rz I t p u []).toArray 59 (0,0))/\fF l k a0 (aY f F).2/\
   aV aP 3 x l t p u (aY f F).1/\(∀e,x e->y.heap.size<=e)/\aj (λe=>e=j.heap.size\/e=k) y l,
  ⟨_,0,rfl,oM,rfl,none,0,0,λ_=>False,W,P,aV.nil w6,λ_ h=>h.elim,e3⟩,?_⟩
 rintro m C _ X ⟨f,rfl,hj,rfl,t,p,u,x,b8,b9,c0,A,E⟩;have h6:=E.size;refine al.dec (λO=>?_) (λO=>?_)
 ·intro K c9
  have q:ai X K:=c9.keep;have s8:K.heap.size=X.heap.size:=by rw[c9.heap]
  refine⟨λe=>e≠j.heap.size,sM,t,p,u,ae (q.get b8 id) rfl,PC.ok (HE (b9.af q)) ?_⟩;rintro _ L ⟨rfl,Z,w⟩;have b2:=(Y.ints f).2.2.1;refine⟨_,rfl,w.mono (λe _ h=>oM),?_⟩;have M:aV aP 3 x L t p u (aY f F).1:=(c0.af q).keep w λe g s=>by have:=A e g;have:=z.size;omega
  refine PA.mk λB o h7 e6=>⟨o.keep,?_⟩
  have a2:=M.af o;have b0:=w.get (q.get b8 id) oM;have n:=o.get b0 id;have e7:=((Y.ints f).1.int).2.1;have d0:Row aP 8 B (·=L.heap.size) (ZZ L.heap.size) 1 [(fu (aY f F).2).1]:=Cy (f:=(0,0)) [(fu (aY f F).2).1] e6 (by simpa using e7) sM;refine lH a2 tN d0 (λe s=>⟨oM,?_⟩) (by rw[b2];unfold aQ;simp;omega) (by rw[b2];unfold maxLen;simp;omega) λd1 e8 R h8 d2 a3 h3 b3=>?_
  ·intro e2
   have:=M.aF e (M.self e e2);omega
  refine⟨_,_,_,rfl,PS.mk (a3.get n ?_) (by simp[rz]) λh9 c1 i0 e9=>⟨_,oM,f+1,an oM,oM,rfl,d1,p+1,e8,λe=>aI d1=some e,?_,?_,?_,?_,?_⟩⟩
  ·intro s;have:=A _ (M.self _ s);have:=z.size;omega
  ·rw[e9];rfl
  ·rw[mu]
   refine((Z.af o).keep a3 λe g s=>?_).keep c1 λe g s=>?_
   ·have:=A _ (M.self _ s);have:=V e g;have:=z.size;have:=U.size;omega
   ·have:=V e g;omega
  ·have f2:=d2.alone
   rw[mu];refine f2.keep c1 λe g s=>?_;rcases b3 e g with h|h
   ·have:=A e h;have:=z.size;omega
   ·have:=o.size;have:=w.size;have:=q.size;omega
  ·intro e g
   rcases b3 e g with h|h
   ·exact A e h
   ·have:=o.size;have:=w.size;have:=q.size;omega
  ·have ka:aj (λe=>e=j.heap.size\/e=k) y B:=((E.af q).then (w.mono λ_ _ h=>.inr h)).af o
   have kb:aj (λe=>e=j.heap.size\/e=k) y R:=ka.new a3 λe g=>.inr (A e (M.self e g));exact kb.then (c1.mono λ_ _ h=>.inl h)
 obtain rfl:f=J.toNat:=oM
 obtain⟨d3,f3,f4,_⟩:=Y.ints J.toNat;generalize f5:(aY J.toNat F).1=S at c0 f3 f4;generalize f6:(aY J.toNat F).2=r at b9 d3;refine PA.mk λK q s8 g8=>?_;have g0:=q.get b8 id;have g2:aj (λe=>e=j.heap.size\/e=k) y K:=E.af q;have g6:=c0.af q;have i1:=z.size;refine⟨λm C l=>∃f:Nat,C=f/\f<=6/\m=6-f/\l.heap[j.heap.size]? =some (.cells (rz I t p u (aY f r).1).toArray 59 (0,0))/\fF l k a0 (aY f r).2/\aj (λe=>e=j.heap.size\/e=k) K l,
  ⟨_,0,rfl,oM,rfl,g0,b9.af q,aj.refl _⟩,?_⟩
 rintro m C _ L ⟨f,rfl,hj,rfl,b0,Z,w⟩;refine al.dec (λO=>?_) (λO=>?_)
 ·have d4:f<6:=oM
  have N:=w.get g8 (by have:=E.size;omega);have a1:L.cell? ⟨X.heap.size,0+Int.toNat (f:Int),none⟩=some (.pointer (some ⟨j.heap.size,4+f,none⟩)):=by
   rw[Qx,Xz]
   match f,d4 with
   |0,_=>exact ae N rfl
   |1,_=>exact ae N rfl
   |2,_=>exact ae N rfl
   |3,_=>exact ae N rfl
   |4,_=>exact ae N rfl
   |5,_=>exact ae N rfl
  refine⟨_,_,rfl,oM,oM,_,a1,PC.ok (HE Z) ?_⟩;rintro _ B ⟨rfl,d5,o⟩;have n:=o.get b0 oM;refine⟨_,rfl,_,_,rfl,PS.mk n (by simp[rz];omega) λR H d6 i=>⟨_,oM,f+1,an oM,oM,rfl,?_,?_,?_⟩⟩
  ·rw[i,Mf (d3.ints f).2.2.1 d4];rfl
  ·rw[mu]
   exact d5.keep H λe g s=>by have:=V e g;omega
  ·exact w.then ((o.mono λ_ _ h=>.inr h).then (H.mono λ_ _ h=>.inl h))
 obtain rfl:f=6:=oM
 have a6:jF ⟨v,0,0⟩=(⟨I.getD 0 0,I.getD 1 0,I.getD 2 0,S,(aY 6 r).1.getD 0 0,(aY 6 r).1.getD 1 0,(aY 6 r).1.getD 2 0,(aY 6 r).1.getD 3 0,(aY 6 r).1.getD 4 0,(aY 6 r).1.getD 5 0⟩,(aY 6 r).2):=by
  unfold jF;simp only[hL,hR,hC,e5,f5,f6]
 refine PC.ok (Oa Z) ?_;rintro _ B ⟨rfl,d7⟩;have o:ai L B:=d7.keep;have b4:aj (λe=>e=j.heap.size\/e=k) K B:=w.af o;have b5:aj (λe=>e=j.heap.size\/e=k) y B:=g2.then b4;have b6:=b5.get d9 oM;have n:=o.get b0 id;have a2:aV aP 3 x B t p u S:=g6.keep b4 λe g s=>by have:=A e g;omega
 have b7:ai b B:=b1.new b5 λe g=>.inr oM;have a7:h_ (jF ⟨v,0,0⟩).2=h_ (aY 6 r).2:=by rw[a6]
 refine⟨_,rfl,al.dw (λh0=>?_) (λhe=>?_)⟩
 ·have a4:iQ v=(Cz,h_ (aY 6 r).2):=by unfold iQ;rw[a7,if_pos h0]
  rw[a4];refine storeAll [QH 0,QH 0,QH 0,.slice none 0 0,QH 0,QH 0,QH 0,QH 0,QH 0,QH 0] b6 rfl λR H d6 i=>?_;refine⟨0,0,0,none,0,0,0,0,0,0,0,0,ae i rfl,ae i rfl,ae i rfl,ae i rfl,ae i rfl,ae i rfl,ae i rfl,ae i rfl,ae i rfl,ae i rfl,Ok.mk ⟨none,0,0,λ_=>False,rfl,aV.nil R,?_,λ_ h=>h.elim⟩⟩;exact b7.new H λe g=>.inr oM
 ·have a4:iQ v=((jF ⟨v,0,0⟩).1,0):=by unfold iQ;rw[a7,if_neg (by simpa using he)]
  rw[a4,a6];refine⟨_,_,_,t,p,u,_,_,_,_,_,_,ae n rfl,ae n rfl,ae n rfl,ae n rfl,ae n rfl,ae n rfl,ae n rfl,ae n rfl,ae n rfl,ae n rfl,?_⟩;refine storeAll (rz I t p u (aY 6 r).1) b6 rfl λR H d6 i=>?_;refine⟨_,_,_,t,p,u,_,_,_,_,_,_,ae i rfl,ae i rfl,ae i rfl,ae i rfl,ae i rfl,ae i rfl,ae i rfl,ae i rfl,ae i rfl,ae i rfl,Ok.mk ⟨t,p,u,x,rfl,a2.keep H λe g s=>?_,?_,λe g=>?_⟩⟩
  ·have:=A e g;omega
  ·exact b7.new H λe g=>.inr oM
  ·have:=A e g;have:=b1.size;omega
end Go.Proofs.YtfchlbaidamodaaGreatDoor
namespace Go.ax
open Go
def fq(a:List UInt8):Nat:=a.foldl (λb c=>b*10+(c.toNat-48)) 0
def gQ(a:UInt8):Bool:=decide (48<=a.toNat/\a.toNat<=57)
def fY(a:List UInt8)(b:UInt8):fq (a++[b])=fq a*10+(b.toNat-48):=by simp[fq,List.foldl_append]
variable{e m:Int}{v:List UInt8}{a:Nat}{j:Type}
def xz{a b:List j}(c:a≠[]):(a++b).head? =a.head? :=by
 cases a with
 |nil=>exact absurd rfl c
 |cons d a=>rfl
def vA:∀(a:Nat),fq (Lib.decDigits a)=a/\(Lib.decDigits a).all gQ=true/\Lib.decDigits a≠[]/\(a≠0->(Lib.decDigits a).head? ≠some 48):=by
 intro a
 induction a using Nat.strongRecOn with
 |_ a e=>
  rw[Lib.decDigits]
  by_cases c:a<10
  ·rw[dif_pos c]
   have b:(UInt8.ofNat (48+a)).toNat=48+a:=by rw[UInt8.toNat_ofNat'];omega
   refine⟨by simp[fq];omega,by simp[gQ,b];omega,sM,λj=>?_⟩;intro d;simp only[List.head?_cons,Q1]at d;have:=congrArg UInt8.toNat d;rw[b]at this;simp at this;omega
  ·rw[dif_neg c]
   obtain⟨f,g,h,i⟩:=e (a/10) oM;have b:(UInt8.ofNat (48+a % 10)).toNat=48+a % 10:=by rw[UInt8.toNat_ofNat'];omega
   refine⟨by rw[fY,f,b];omega,?_,sM,λ_=>?_⟩
   ·rw[List.all_append,g];simp[gQ,b];omega
   ·rw[xz h];exact i oM
def DP:∀{a:List UInt8},a.all gQ=true->a≠[]->a.head? ≠some 48->0<fq a:=by
 intro a;generalize b:a.length=g
 induction g generalizing a with
 |zero=>intro _ h;exact absurd (QW b) h
 |succ g i=>
  intro c k d;rcases List.eq_nil_or_concat a with rfl|⟨a,e,rfl⟩
  ·cases b
  rw[List.concat_eq_append]at b c d⊢;rw[List.all_append,QK]at c;have l:48<=e.toNat/\e.toNat<=57:=by simpa[gQ]using c.2
  rw[fY]
  by_cases f:a=[]
  ·subst f
   have:e.toNat≠48:=λj=>d (by simp;exact UInt8.toNat_inj.1 j);omega
  ·have:=i (by simpa using b) c.1 f (by rwa [xz f]at d)
   omega
def Ff:∀{a:List UInt8},a.all gQ=true->a≠[]->(a.head? ≠some 48\/a.length=1)->Lib.decDigits (fq a)=a:=by
 intro a;generalize g:a.length=h
 induction h generalizing a with
 |zero=>intro _ k;exact absurd (QW g) k
 |succ h l=>
  intro c p d;rcases List.eq_nil_or_concat a with rfl|⟨a,b,rfl⟩
  ·cases g
  rw[List.concat_eq_append]at g c d⊢;rw[List.all_append,QK]at c;have q:48<=b.toNat/\b.toNat<=57:=by simpa[gQ]using c.2
  have j:UInt8.ofNat (48+(b.toNat-48))=b:=UInt8.toNat_inj.1 (by rw[UInt8.toNat_ofNat'];omega);rw[fY]
  by_cases e:a=[]
  ·subst e
   have m:fq []*10+(b.toNat-48)=b.toNat-48:=by simp[fq]
   rw[m,Lib.decDigits,dif_pos oM,j]
   rfl
  ·have r:0<a.length:=List.length_pos_iff.2 e
   have i:a.length=h:=by simpa using g
   have f:a.head? ≠some 48:=by
    rcases d with d|d
    ·rwa [xz e]at d
    ·omega
   have s:=DP c.1 e f;rw[Lib.decDigits,dif_neg oM];have n:(fq a*10+(b.toNat-48))/10=fq a:=oM
   have o:(fq a*10+(b.toNat-48)) % 10=b.toNat-48:=oM
   rw[n,o,j,l i c.1 e (.inl f)]
def yR:∀(a:List UInt8),a.all gQ=true->fq a<10 ^ a.length:=by
 intro a;generalize b:a.length=d
 induction d generalizing a with
 |zero=>intro _;have:=QW b;subst this;decide
 |succ d f=>
  intro c;rcases List.eq_nil_or_concat a with rfl|⟨a,e,rfl⟩
  ·cases b
  rw[List.concat_eq_append]at b c⊢;rw[List.all_append,QK]at c;have g:48<=e.toNat/\e.toNat<=57:=by simpa[gQ]using c.2
  have:=f a (by simpa using b) c.1;rw[fY,Nat.pow_succ];omega
def pC{u:Nat}(i:u<1000000000000):(Lib.decDigits u).length<=12:=by
 rw[Lib.decDigits_length];apply Nat.le_of_not_lt;intro l
 by_cases j:u=0
 ·subst j;rw[Lib.nDigits_small oM]at l;omega
 ·have t:=Lib.lt_pow_nDigits u
  obtain⟨m,n,o,p⟩:=vA u;have k:=Lib.decDigits_length u;have key:∀(a:List UInt8),a.all gQ=true->a≠[]->a.head? ≠some 48->10 ^(a.length-1)<=fq a:=by
   intro a;generalize c:a.length=b
   induction b generalizing a with
   |zero=>intro _ i;exact absurd (QW c) i
   |succ b q=>
    intro d v f;rcases List.eq_nil_or_concat a with rfl|⟨a,w,rfl⟩
    ·cases c
    rw[List.concat_eq_append]at c d f⊢;have g:=d;rw[List.all_append,QK]at d;rw[fY]
    by_cases e:a=[]
    ·subst e
     have:=DP g sM f;rw[fY]at this;have r:b=0:=by simpa using c.symm
     subst r;simp at this⊢;omega
    ·have h:a.length=b:=by simpa using c
     have k:0<a.length:=List.length_pos_iff.2 e;have:=q a h d.1 e (by rwa [xz e]at f);have s:b+1-1=(b-1)+1:=oM
     rw[s,Nat.pow_succ];omega
  have:=key _ n o (p j);rw[m,k]at this;have x:10 ^ 12<=10 ^(Lib.nDigits u-1):=Nat.pow_le_pow_right oM oM;have:(10:Nat) ^ 12=1000000000000:=dC
  omega
def dV:List UInt8:=[115,101,103,46]
def aB(a:Int):List UInt8:=if a<0\/1000000000000<=a then []else dV++Lib.decDigits a.toNat
def jw(a:List UInt8):Option Nat:=if a.take 4=dV/\5<=a.length/\a.length<=16/\(a.drop 4).all gQ=true/\((a.drop 4).head? ≠some 48\/a.length=5)then some (fq (a.drop 4))else none
def mI(a:0<=e)(b:e<1000000000000):aB e=dV++Lib.decDigits e.toNat:=by unfold aB;rw[if_neg oM]
def pq(b:0<=e)(c:e<1000000000000):jw (aB e)=some e.toNat:=by
 rw[mI b c];obtain⟨d,f,g,h⟩:=vA e.toNat;have l:=pC (u:=e.toNat) oM;have m:0<(Lib.decDigits e.toNat).length:=List.length_pos_iff.2 g;have i:(dV++Lib.decDigits e.toNat).drop 4=Lib.decDigits e.toNat:=rfl;have j:(dV++Lib.decDigits e.toNat).take 4=dV:=rfl;have k:(dV++Lib.decDigits e.toNat).length=4+(Lib.decDigits e.toNat).length:=by rw[QX];rfl
 unfold jw;rw[i,j,k,d,if_pos];refine⟨rfl,oM,oM,f,?_⟩
 by_cases a:e.toNat=0
 ·right
  rw[a,Lib.decDigits_length,Lib.nDigits_small oM]
 ·exact .inl (h a)
def Dh(b:jw v=some a):aB a=v/\a<1000000000000:=by
 unfold jw at b;split at b
 ·rename_i f
  obtain⟨g,j,k,c,h⟩:=f;simp only[Q1]at b;have d:(v.drop 4).length=v.length-4:=sM
  have l:=yR _ c;have m:10 ^(v.drop 4).length<=10 ^ 12:=Nat.pow_le_pow_right oM oM;have n:(10:Nat) ^ 12=1000000000000:=dC
  have i:a<1000000000000:=oM
  refine⟨?_,i⟩;rw[mI oM oM,<-b,Qx,Ff c (λe=>by rw[e]at d;simp at d;omega) (h.imp id λe=>oM),<-g,List.take_append_drop]
 ·cases b
def Ka(d:0<=e)(b:e<1000000000000)(a:aB m=aB e):m=e:=by
 have c:=pq d b
 by_cases f:m<0\/1000000000000<=m
 ·unfold aB at a
  rw[if_pos f,if_neg oM]at a;exact absurd (congrArg List.length a) (by simp[dV])
 ·rw[<-a,pq oM oM]at c
  simp only[Q1]at c;omega
def DO(a:Int):(aB a).length<=16:=by
 unfold aB;split
 ·simp
 ·have:=pC (u:=a.toNat) oM
  rw[QX];show 4+_<=16;omega
def Iu(d:v.all gQ=true)(e:v.length<=12):jw (dV++v)=if aB (fq v)=dV++v then some (fq v)else none:=by
 have g:=yR _ d;have h:10 ^ v.length<=10 ^ 12:=Nat.pow_le_pow_right oM e;have i:(10:Nat) ^ 12=1000000000000:=dC
 split
 ·rename_i b
  rw[<-b,pq oM oM,Qx]
 ·rename_i b
  cases a:jw (dV++v)with
  |none=>rfl
  |some f=>
   obtain⟨c,j⟩:=Dh a;have:f=fq v:=by
    unfold jw at a;split at a
    ·exact(XJ a).symm
    ·cases a
   rw[this]at c;exact absurd c b
def KO(b:v.all gQ=false):jw (dV++v)=none:=by
 unfold jw;rw[if_neg];rintro⟨_,_,_,a,_⟩;have:(dV++v).drop 4=v:=rfl;rw[this,b]at a
 cases a
def QI(a:v.take 4≠dV):jw v=none:=by
 unfold jw;rw[if_neg λb=>a b.1]
def NA(a:16<v.length):jw v=none:=by
 unfold jw;rw[if_neg λb=>oM]
end Go.ax
namespace Go.Proofs.YtfchlbaidamodaaGreatDoor
open Go.ax
def pick(b a:Int):Int:=if a<1 then 0 else if b.tmod a<0 then b.tmod a+a else b.tmod a
def vm{k n:Int}(a:1<=n):0<=pick k n/\pick k n<n:=by
 unfold pick;rw[if_neg oM];have b:k.tmod n<n:=Int.tmod_lt_of_pos k oM;have c: -n<k.tmod n:=Int.lt_tmod_of_pos k oM;split<;>omega
variable{e m:Int}{b:World}
def CN(k:aN m):Calls ZQ 9 #[QH e,QH m] b (Ok λh i=>h= QH (pick e m)/\b=i):=by
 refine LH (al.mk (λc=>?_) (λc=>?_))
 ·have c:=XV c
  exact Ok.mk ⟨by simp[pick,c],rfl⟩
 ·have c:=Xy c
  have d:=vm (k:=e) (n:=m) oM;have j:∀f g,(do eqGuard .rem 3 f g (QH e) (QH m);binOp .rem 3 (QH e) (QH m):Sem Value).run ZQ b= .ok (QH (e.tmod m)) b:=λf g=>by
   have:m≠0:=oM
   simp[eqGuard,binOp,Op.intDiv,this]
  refine aH.mk (j _ _) ⟨_,rfl,al.mk (λa=>?_) (λa=>?_)⟩
  ·have a:=XV a
   unfold pick at d;rw[if_neg oM,if_pos a]at d;refine Ok.mk ⟨?_,rfl⟩;rw[wrap_i64 (by unfold aN at*;omega)];unfold pick;rw[if_neg oM,if_pos a]
  ·have a:=Xy a
   refine Ok.mk ⟨?_,rfl⟩;unfold pick;rw[if_neg oM,if_neg a]
end Go.Proofs.YtfchlbaidamodaaGreatDoor
namespace Go.Proofs
open Go.RowKit Go.Maps Go.Sort Go.Shelf
def Tryz.VP(d:Nat):AnyZ.SortsIn Tryz.prog Tryz.zb Fence.wide d:=
 ⟨λaI b a e c f g h=>callsIn_wide.2 (AnyM.slices_Sort_string Tryz.Ve aI b a e c f g h),
  λi a c=>callsIn_wide.2 (AnyM.slices_Sort_string_none Tryz.Ve i a c)⟩
end Go.Proofs
namespace Go.Proofs.YtfchlbaidamodaaGreatDoor
open Go.ax
open Go.RowKit Go.Maps Go.Sort Go.Shelf
def Zq(a b:ByteArray):Bool:=decide (a.data.toList<=b.data.toList)
def tP(a:List ByteArray):List ByteArray:=a.mergeSort Zq
def Pw(b:List ByteArray):(tP b).map (λa=>a.data.toList)=(b.map λa=>a.data.toList).mergeSort (λa c=>decide (a<=c)):=
 List.map_mergeSort (λd _ e _=>rfl)
def bT.Vf{c:Type}{a:c->Value}{d:c->Prop}{hl h1}{f:World}{D:Nat->Prop}:∀{b:List c},(∀x∈b,d x)->bT (flat 1 (λx=>[a x]) d hl h1) f D b (b.map a)
 |[],_=>rfl
 |x::b,e=>⟨[a x],b.map a,rfl,⟨rfl,e x (QV ..)⟩,bT.Vf λg h=>e g (QJ _ h)⟩
variable{f9:List (ByteArray×Value)}{a c:Nat}{F:Nat×Nat}{g:TypeId}{b:World}
def AK(k:cx b a Value.string f9)(J:∀i∈f9,i.1.size<=maxLen)(z:f9.length*16<=aQ)(A:b.heap[c]? =some (.cells #[.map (some a)] g F)):
  Calls ZQ 246 #[.func (.func 296) #[] #[ZX c]] b
   (Ok (qD Px 9 b (tP (f9.map (·.1))))):=by
 unfold aQ at z;obtain⟨f,j,K,q,L,M⟩:=k.at';have N:Tryz.prog.underlying 9=some .string:=Tryz.underlying9;have O:f.size=f9.length:=by have:=congrArg List.length q;simpa using this
 have B:∀e∈f.toList,∃d:ByteArray,e.key=Value.string d/\d.size<=maxLen:=λe h=>by
  have P:(e.key,e.val)∈f9.map (λi=>(Value.string i.1,i.2)):=by rw[<-q];exact Xk.2 ⟨e,h,rfl⟩
  obtain⟨i,Q,R⟩:=Xk.1 P;exact⟨i.1,(Prod.mk.inj R).1.symm,J i Q⟩
 have C:∀e∈f.toList,∀d:ByteArray,e.key=Value.string d->d.size<=maxLen->WideElems.rd ZQ 9 (λ_=>some ((.nil:DataW Unit),[])) e=some (.string d.data.toList,.nil):=λe _ d m o=>by
  simp[WideElems.rd,m,Go.WideMaps.keyOf_string_mk N o]
 have S:WideElems.Fit ZQ 9 (λ_=>some ((.nil:DataW Unit),[])) f j:=by
  refine⟨by unfold maxLen;omega,⟨L,M,?_⟩,λe h=>?_⟩
  ·have:f.toList.map (·.key)=(f9.map (·.1)).map Value.string:=by
    have:=congrArg (List.map (λt:Value×Value=>t.1)) q;simpa[Function.comp_def]using this
   rw[this];exact List.pairwise_map.2 (List.Pairwise.imp (λT=>by simpa using T) k.tidy)
  ·obtain⟨d,m,o⟩:=B e h
   exact⟨_,C e h d m o⟩
 have U:b.ownsMap ZQ 9 (λ_=>some ((.nil:DataW Unit),[])) a f.size (.map ((f.toList.map (WideElems.rg ZQ 9 (λ_=>some ((.nil:DataW Unit),[])))).foldr DataW.insert [])):=
  ⟨f,j,K,S,Q4 _,rfl⟩
 have E:Maps.size (.map ((f.toList.map (WideElems.rg ZQ 9 (λ_=>some ((.nil:DataW Unit),[])))).foldr DataW.insert []))=f9.length:=by
  show(List.foldr DataW.insert [] _).length=_;rw[(WideShapes.sorted_perm _).length_eq];simp[O]
 have V:(strKeys (.map ((f.toList.map (WideElems.rg ZQ 9 (λ_=>some ((.nil:DataW Unit),[])))).foldr DataW.insert []))).Perm ((f9.map (·.1)).map λd=>d.data.toList):=by
  refine(List.Perm.map (λi:Lit×DataW Unit=>Go.strOf i.1) (WideShapes.sorted_perm _)).trans ?_;have:(f.toList.map (WideElems.rg ZQ 9 (λ_=>some ((.nil:DataW Unit),[])))).map (λi=>Go.strOf i.1)=(f9.map (·.1)).map λd=>d.data.toList:=by
   have W:f.toList.map (λe=>match e.key with| .string d=>d.data.toList|_=>[])=(f9.map (·.1)).map λd=>d.data.toList:=by
    have:=congrArg (List.map (λt:Value×Value=>match t.1 with| .string d=>d.data.toList|_=>[])) q;simpa[Function.comp_def]using this
   rw[<-W,List.map_map];refine List.map_congr_left λe h=>?_;obtain⟨d,m,o⟩:=B e h;simp[WideElems.rg,C e h d m o,m,Go.strOf]
  rw[this]
 have X:SeqGives Fence.wide 1 ZQ 296 #[ZX c] encStr (λn=>n.Perm (strKeys _)) (Maps.size _) b:=
  AnyZ.keys_gives (ρ:=Tryz.FI) {Tryz.tQ with} Fence.wide _ trivial rfl oM c a f.size _ b (aC A) (ae A rfl) U
 have Y:=AnyZ.sorted_in Tryz.T_ Fence.wide 4 trivial trivial trivial trivial rfl oM (Tryz.VP _) (enters_of Tryz.func295 kR rfl) 296 #[ZX c] trivial
  (enters_of Tryz.func296 kR rfl) _ _ (by rw[E];unfold maxLen;omega) (by rw[E];exact z) b X
 refine((callsIn_wide (n:=4)).1 Y).mono ?_;rintro e Z ⟨a0,n,rfl,hS,r,a7,u⟩;have H:n.mergeSort (λd v=>decide (d<=v))=(tP (f9.map (·.1))).map λd=>d.data.toList:=by rw[Pw];exact Go.mergeSort_of_perm (hS.trans V)
 have a8:n.length=(tP (f9.map (·.1))).length:=by
  have:=congrArg List.length H;simpa using this
 have a1:((n.mergeSort (λd v=>decide (d<=v))).map encStr)=(tP (f9.map (·.1))).map Value.string:=by
  rw[H,List.map_map];refine List.map_congr_left λd _=>?_;show Value.string ⟨d.data.toList.toArray⟩=Value.string d;simp
 rw[a1]at r;have hv:∃p w,a0= .slice p n.length w:=by
  rcases r.2 with⟨rfl,h0⟩|⟨g',x,y,rfl,_⟩
  ·exact⟨none,0,by rw[h0]⟩
  ·exact⟨_,_,rfl⟩
 obtain⟨p,w,rfl⟩:=hv;have I:∀l,aI p=some l->b.heap.size<=l/\l<Z.heap.size:=λl s=>by
  rcases r.2 with⟨h,_⟩|⟨g',x,y,h,a9,a6,_⟩
  ·simp only[XX]at h
   rw[h.1]at s;cases s
  ·simp only[XX]at h
   rw[h.1]at s;simp only[aI,Q1]at s;have:=aC a6;omega
 exact Ok.mk ⟨p,_,w,λl=>aI p=some l,rfl,⟨⟨_,λ_=>False,⟨ownsRow_base_a r (Qj _)⟩,bT.Vf (λ_ _=>trivial),λ_ k=>k.elim⟩,λ_ k=>k,λl k=>(I l k).2⟩,aj.IQ u,λl k=>(I l k).1⟩
end Go.Proofs.YtfchlbaidamodaaGreatDoor
namespace Go.Proofs.YtfchlbaidamodaaGreatDoor
open Go.ax
def kS:jh ZQ 9 Value.string:=YL Tryz.underlying9
def mF:nu ZQ 140 9 204 (.pointer none):=⟨kR,kR⟩
def uF:Tryz.prog.underlying 204=some (.pointer 206):=kR
def ak.room(D:ak):Int:=(D.most:Int)-D.used
def ak.op(D:ak)(a:ak->Int×ak):Int×ak:=if D.dies then(15,D.gone)else a D.di
def ak.Cr(b:ByteArray)(a:ak->bQ->Int×ak)(D:ak):Int×ak:=match ay D.files b with
 |none=>(14,D)
 |some c=>a D c
def ak.create(D:ak)(a:ByteArray):Int×ak:=D.op λD=>if dv a then(if(ay D.files a).isSome then(16,D)else if 64<=D.files.length then(12,D)else(0,D.eJ a ⟨[],0,false⟩))else(1,D)
def ak.append(D:ak)(a:ByteArray)(b:List UInt8):Int×ak:=D.op (ak.Cr a λD c=>if(b.length:Int)>D.room then(12,D)else(0,D.eJ a {c with bytes:=c.bytes++b}))
def ak.sync(D:ak)(a:ByteArray):Int×ak:=D.op (ak.Cr a λD b=>(0,D.eJ a (b.cut b.bytes.length)))
def ak.nT(D:ak)(k:ByteArray)(a:Int):Int×ak:=D.op (ak.Cr k λD b=>(0,D.eJ k (b.cut a)))
def ak.delete(D:ak)(a:ByteArray):Int×ak:=D.op (ak.Cr a λD b=>(0,D.wB a))
def ak.rename(D:ak)(a b:ByteArray):Int×ak:=D.op (ak.Cr a λD c=>if dv b then(0,(D.wB a).eJ b {c with jk:=true})else(1,D))
def ak.read(D:ak)(k:ByteArray):List UInt8×Int:=if D.dead then([],15)else match ay D.files k with
 |none=>([],14)
 |some a=>(a.bytes,0)
def ak.list(D:ak):List ByteArray:=tP (D.files.map (·.1))
def eP(D:ak):D.di.files=D.files:=by unfold ak.di;split<;>rfl
def wD(d:World)(e:Nat)(f:Nat->Prop)(a:Int×ak)(g:Value)(b:World):Prop:=∃c,g= QH a.1/\aW b e c a.2/\de f d c b
variable{X r:Array Value}{x:ByteArray}{e:Int}{d5:Int×ak}{a2:List (ByteArray×nW)}{a c:Nat}{f:Nat->Prop}{j:Type}{b k:World}{y:World->Prop}{W:bQ}
def wD.same{D:ak}(c:aW k a f D)(d:aj f b k):wD b a f (e,D) (QH e) k:=⟨f,rfl,c,d,λ_ c=>.inl c⟩
def N_{D:ak}(d:aW b a f D){g:FuncId}{body:ak->Int×ak}(e:enters ZQ g=true)(h:D.dies=false->∀c,aW c a f D.di->aj f b c->Calls ZQ g (r++ #[]++X) c (Ok (wD c a f (body D.di)))):
  Calls ZQ 241 #[ZX a,.func (.func g) r X] b (Ok (wD b a f (D.op body))):=by
 refine Calls.ok (Mb d (e:=(body D.di).1) (D':=(body D.di).2) e λi c j k o=>h i c j k) ?_;rintro p q ⟨l,m,s,n⟩;refine⟨l,?_,?_,n⟩
 ·rw[m];unfold ak.op;split<;>rfl
 ·unfold ak.op;split<;>simp_all
def wF{D:ak}(h:aW b a f D){k:ByteArray}{g:FuncId}{body:ak->bQ->Int×ak}(E:enters ZQ g=true)(F:D.dies=false->∀i m n c,fE i a f D.di m n->ay n k=some c->aj f b i->Calls ZQ g (r++ #[ptr c.q]++X) i (Ok (wD i a f (body D.di c.f)))):
  Calls ZQ 171 #[ZX a,.string k,.func (.func g) r X] b (Ok (wD b a f (D.op (ak.Cr k body)))):=by
 refine AB (PA.mk λi H V A=>PA.mk λI s W J=>PA.mk λB o Y K=>?_);have t:ai b B:=(H.af s).af o;have L:=h.af t;have u:=h.aF;refine⟨_,ae (o.get (s.get A id) id) rfl,PC.ok (N_ L (body:=ak.Cr k body) kR λM d C p=>?_) ?_⟩
 ·obtain⟨m,n,j⟩:=C.open
  have N:d.heap[b.heap.size]? =_:=p.get (o.get (s.get A id) id) (λl=>by have:=u _ l;omega);have O:d.heap[i.heap.size]? =_:=p.get (o.get J id) (λl=>by have:=u _ l;omega);have P:d.heap[I.heap.size]? =_:=p.get K (λl=>by have:=u _ l;omega);refine wh ⟨_,ae N rfl,a,0,rfl,some m,ae j.head rfl,_,ae O rfl,?_⟩;rcases j.box k with⟨v,w⟩|⟨c,Q,Z,v,w⟩
  ·refine⟨none,λx=>?_,λq e=>?_⟩
   ·have:=eY mF kS (j.map.keep (aj.drewN (S:=λ_=>False) d x) id) k false
    simpa[w]using this
   ·refine Bo uF ⟨_,rfl,al.ff rfl (Ok.mk ?_)⟩
    have:ak.Cr k body D.di=(14,D.di):=by unfold ak.Cr;rw[v]
    rw[this];exact wD.same (C.af e.keep) e.keep
  ·refine⟨ZZ c.q,λx=>?_,λq e=>?_⟩
   ·have:=eY mF kS (j.map.keep (aj.drewN (S:=λ_=>False) d x) id) k false
    simpa[w,ptr]using this
   ·refine Bo uF ⟨_,rfl,al.tt rfl ⟨_,ae (e.keep (S:=λ_=>False)|>.get P id) rfl,g,r,X,rfl,E,?_⟩⟩
    have R:aj f b q:=((t.keep (S:=f)).then p).af e.keep;refine PC.ok (F M q m n c (j.af e.keep) Q R) ?_;rintro S w6 ⟨y,rfl,T,z⟩;have:ak.Cr k body D.di=body D.di c.f:=by unfold ak.Cr;rw[v]
    refine⟨_,rfl,Ok.mk ?_⟩;rw[this];exact⟨y,rfl,T,(de.mk e.keep λ_ h=>.inl h:de f d f q).trans z⟩
 ·rintro S d ⟨y,rfl,U,z⟩
  exact⟨_,rfl,Ok.mk ⟨y,rfl,U,(de.mk t.keep λ_ h=>.inl h:de f b f B).trans z⟩⟩
def ak.Ok.set{D:ak}(a:D.Ok){c:ByteArray}{e b:bQ}(d:ay D.files c=some e)(f:b.bytes.length+D.used<=e.bytes.length+D.most)(g:b.synced<=b.bytes.length):(D.eJ c b).Ok:=by
 have h:=cF d;refine⟨a.most,?_,?_,a.tidy.aJ _ _,?_,?_,a.Cs,a.Ct⟩
 ·have:=rq (l:=D.files) (k:=c) (f:=b)
  rw[d]at this;simp only[Option.map_some,Option.getD_some]at this;show eL (aJ D.files c b)<=D.most;unfold ak.used at f;omega
 ·show(aJ D.files c b).length<=64
  rw[yw (by rw[d];rfl)];exact a.many
 ·intro x j
  rcases gu a.tidy j with rfl|⟨j,_⟩
  ·show dv c=true
   exact a.names _ h
  ·exact a.names x j
 ·intro x j
  rcases gu a.tidy j with rfl|⟨j,_⟩
  ·exact g
  ·exact a.TD x j
def ak.Ok.del{D:ak}(a:D.Ok)(b:ByteArray):(D.wB b).Ok:=by
 have f:=Jz D.files b;have g:=ze (l:=D.files) (k:=b);have e:=a.fits;have h:=a.many;unfold ak.used at e;exact⟨a.most,by show eL (bV D.files b)<=D.most;omega,by show(bV D.files b).length<=64;omega,a.tidy.bV b,λc d=>a.names c (gN d),λc d=>a.TD c (gN d),a.Cs,a.Ct⟩
def ak.Ok.put{D:ak}(a:D.Ok)(d:dv x=true)(e:W.bytes.length+D.used<=D.most)(g:D.files.length<64)(f:W.synced<=W.bytes.length):(D.eJ x W).Ok:=by
 refine⟨a.most,?_,?_,a.tidy.aJ _ _,?_,?_,a.Cs,a.Ct⟩
 ·have:=rq (l:=D.files) (k:=x) (f:=W)
  show eL (aJ D.files x W)<=D.most;unfold ak.used at e;omega
 ·have:=yU D.files x W
  show(aJ D.files x W).length<=64;omega
 ·intro c b
  rcases gu a.tidy b with rfl|⟨b,_⟩
  ·exact d
  ·exact a.names c b
 ·intro c b
  rcases gu a.tidy b with rfl|⟨b,_⟩
  ·exact f
  ·exact a.TD c b
def yx{l:List (ByteArray×j)}{k:ByteArray}(a:(ay l k).isSome=true):(bV l k).length+1=l.length:=by
 induction l with
 |nil=>simp[ay]at a
 |cons b l c=>
  obtain⟨e,f⟩:=b;simp only[bV,ay]at a⊢;split
  ·rfl
  ·rename_i d
   rw[if_neg d]at a;simp[c a]
def yy(b:List (ByteArray×j))(c:ByteArray)(e d:j):aJ (aJ b c e) c d=aJ b c d:=by
 induction b with
 |nil=>simp[aJ]
 |cons f b g=>
  obtain⟨h,i⟩:=f;simp only[aJ]
  by_cases a:(c==h)=true
  ·rw[if_pos a,if_pos a];simp[aJ]
  ·rw[if_neg a,if_neg a];simp[aJ,a,g]
def eX.Ub{G:Nat->Prop}(d:eX b a G W)(e:∀c,eX c a G {W with jk:=true}->aj (·=a) b c->c.heap.size=b.heap.size->y c):PS b ⟨a,0+2,none⟩ (.bool true) y:=by
 obtain⟨k,l,f,m,n,o,p,h⟩:=d.body;refine PS.mk n sM λq i r s=>e q ⟨⟨k,l,f,m,s,o.keep i (λj g t=>h (t▸g)),p,h⟩,d.self,λj g=>by have:=d.aF j g;omega⟩ i r
def ak.Ok.cut{D:ak}(b:D.Ok)(c:ay D.files x=some W)(a:Int):(D.eJ x (W.cut a)).Ok:=by
 have d:=Ua W a;have e:=nV a W.bytes.length;have f:=b.fits;exact b.set c oM (by rw[d];exact Q4 _)
def fE.get{D:ak}(e:fE b a f D c a2){d:nW}(g:ay a2 x=some d):ay D.files x=some d.f:=by
 rw[e.files];have:=Cv (λd:nW=>d.f) a2 x;rw[g]at this;exact this
def mr(d:Value)(e:World)(h:ai k b)(c:wD b a f d5 d e):∃g:Int,d= QH g/\Ok (wD k a f d5) (.returned (QH g)) e:=by
 obtain⟨i,rfl,j,l⟩:=c;exact⟨_,rfl,Ok.mk ⟨i,rfl,j,(de.mk h.keep λ_ c=>.inl c:de f k f b).trans l⟩⟩
def FK{D:ak}(d:aW b a f D){k:ByteArray}:
  Calls ZQ 158 #[ZX a,.string k] b (Ok (wD b a f (D.sync k))):=by
 refine vW (PC.ok (wF d (k:=k) (g:=225) (body:=λD g=>(0,D.eJ k (g.cut g.bytes.length))) kR λw x y z l c e A=>?_) λm n d=>mr m n (aj.refl b) d);have h:=c.each.each _ (cF e);have i:=c.get e;obtain⟨B,C,o,E,p,q,F,H⟩:=h.body;have r:=q.len dC;refine tr ⟨l.q,0,rfl,_,_,_,ae p rfl,PC.ok (Cw h (c.ok.len (cF i))) ?_⟩;rintro _ I ⟨J,rfl,j,s⟩;rw[r]at j;obtain⟨t,u,v⟩:=c.fr e j s (c.ok.cut i _);exact⟨rfl,Ok.mk ⟨t,rfl,u.at,v⟩⟩
def RT{D:ak}(d:aW b a f D):
  Calls ZQ 188 #[ZX a,.string x,QH e] b (Ok (wD b a f (D.nT x e))):=by
 refine yf (PA.mk λv h w j=>PC.ok (wF (d.af h) (k:=x) (g:=258) (body:=λD k=>(0,D.eJ x (k.cut e))) kR λy z A B C c g l=>?_) λm n d=>mr m n h d);have o:=c.each.each _ (cF g);have i:=c.get g;refine uP ⟨_,ae (l.get j λp=>by have:=d.aF _ p;omega) rfl,PC.ok (Cw o (c.ok.len (cF i))) ?_⟩;rintro _ E ⟨F,rfl,q,r⟩;obtain⟨s,t,u⟩:=c.fr g q r (c.ok.cut i _);exact⟨rfl,Ok.mk ⟨s,rfl,t.at,u⟩⟩
def zf{D:ak}(c:aW b a f D):
  Calls ZQ 119 #[ZX a,.string x] b (Ok (wD b a f (D.delete x))):=by
 refine th (PA.mk λy i z j=>PA.mk λA g B k=>⟨_,ae (g.get j id) rfl,_,ae k rfl,PC.ok (wF ((c.af i).af g) (k:=x) (g:=172) (body:=λD C=>(0,D.wB x)) kR λE o p F H q I l=>?_) λr s c=>mr r s (i.af g) c⟩);have t:=l.get (g.get j id) λd=>by have:=c.aF _ d;omega
 have u:=l.get k λd=>by have:=c.aF _ d;omega
 refine qg λv m=>?_;have e:=q.af m.keep;have h:ai o v:=m.keep;refine⟨_,ae (h.get t id) rfl,a,0,rfl,some p,ae e.head rfl,x,ae (h.get u id) rfl,Mc mF kS e.map λJ w n K=>Ok.mk ⟨f,rfl,(e.drop w n (e.ok.del x)).at,?_,λ_ c=>.inl c⟩⟩;exact h.keep.then (n.mono λL _ d=>by rw[d];exact e.Fr)
def JA{D:ak}(e:aW b a f D){k h:ByteArray}:
  Calls ZQ 198 #[ZX a,.string k,.string h] b (Ok (wD b a f (D.rename k h))):=by
 refine tq (PA.mk λw1 K s1 L=>PA.mk λX p s2 M=>PA.mk λw3 i s3 Y=>⟨_,ae (i.get (p.get L id) id) rfl,_,ae (i.get M id) rfl,PC.ok (wF (((e.af K).af p).af i) (k:=k) (g:=261)
  (body:=λD Z=>if dv h then(0,(D.wB k).eJ h {Z with jk:=true})else(1,D)) kR λhd t u b1 x g N v=>?_) λa0 w' e=>mr a0 w' ((K.af p).af i) e⟩)
 have j:=v.get (i.get (p.get L id) id) λc=>by have:=e.aF _ c;omega
 have w:=v.get (i.get M id) λc=>by have:=e.aF _ c;omega
 have O:=v.get Y λc=>by have:=e.aF _ c;omega
 have y:=cF N;have z:=g.get N;refine qk ⟨_,ae O rfl,PC.ok wG ?_⟩;rintro _ w5 ⟨rfl,A⟩;refine⟨_,rfl,al.not (al.mk (λq=>λw6 a6=>?_) (λq=>Ok.mk ?_))⟩
 ·have l:ai t w6:=A.af a6.keep
  have r:=g.af l;refine⟨_,ae (l.get j id) rfl,a,0,rfl,some u,ae r.head rfl,_,ae (l.get w id) rfl,Mc mF kS r.map λw7 a7 B b8=>λC E=>?_⟩;have a8:=r.drop a7 B (r.ok.del k);have F:=a8.af E.keep;have P:∀d,d=u->f d:=λd c=>by rw[c];exact g.Fr
  have H:aj f t C:=(l.keep.then (B.mono λd _ c=>P d c)).af E.keep;have Q:∀{d:Nat} {R:Obj},t.heap[d]? =some R->b.heap.size<=d->C.heap[d]? =some R:=λc b9=>H.get c λhF=>by have:=e.aF _ hF;omega
  have m:=g.Jy _ y;have S:eX C (nW.q x) (nW.G x) (nW.f x):=(((g.each.each _ y).keep l λ_ _ e=>e).keep B λd c=>(m d c).2.2).keep E.keep λ_ _ e=>e;have a1:b.heap.size<=X.heap.size:=oM
  refine⟨_,ae (Q j (Q4 _)) rfl,a,0,rfl,some u,ae F.head rfl,h,ae (Q O a1) rfl,jz mF kS F.map λw9 a9 I c0=>⟨x.q,0,rfl,?_⟩⟩;have b0:=g.ok.fits;have T:=ze (l:=D.di.files) (k:=k);rw[z]at T;simp only[Option.map_some,Option.getD_some]at T;have b6:=yx (l:=D.di.files) (k:=k) (by rw[z];rfl);have b7:=g.ok.many;have a2:=g.ok.TD _ (cF z);have U:∀n:bQ,n.bytes=x.f.bytes->n.synced=x.f.synced->((D.di.wB k).eJ h n).Ok:=λn j w=>(g.ok.del k).put q (by
   show n.bytes.length+eL (bV D.di.files k)<=D.di.most;unfold ak.used at b0;rw[j];omega) (by show(bV D.di.files k).length<64;omega) (by rw[j,w];exact a2)
  have b2:=F.put (q:=x.q) (G':=x.G) a9 I S (λa3 hy c2 d c b3=>by
   obtain⟨b4,b5⟩:=HC g.each.tidy hy;exact g.each.apart _ y a3 b4 (λJ=>b5 J.symm) d c b3) (λd c=>(m d c).2) (U x.f rfl rfl)
  have V:eX w9 x.q x.G x.f:=S.keep I λd c=>(m d c).2.2;refine V.Ub λc3 a4 a5 c1=>Ok.mk ?_;obtain⟨F',o,W⟩:=b2.fr (k:=h) (x:=⟨x.q,x.G,x.f⟩) (by rw[bu];simp) a4 ⟨a5.mono λd _ c=>c▸V.self,λ_ e=>.inl e⟩ (by
   unfold ak.eJ;simp only[yy];exact U {x.f with jk:=true} rfl rfl)
  rw[q,if_pos rfl];have J:((D.di.wB k).eJ h x.f).eJ h {x.f with jk:=true}=(D.di.wB k).eJ h {x.f with jk:=true}:=by
   unfold ak.eJ;simp only[yy]
  refine⟨F',rfl,by rw[<-J];exact o.at,⟨?_,λd c=>?_⟩⟩
  ·exact(H.then (I.mono λd _ c=>P d c)).then (W.keep.mono λd _ c=>c.elim id λe=>(m d e).1)
  ·rcases W.new d c with(s|s)|s
   ·exact .inl s
   ·exact .inl (m d s).1
   ·have:=H.size;exact .inr oM
 ·rw[q];exact⟨f,rfl,(g.af A).at,A.keep,λ_ e=>.inl e⟩
def zh{D:ak}(c:aW b a f D):
  Calls ZQ 169 #[ZX a,.string x] b (Ok (wD b a f (D.create x))):=by
 refine tl (PA.mk λw1 I s1 J=>PA.mk λw2 o s2 O=>⟨_,ae (o.get J id) rfl,PC.ok (N_ ((c.af I).af o) (g:=242)
  (body:=λD=>if dv x then(if(ay D.files x).isSome then(16,D)else if 64<=D.files.length then(12,D)else(0,D.eJ x ⟨[],0,false⟩))else(1,D)) kR λhd s P t=>?_) λQ R c=>mr Q R (I.af o) c⟩)
 obtain⟨h,u,d⟩:=P.open;have v:=t.get (o.get J id) λe=>by have:=c.aF _ e;omega
 have w:=t.get O λe=>by have:=c.aF _ e;omega
 refine qj ⟨_,ae w rfl,PC.ok wG ?_⟩;rintro _ y ⟨rfl,i⟩;refine⟨_,rfl,al.not (al.mk (λj=>?_) (λj=>Ok.mk ?_))⟩
 ·have z:=d.af i
  have K:∀m,(Instr.lookup 140 (.map (some h)) (.string x) false).run ZQ (y.drewN m)= .ok ((ay (u.map eQ) x).getD (.pointer none)) (y.drewN m):=λm=>by
   have:=eY mF kS (z.map.keep (aj.drewN (S:=λ_=>False) y m) id) x false;simpa using this
  have S:∃k:Option Addr,(ay (u.map eQ) x).getD (.pointer none)= .pointer k/\k.isSome=(ay D.di.files x).isSome:=by
   rcases d.box x with⟨A,B⟩|⟨T,b0,bm,A,B⟩
   ·exact⟨none,by rw[B];rfl,by rw[A];rfl⟩
   ·exact⟨ZZ T.q,by rw[B];rfl,by rw[A];rfl⟩
  obtain⟨k,U,C⟩:=S;rw[U]at K;refine⟨_,ae (i.get v id) rfl,a,0,rfl,some h,ae z.head rfl,x,ae (i.get w id) rfl,k,K,k.isSome,λm=>qM uF _ _ k _,λV E=>al.mk (λW=>Ok.mk ?_) (λL=>?_)⟩
  ·rw[j,if_pos rfl,if_pos (by rw[<-C];exact W)]
   exact⟨f,rfl,(z.af E.keep).at,ai.keep (i.af E.keep),λ_ c=>.inl c⟩
  ·have p:ai s V:=i.af E.keep
   have F:=d.af p;have a8:(u.map eQ).length=D.di.files.length:=by rw[d.files];simp
   refine⟨_,ae (p.get v id) rfl,a,0,rfl,some h,ae F.head rfl,VQ mF F.map ⟨_,rfl,al.dec (λa9=>Ok.mk ?_) (λb3=>λn X=>?_)⟩⟩
   ·rw[j,if_pos rfl,if_neg (by rw[<-C,L];simp),if_pos oM]
    exact⟨f,rfl,F.at,p.keep,λ_ c=>.inl c⟩
   ·have l:ai s n:=p.af X.keep
    have q:=d.af l;have b4:=d.map.lt;have b5:=aC d.head;have a7:b.heap.size<=s.heap.size:=by have:=t.size;omega
    have M:∀g,b.heap.size<=g->g≠h:=λg e a2=>by have:=c.aF h d.Fr;omega
    refine⟨(·=h),M _ (Q4 _),_,ae (l.get v id) rfl,a,0,rfl,d.pr,some h,ae q.head rfl,M _ oM,x,ae (l.get w id) rfl,PA.mk λN r s7 Y=>⟨r.keep,jz mF kS (q.af r).map λw8 Z H b6=>⟨H,Ok.mk ?_⟩⟩⟩;have a3:=q.af r;have a0:eX N n.heap.size (·=n.heap.size) ⟨[],0,false⟩:=⟨⟨none,0,0,λ_=>False,Y,aV.nil N,λ_ c=>c.elim,λc=>c⟩,rfl,λg e=>oM⟩
    have a4:(D.di.eJ x ⟨[],0,false⟩).Ok:=d.ok.put j (by have:=d.ok.fits;simpa using this) oM (Q4 _);have a5:=a3.put (q:=n.heap.size) (G':=(·=n.heap.size)) Z H a0 (λa1 hy _ g e a6=>by have:=(q.each.each a1 hy).aF g a6;omega) (λg e=>by have:=l.size;omega) a4;rw[j,if_pos rfl,if_neg (by rw[<-C,L];simp),if_neg oM];refine⟨_,rfl,a5.at,⟨(l.keep.af r).then (H.mono λg _ e=>by rw[e];exact d.Fr),λg e=>e.imp id λc=>by have:=l.size;omega⟩⟩
 ·rw[j]
  exact⟨f,rfl,(d.af i).at,i.keep,λ_ c=>.inl c⟩
end Go.Proofs.YtfchlbaidamodaaGreatDoor

import Derived.Test.YtblabbpipmodgaaGreatDoorKp19
import Derived.Test.YtblabbpipmodgaaGreatDoorYpQue
import Derived.Test.YtblabbpipmodgaaGreatDoorKp22
set_option maxHeartbeats 4000000
set_option linter.all false
set_option maxRecDepth 20000
namespace Go.Proofs.YtblabbpipmodgaaGreatDoor
open Go.aw
def rU(c:cD)(d:Int)(e:cD)(g i j:Int):Nat->bI->bI->List c_->Option (bI×bI)
 |0,P,a,h=>if h=[]then some (P,a)else none
 |f+1,P,a,[]=>some (P,a)
 |f+1,P,a,b::h=>
  if b.oN=j then
   (if(bA e g a b).2.1≠0 then none else rU c d e g i j f P (bA e g a b).2.2 (h++(bA e g a b).1))
  else if b.oN≠i then none else
   (if(bA c d P b).2.1≠0 then none else rU c d e g i j f (bA c d P b).2.2 a (h++(bA c d P b).1))
abbrev lj(P:FQ):List Value:=bS P.m P.va P.vn P.vc P.ea P.en P.ec
def fh(a:World)(d:XN)(e:Nat)(b:ZH)(f g:Nat)(h:List c_):Prop:=
 ∃(c:List FQ) (D:XN),Kb a 60 5 b f g (c.flatMap lj)/\c.map (·.m)=h/\(∀P∈c,P.In a D)/\(∀P,D P->P<a.heap.size/\aI b≠some P/\¬d P/\e<=P)/\∀P,aI b=some P->¬d P/\e<=P
def Lx{a:World}{D:XN}:∀{P:List FQ} {cs:List Value},bJ Rz a D P cs->cs=P.flatMap lj
 |[],_,c=>by cases c;rfl
 |b::P,_,⟨g,h,d,⟨e,_⟩,f⟩=>by rw[d,e,Lx f];rfl
def Tm:∀(b:List FQ),∀P∈b.flatMap lj,P.oneCell'=true:=λb P a=>by
 obtain⟨c,-,a⟩:=List.mem_flatMap.1 a;exact Rz.one (D:=λ_=>False) (w:=default) ⟨rfl,trivial⟩ P a
def Tn(P:List FQ):(P.flatMap lj).length=P.length*5:=by
 induction P with
 |nil=>rfl
 |cons b P a=>rw[List.flatMap_cons,QX,a,Xq];show 5+_=_;omega
variable{f:XN}{c5:bI}{e7:c_}
section
variable {w w' w0 w1 w2:World} {p q:Nat} {F G Z:XN} {cA cB:cD} {sA sB i k:Int} {A B:bI} {a:ZH} {n c:Nat} {ms:List c_} {v:Value}
def eM.xf(h:eM w Z ms v w'){Y:XN}(f:∀P,Y P->Z P\/P<w.heap.size):∃a n c,v= .slice a n c/\fh w' Y w.heap.size a n c ms:=by
 obtain⟨a,n,c,i,D,rfl,j,k,l,d,g⟩:=h;obtain⟨cs,p,m,o,q⟩:=j.body;have:=Lx o;subst this;refine⟨a,n,c,rfl,i,D,m.Wj,k,l,λP b=>⟨(d P b).2.1,(d P b).2.2.1,λe=>?_,(d P b).1⟩,λP b=>⟨λe=>?_,(g P b).1⟩⟩
 ·have:=d P b
  exact(f P e).elim this.2.2.2 oM
 ·have:=g P b
  exact(f P e).elim this.2 oM
def fh.len{P:Nat}(b:fh w Z P a n c ms):n=ms.length:=by
 obtain⟨f,D,d,e,-⟩:=b;have:=d.len;rw[Tn]at this;rw[<-e,Q8];omega
def fh.lt{b:Nat}(d:fh w Z b a n c ms):∀P,aI a=some P->P<w.heap.size:=by
 obtain⟨f,D,e,-⟩:=d;exact e.lt
def fh.af{h:Nat}(k:fh w Z h a n c ms)(d:ak f w w')(i:∀P,f P->Z P):fh w' Z h a n c ms:=by
 obtain⟨l,D,m,o,p,e,j⟩:=k;exact⟨l,D,m.af d λP b g=>(j P b).1 (i P g),o,λP b=>(p P b).af d λP b g=>(e P b).2.2.1 (i P g),λP b=>⟨Qk (e P b).1 d.size,(e P b).2⟩,j⟩
def fh.less{g h:Nat}(m:fh w Z g a n c ms)(i:∀P,f P->Z P\/w.heap.size<=P)(j:h<=g):fh w f h a n c ms:=by
 obtain⟨o,D,k,p,q,d,l⟩:=m;exact⟨o,D,k,p,q,λP b=>⟨(d P b).1,(d P b).2.1,λe=>(i P e).elim (d P b).2.2.1 (by have:=(d P b).1;omega),Xx j (d P b).2.2.2⟩,λP b=>⟨λe=>(i P e).elim (l P b).1 (by have:=k.lt P b;omega),Xx j (l P b).2⟩⟩
def fh.pop{l:Nat}(m:fh w Z l a n c (e7::ms)):∃f g o p t q r u D,a=some ⟨f,g,none⟩/\(∀d,d<5->w.cell? ⟨f,g+d,none⟩=(bS e7 o p t q r u)[d]?)/\Row aM 8 w D o p e7.vec/\Row h_ 96 w D q r e7.events/\(∀b,D b->b<w.heap.size/\¬Z b)/\fh w Z l (cx a 1 c 5) (n-1) (c-1) ms:=by
 have v:=m.len;obtain⟨e,D,h,x,i,k,y⟩:=m;rw[Xq]at v
 match e,h,x,i with
 |b::e,h,j,i=>
  simp only[QY,List.cons.injEq]at j;obtain⟨rfl,j⟩:=j;obtain⟨f,g,rfl,z⟩:=h.cell oM;have s:=i b (QV ..);refine⟨f,g,b.va,b.vn,b.vc,b.ea,b.en,b.ec,D,rfl,λd A=>?_,s.1,s.2,λb P=>⟨(k b P).1,(k b P).2.2.1⟩,e,D,?_,j,λB C=>i B (QJ _ C),λb P=>by rw[HE];exact k b P,λb P=>by rw[HE]at P;exact y b P⟩
  ·rw[z d oM,List.flatMap_cons,XW (show d<5 from A)]
  ·have:=h.tail oM
   rw[List.flatMap_cons,show(lj b++e.flatMap lj).drop 5=e.flatMap lj from List.drop_left' rfl]at this;exact this
def fh.app{q L:TypeId}{r g:Nat}(z:fh w Z r a n c ms)(M:iH XP q 60 5 72){s:ZH}{e t:Nat}{u:List c_}(A:fh w Z g s e t u)(B:∀b,aI a=some b->b<g)(a4:r<=g)(a5:g<=w.heap.size)(hl:ms.length+u.length<=100000)(N:∀b,Z b->b<w.heap.size){C O:XR}(v:∀h i w',fh w' Z r h (n+e) i (ms++u)->ak (λj=>aI a=some j) w w'->C (.slice h (n+e) i) w'):
  aH XP (Builtin.append_ #[q,q] L #[.slice a n c,.slice s e t]) w C O:=by
 have hn:=z.len;have hm:=A.len;obtain⟨Q,D,R,S,T,E,F⟩:=z;obtain⟨x,U,k,V,W,I,r5⟩:=A;have X:s=none->e=0/\t=0:=λd=>by
  rcases k.body with⟨_,Y,h3⟩|⟨a0,a1,a2,f,_⟩
  ·exact⟨Y,h3⟩
  ·rw[d]at f;cases f
 refine R.app M (news:=x.flatMap lj) k.len X (λp hp j a6 J=>?_) (Tm x) ba (by unfold maxLen;omega) λh i w' y l m=>?_
 ·subst hp
  have a3:j<e*5:=by
   rw[<-k.len];exact(Qv.1 J).1
  obtain⟨a0,a1,f,hc⟩:=k.cell oM
  cases f
  rw[Addr.add_lit];exact(hc j a3).trans J
 ·rw[<-List.flatMap_append]at y
  have a7:=l.size;have a8:=y.lt;refine v h i w' ⟨Q++x,λb=>D b\/U b,y,by rw[Q3,S,V],λb P=>?_,λb P=>?_,λb P=>⟨λK=>?_,?_⟩⟩ l
  ·rcases Q6.1 P with P|P
   ·exact((T b P).af l λb P=>(E b P).2.1).mono λb P=>.inl P
   ·exact((W b P).af l λb P f=>by have:=B b f;have:=(I b P).2.2.2;omega).mono λb P=>.inr P
  ·rcases P with P|P
   ·have o:=E b P
    refine⟨oM,λd=>?_,o.2.2.1,oM⟩;rcases m with H|H
    ·rw[H]at d;exact o.2.1 d
    ·rw[H]at d;cases d;omega
   ·have o:=I b P
    refine⟨oM,λd=>?_,o.2.2.1,oM⟩;rcases m with H|H
    ·rw[H]at d;have:=B b d;omega
    ·rw[H]at d;cases d;omega
  ·rcases m with H|H
   ·rw[H]at P;exact(F b P).1 K
   ·rw[H]at P;cases P;have:=N _ K;omega
  ·rcases m with H|H
   ·rw[H]at P;exact(F b P).2
   ·rw[H]at P;cases P;omega
structure ij (w0 w:World) (p q:Nat) (F G:XN) (cA:cD) (sA:Int) (cB:cD) (sB:Int) (A B:bI):Prop where
 a:bE w p F cA sA A
 b:bE w q G cB sB B
 ea:Env w0 w F
 eb:Env w0 w G
 apart:∀b,F b->¬G b
def ij.ah(P:ij w0 w p q F G cA sA cB sB A B)(a:ai w w'):ij w0 w' p q F G cA sA cB sB A B:=⟨P.a.ah a,P.b.ah a,P.ea.ah a,P.eb.ah a,P.apart⟩
def ij.af(a:ij w0 w p q F G cA sA cB sB A B)(c:ak f w w')(d:∀P,F P\/G P->¬f P)(e:∀P,f P->w0.heap.size<=P):ij w0 w' p q F G cA sA cB sB A B:=
 ⟨a.a.af c λP b=>d P (.inl b),a.b.af c λP b=>d P (.inr b),⟨a.ea.mW,a.ea.laid,a.ea.gr.new c λP b=>.inr (e P b),a.ea.aF⟩,⟨a.eb.mW,a.eb.laid,a.eb.gr.new c λP b=>.inr (e P b),a.eb.aF⟩,a.apart⟩
def ij.Ly(P:ij w0 w p q F G cA sA cB sB A B)(g:bE w' p f cA sA c5)(c:cK F w f w'):ij w0 w' p q f G cA sA cB sB c5 B:=
 ⟨g,P.b.af c.af λa b d=>P.apart a d b,P.ea.Bz c,⟨P.eb.mW,P.eb.laid,P.ea.gr.new c.af λa b=>.inr (P.ea.aF a b),P.eb.aF⟩,λa b e=>(c.new a b).elim (λd=>P.apart a d e) λh=>by have:=P.b.aF a e;omega⟩
def ij.swap(P:ij w0 w p q F G cA sA cB sB A B):ij w0 w q p G F cB sB cA sA B A:=⟨P.b,P.a,P.eb,P.ea,λa b c=>P.apart a c b⟩
def ij.Ss(P:ij w0 w p q F G cA sA cB sB A B)(a:bE w' q f cB sB c5)(b:cK G w f w'):ij w0 w' p q F f cA sA cB sB A c5:=(P.swap.Ly a b).swap
abbrev kL(F G:XN):XN:=λP=>F P\/G P
end
def Wr:iH XP 56 60 5 72:=⟨kR,kR,dC⟩
def Kc(a:au)(P:Int)(b:c_)(c:Int):(lk a P b c).length<=2:=by
 unfold lk;split
 ·simp
 dsimp only;split<;>split<;>simp[List.isEmpty]
def xg(a:cD)(P:Int)(b:bI)(c:c_):(bA a P b c).1.length<=2:=by
 unfold bA;split
 ·simp
 dsimp only;split
 ·simp
 split
 ·simp
 split
 ·unfold jq
  dsimp only;split
  ·simp
  split<;>simp
 split
 ·exact Kc _ _ _ _
 split<;>simp
section
variable {w w' w0 w1 w2:World} {p q:Nat} {F G Z:XN} {cA cB:cD} {sA sB i k:Int} {A B:bI}
def Kd(a:ij w0 w p q F G cA sA cB sB A B)(hk:aN k){most:Nat}(g0:most<=1000)(hA:A.S.l.length<=17000000)(hB:B.S.l.length<=17000000)(h1:(gj cA sA A k 0).1.length=1){H I:bI}(hm:rU cA sA cB sB i k most (gj cA sA A k 0).2 B (gj cA sA A k 0).1=some (H,I)):
  ZG 31 #[XL p,XL q,XH i,XH k,XH (most:Int)] w (Ok λJ w'=>J= .bool true/\∃O Q,ij w0 w' p q O Q cA sA cB sB H I/\cK (kL F G) w (kL O Q) w'):=by
 refine Et (PC.ok (uz a.a hk) ?_);rintro _ w7 ⟨F7,T,d7,b6⟩;have d8:=a.Ly d7 b6;have c8:=a.a.aF;have b8:=a.b.aF;obtain⟨g1,n7,g2,rfl,U⟩:=T.xf (Y:=kL F7 G) λP a=>a.imp id λh=>b8 P h;have g3:=U.len;have d9:=Ay cA sA A k 0;refine⟨_,_,_,rfl,an.dI (λe0=>Zz oM e0) (λ_=>?_)⟩;refine⟨λb7 fa V o b1 w'=>∃(c:Nat) (e f:XN) (j l:bI) (d:List c_),b1=c/\c<=most/\b7=most-c/\ij w0 w' p q e f cA sA cB sB j l/\cK (kL F G) w (kL e f) w'/\fh w' (kL e f) w.heap.size fa V o d/\d.length<=1+2*c/\
   rU cA sA cB sB i k (most-c) j l d=some (H,I)/\j.S.l.length<=17000300+300*c/\l.S.l.length<=17000300+300*c,
  ⟨_,0,F7,G,_,B,_,rfl,Qj _,rfl,d8,b6.left,U.less (λP a=>.inl a) (Q4 _),oM,hm,by rcases d9.evs with h|h<;>omega,oM⟩,?_⟩
 rintro b7 fa V o _ _ b9 ⟨c,e,f,j,l,d,rfl,hj,rfl,W,a4,X,b2,b,g4,g5⟩;have K:=X.len;have c8:=W.a.aF;have b8:=W.b.aF;have z:∀{w':World} {e f:XN} {Y:Nat} {d:List c_} {j l:bI},ij w0 w' p q e f cA sA cB sB j l->cK (kL F G) w (kL e f) w'->Y=d.length->d=[]->some (j,l)=some (H,I)->
   Ok (λJ w'=>J= .bool true/\∃O Q,ij w0 w' p q O Q cA sA cB sB H I/\cK (kL F G) w (kL O Q) w') (.returned (.bool ((Y:Int)==0))) w':=λa e1 hn c0 Z=>by
  cases Z
  subst c0;subst hn;exact Ok.mk ⟨rfl,_,_,a,e1⟩
 refine an.dec (λc9=>?_) (λg6=>?_)
 rotate_left
 ·have:most-c=0:=oM
  rw[this]at b;unfold rU at b;split at b
  ·rename_i c0;exact z W a4 K c0 b
  ·cases b
 obtain⟨a5,r⟩:∃a5,most-c=a5+1:=⟨most-c-1,oM⟩
 rw[r]at b
 match d,X,K,b2,b with
 |[],X,K,b2,b=>exact an.dec (λh0=>by simp at K;omega) (λ_=>z W a4 K rfl b)
 |x::d,X,K,b2,b=>
  rw[Xq]at K b2;refine an.dec (λ_=>?_) (λh0=>oM);obtain⟨a0,a1,va,vn,vc,ea,en,ec,D,rfl,hc,hv,Z,hD,e2⟩:=X.pop;refine⟨a0,a1,rfl,oM,oM,bC (es:=bS x va vn vc ea en ec) (k:=5) (iS _ _ _ _ _ _ _) rfl (λb1 ht=>hc b1 ht) (PA.mk λg7 e3 g8 e4=>aB (iS x va vn vc ea en ec) e4 rfl λL e5 g9 c1=>⟨oM,oM,?_⟩)⟩;have R:ai b9 L:=e3.new e5 λP a=>.inr (by have a:P=b9.heap.size:=a;omega);have h6:=R.size;have m:=W.ah R;have a7:fh L (kL e f) w.heap.size (cx (some ⟨a0,a1,none⟩) 1 o 5) (V-1) (o-1) d:=e2.af R λP a=>a.elim;have c2:cK (kL F G) w (kL e f) L:=⟨a4.af.ah R,a4.new⟩
  have e6:=a.ea.gr.size;have a2:∀{n:World} {C E:XN} {a6 a8:bI} {ms:List c_} {J:Value},ij w0 n p q C E cA sA cB sB a6 a8->cK (kL e f) L (kL C E) n->(∃s t u,J= .slice s t u/\fh n (kL C E) L.heap.size s t u ms)->ms.length<=2->
    rU cA sA cB sB i k a5 a6 a8 (d++ms)=some (H,I)->a6.S.l.length<=17000300+300*(c+1)->a8.S.l.length<=17000300+300*(c+1)->n.heap[b9.heap.size]? =some (.cells (bS x va vn vc ea en ec).toArray 60 (0,0))/\∃s t u,J= .slice s t u/\
    ∀ε:XR,aH XP (Builtin.append_ #[56,56] 56 #[.slice (cx (some ⟨a0,a1,none⟩) (Int.toNat 1) o 5) (V-Int.toNat 1) (o-Int.toNat 1),.slice s t u]) n (λe7 b3=>∃(c7:ZH) (Y d0:Nat),e7= .slice c7 Y d0/\∃d1,d1<most-c/\
     ∃(M:Nat) (e f:XN) (j l:bI) (d:List c_),IntKind.wrap .i64 ((c:Int)+1)=M/\M<=most/\d1=most-M/\ij w0 b3 p q e f cA sA cB sB j l/\cK (kL F G) w (kL e f) b3/\fh b3 (kL e f) w.heap.size c7 Y d0 d/\d.length<=1+2*M/\
      rU cA sA cB sB i k (most-M) j l d=some (H,I)/\j.S.l.length<=17000300+300*M/\l.S.l.length<=17000300+300*M) ε:=λ{n C E a6 a8 ms J} c3 v e8 h7 e9 f0 f1=>by
   refine⟨v.af.get c1 λh=>h.elim (λh=>by have:=c8 _ h;omega) λh=>by have:=b8 _ h;omega,?_⟩;obtain⟨s,t,u,rfl,f2⟩:=e8;refine⟨s,t,u,rfl,λε=>?_⟩;have d2:fh n (kL C E) w.heap.size (cx (some ⟨a0,a1,none⟩) 1 o 5) (V-1) (o-1) d:=by
    obtain⟨f3,D,h1,h2,h3,h4,h5⟩:=a7.af v.af λP a=>a;have c9:=a7.lt;obtain⟨L',D',f4,f5,f6,S,c4⟩:=a7;refine⟨L',D',f4.af v.af λP a=>(c4 P a).1,f5,λP a=>(f6 P a).af v.af λP a=>(S P a).2.2.1,λP a=>⟨Qk (S P a).1 v.af.size,(S P a).2.1,λhz=>(v.new P hz).elim (S P a).2.2.1 (by have:=(S P a).1;omega),(S P a).2.2.2⟩,λP a=>⟨λhz=>(v.new P hz).elim (c4 P a).1 (by have:=c9 P a;omega),(c4 P a).2⟩⟩
   have f7:∀P,kL C E P->P<n.heap.size:=λP a=>a.elim (c3.a.aF P) (c3.b.aF P);refine fh.app d2 Wr f2 (λP a=>a7.lt P a) c2.af.size v.af.size oM f7 λa' c' b3 f8 d3=>?_;have b4:∀P,aI (cx (some ⟨a0,a1,none⟩) 1 o 5)=some P->¬kL C E P/\w.heap.size<=P:=λP a=>by
    obtain⟨f3,D,h1,h2,h3,h4,h5⟩:=d2;exact h5 P a
   have f9:=c3.af d3 (λP a Z=>(b4 P Z).1 a) λP a=>by have:=(b4 P a).2;have:=e6;omega
   refine⟨_,_,_,rfl,_,oM,c+1,C,E,a6,a8,d++ms,aq oM,oM,rfl,f9,?_,f8,by rw[QX];omega,by rw[show most-(c+1)=a5 by omega];exact e9,f0,f1⟩;have h9:=c2.trans v;exact⟨h9.af.new d3 λP a=>.inr (b4 P a).2,h9.new⟩
  refine⟨λd4 w'=>d4=(if x.oN=k then XM q else XM p)/\L=w',⟨x.oN,ae c1 rfl,an.dO (λh=>⟨by rw[Zx h],rfl⟩) (λh=>⟨by rw[Zq h],rfl⟩)⟩,?_⟩;rintro d4 _ _ ⟨rfl,rfl⟩;refine ar (iS x va vn vc ea en ec) c1 ?_;have d5:=hv.ah R;have d6:=Z.ah R;have a9:∀P,D P->P<L.heap.size:=λP a=>by have:=(hD P a).1;omega
  unfold rU at b
  by_cases b0:x.oN=k
  ·rw[Zx b0]
   rw[Zx b0]at b;split at b
   ·cases b
   rename_i N;have N:(bA cB sB l x).2.1=0:=Classical.not_not.1 N;refine PC.ok (kZ m.b m.eb d5 (λP a=>⟨a9 P a,λr=>(hD P a).2 (.inr r)⟩) d6 (λP a=>⟨a9 P a,λr=>(hD P a).2 (.inr r)⟩) oM) ?_;rintro _ n ⟨v1,Q,rfl,T,b5,a3⟩;have c5:=lK cB sB l x m.b.waits m.b.ok.Aw.2;rw[N];obtain⟨y,s,t,u,rfl,g⟩:=a2 (m.Ss b5 a3) a3.right (T.xf λP a=>a.elim (λh=>.inr (by have:=m.a.aF P h;omega)) .inl) (xg ..) b oM (by rcases c5.evs with h|h<;>omega);refine⟨_,_,_,_,rfl,an.dI (λh=>Zz rfl h) (λ_=>⟨_,ae y rfl,an.dI (λh=>⟨_,ae y rfl,an.dI (λh2=>Zz b0 h2) (λ_=>g _)⟩) (λ_=>g _)⟩)⟩
  ·rw[Zq b0]
   rw[Zq b0]at b;split at b
   ·cases b
   rename_i c6;have c6:x.oN=i:=Classical.not_not.1 c6;split at b
   ·cases b
   rename_i N;have N:(bA cA sA j x).2.1=0:=Classical.not_not.1 N;refine PC.ok (kZ m.a m.ea d5 (λP a=>⟨a9 P a,λr=>(hD P a).2 (.inl r)⟩) d6 (λP a=>⟨a9 P a,λr=>(hD P a).2 (.inl r)⟩) oM) ?_;rintro _ n ⟨v1,O,rfl,T,b5,a3⟩;have c5:=lK cA sA j x m.a.waits m.a.ok.Aw.2;rw[N];obtain⟨y,s,t,u,rfl,g⟩:=a2 (m.Ly b5 a3) a3.left (T.xf λP a=>a.elim .inl (λh=>.inr (by have:=m.b.aF P h;omega))) (xg ..) b (by rcases c5.evs with h|h<;>omega) oM;refine⟨_,_,_,_,rfl,an.dI (λh=>Zz rfl h) (λ_=>⟨_,ae y rfl,an.dI (λh=>Zz c6 h) (λ_=>g _)⟩)⟩
end
def kp(P:cD):cD:={P with pP:=262144,bO:=131072,every:=3}
structure AZ (S:au) (k:Nat) (Y:bI):Prop where
 set:Y.S=⟨S.n,S.l.take k⟩
 waits:Y.waits=[]
 log:∃V A no l j,Y.log=some V/\dT Y.D A no l j/\Lt V A no l/\cF Y.D/\uS V Y.D/\Uy V.size A/\V.next<=2+(k:Int)
variable{p:Array Value}{e q:Int}{g6:List Ck}{a3 e5:List PanicEntry->XU}{a c:Nat}{E:Nat×Nat}{c2 d r:ZH}{j:Type}{g:TypeId}{l:XR}{b:World}{A:au}{d3:cD}
def au.Cl.step(P:A.Cl){k:Nat}(a:k<A.l.length):au.add ⟨A.n,A.l.take k⟩ A.l[k]=(0,⟨A.n,A.l.take (k+1)⟩):=by
 have b:=(P.take (k:=k) oM).1;have g:=(P.take (k:=k+1) oM).1;rw[Qw,Qq a,Option.toList_some,au.lX,b]at g;rcases au.gg ⟨A.n,A.l.take k⟩ A.l[k]with⟨-,j⟩|⟨j,-⟩
 ·rw[j]at g
  have:=Zj (λc:au=>c.l.length) g;simp at this;omega
 ·rw[j]at g
  simp only at g;rw[j,g,Qw,Qq a,Option.toList_some]
def HK{a:au}(g:a.Cl)(c:Nat):∀(d P:Nat) (b f:List aj),P+d<=a.l.length->eV c ((a.l.drop P).take d) ⟨a.n,a.l.take P⟩ b f=(⟨a.n,a.l.take (P+d)⟩,b++(a.l.drop P).take d,f)
 |0,P,b,f,_=>by simp[eV]
 |d+1,P,b,f,h=>by
  have e:P<a.l.length:=oM
  rw[X4 e,Zw];unfold eV;rw[g.step e,Zx rfl];dsimp only;rw[HK g c d (P+1) _ _ oM,XQ,show P+1+d=P+(d+1) by omega]
  rfl
def Na(P:A.Cl)(b:A.n=d3.br.toNat)(d:a+c<=A.l.length)(e:c5.S=⟨A.n,A.l.take a⟩)(f:c5.waits=[]):gW d3 c5 ((A.l.drop a).take c)=((A.l.drop a).take c,[]):=by
 have g:=(P.take (k:=a) oM).2;unfold gW;rw[e,f,A_ g b];show(qp ((eV d3.buffer.toNat ((A.l.drop a).take c) ⟨A.n,A.l.take a⟩ [] []).2.2.length+1) (eV d3.buffer.toNat ((A.l.drop a).take c) ⟨A.n,A.l.take a⟩ [] []).1 (eV d3.buffer.toNat ((A.l.drop a).take c) ⟨A.n,A.l.take a⟩ [] []).2.1 (eV d3.buffer.toNat ((A.l.drop a).take c) ⟨A.n,A.l.take a⟩ [] []).2.2)=_;rw[HK P _ c a [] [] d];simp[qp,bz,dW,ey]
def Pu(P:A.Cl)(b:A.n=d3.br.toNat)(d:a+c<=A.l.length):d_ d3 ⟨A.n,A.l.take a⟩ ((A.l.drop a).take c)=⟨A.n,A.l.take (a+c)⟩:=by
 rw[<-(P.take d).1];unfold d_;rw[<-b];dsimp only;rw[List.take_add]
def LC{a:Type}{b:a->Int}:∀{P:List a},(∀x∈P,b x=0)->cj b P=0
 |[],_=>rfl
 |x::P,c=>by
  unfold cj
  rw[c x (QV ..),LC λd e=>c d (QJ _ e)];rfl
def AZ.step(i:A.Cl)(hS:A.l.length<=20000000){d:cD}(m:A.n=d.br.toNat)(hr:0<=d.br){a j:Nat}(I:AZ A a c5)(J:c5.D.Ok){self other:Int}(q:0<=self/\self<d.br)(r:0<=other/\other<d.br)(K:self≠other)(hj:1<=j)(a1:(j:Int)<=d.chunk)(s:a+j<=A.l.length):
  ((bA d other c5 ⟨3,self,other,[],(A.l.drop a).take j⟩).2.1=0/\AZ A (a+j) (bA d other c5 ⟨3,self,other,[],(A.l.drop a).take j⟩).2.2)\/
  (bA d other c5 ⟨3,self,other,[],(A.l.drop a).take j⟩).2.1=3\/(bA d other c5 ⟨3,self,other,[],(A.l.drop a).take j⟩).2.1=12:=by
 obtain⟨t,L,P,a2,no,a3,a4,u,v,w,M,N,O,a5⟩:=I;have n:((A.l.drop a).take j).length=j:=by rw[Qy,XZ];omega
 have y:∀b∈(A.l.drop a).take j,b∈A.l:=λb e=>List.mem_of_mem_drop (List.mem_of_mem_take e);have Q:eC ⟨3,self,other,[],(A.l.drop a).take j⟩ d.br.toNat d.chunk=0:=by
  unfold eC;dsimp only;rw[Zx rfl,Zq]
  ·unfold eB
   dsimp only;rw[Zq sM,Zq (by rw[n];omega)];exact LC λb e=>by rw[<-m];exact i.ok.US b (y b e)
  ·have R:((d.br.toNat:Nat):Int)=d.br:=oM
   rw[R];simp[q.1,q.2,r.1,r.2,K]
 have S:(A.l.drop a).take j≠[]:=λb=>by rw[b]at n;simp at n;omega
 have T:bA d other c5 ⟨3,self,other,[],(A.l.drop a).take j⟩=jq d other c5 ⟨3,self,other,[],(A.l.drop a).take j⟩:=by
  unfold bA;rw[u];dsimp only;rw[Zq (by rw[Q];simp),Zq sM,Zx rfl]
 rw[T];generalize z:(A.l.drop a).take j=x at*;have U:gW d c5 x=(x,[]):=by rw[<-z];exact Na i m s t L
 have V:d_ d c5.S x=⟨A.n,A.l.take (a+j)⟩:=by rw[t,<-z];exact Pu i m s
 have W:P.next<1000000000000:=oM
 obtain⟨X,f,B,q',o,p,-,-,Y,Z,g7⟩:=Hz (x:=x) v w (λb e=>i.ok.ok b (y b e)) oM J O;obtain⟨b1,b2,b3⟩:=Ff v w M N W x;have c:ef d {c5 with waits:=[]} x=(if(aE P c5.D x).1≠0 then((aE P c5.D x).1,{c5 with waits:=[],log:=some (aE P c5.D x).2.1,D:=(aE P c5.D x).2.2})else
   if((aE P c5.D x).2.2.sync (aE P c5.D x).2.1.last).1≠0 then(((aE P c5.D x).2.2.sync (aE P c5.D x).2.1.last).1,{c5 with waits:=[],log:=some (aE P c5.D x).2.1,D:=((aE P c5.D x).2.2.sync (aE P c5.D x).2.1.last).2})else
   (0,{c5 with waits:=[],log:=some (aE P c5.D x).2.1,D:=((aE P c5.D x).2.2.sync (aE P c5.D x).2.1.last).2,S:=d_ d c5.S x})):=by
  unfold ef;dsimp only;rw[u]
 have C:jq d other c5 ⟨3,self,other,[],x⟩=(if(ef d {c5 with waits:=[]} x).1≠0 then([],(ef d {c5 with waits:=[]} x).1,{(ef d {c5 with waits:=[]} x).2 with waits:=[]})else([wv (ef d {c5 with waits:=[]} x).2.S other self],0,(ef d {c5 with waits:=[]} x).2)):=by
  unfold jq;dsimp only;rw[U];dsimp only;rw[Zq S]
 generalize a6:aE P c5.D x=k at*
 by_cases l:k.1≠0
 ·rw[Zx l]at c
  rw[C,c,Zx l];exact .inr (b2.resolve_left l)
 rw[Zq l]at c;rw[dT.AP p]at c;obtain⟨a7,f1,-⟩:=o.last;obtain⟨s1,h⟩:=b1.sync (aC f);have h:=h _ f1;rw[Zq (by rw[h];simp)]at c;rw[C,c,Zq sM];refine .inl ⟨rfl,V,rfl,k.2.1,X,f,B,B.length,rfl,?_,p,s1,?_,by rw[Y];exact Z,?_⟩
 ·rcases Ds o with g|g
  ·exact g.2
  ·exact Zz h g.1
 ·intro E m1 m2
  show az (k.2.2.sync (aC f)).2.files (aC E)=none;rcases iO k.2.2 (aC f)with⟨F,H⟩|⟨F,a8,a0,H⟩
  ·exact Zz h F
  ·have:=o.wo;have:=p.next
   rw[H,bL,Zq (by simpa using λb=>by have:=gi (a:=f) oM b;omega)];exact b3 E m1 m2
 ·rcases g7 with⟨-,-,g⟩|⟨-,-,g⟩<;>(rw[g];omega)
def DA:(bF (eY 262144) 131072).no=0:=by decide+kernel
def Nb{self other:Int}(e:kY d3 self)(p:0<=other/\other<d3.br){S:au}(h:S.n=d3.br.toNat):(bY (kp d3) other).1=0/\AZ S 0 (bY (kp d3) other).2:=by
 have i:gX (kp d3) other=true:=by
  have P:=e.right;unfold gX kp at*;simp only[QK,Zk]at P⊢;obtain⟨⟨⟨⟨⟨⟨⟨⟨j,a⟩,f⟩,g⟩,k⟩,b⟩,c⟩,d⟩,l⟩:=P;exact⟨⟨⟨⟨⟨⟨⟨⟨j,by unfold within;simp;omega⟩,dC⟩,dC⟩,dC⟩,b⟩,c⟩,d⟩,l⟩
 have m:bY (kp d3) other=yr (kp d3):=by
  unfold bY;rw[Zq (by simpa[kp]using e.decl),Zq (by rw[i];simp)]
 have n:yr (kp d3)=(0,⟨⟨d3.br.toNat,[]⟩,(bF (eY 262144) 131072).D,some (bF (eY 262144) 131072).V,[],⟨d3.cV,[],[]⟩⟩):=by
  rcases HC 262144 131072 with P|⟨P,a,-⟩
  ·rw[DA]at P;omega
  ·unfold yr fO
   show(if(bF (eY (Int.toNat 262144)) 131072).no≠0 then _ else _)=_;rw[show Int.toNat 262144=262144 from rfl,Zq (by rw[P];simp)];show((0:Int),bI.mk ((⟨d3.br.toNat,[]⟩:au).fq (bF (eY 262144) 131072).out) _ _ _ _)=_;rw[a];rfl
 rw[m,n];rcases HC 262144 131072 with P|⟨P,a,f,g,k,b,c,d⟩
 ·rw[DA]at P;omega
 ·exact⟨rfl,by rw[h];simp,rfl,_,_,_,_,_,rfl,f,g,c,d,by intro q o;simp at o,by rw[b];omega⟩
def mO:aR:=⟨[[⟨1,1,true,[]⟩,⟨2,3,false,[]⟩,⟨3,2,false,[]⟩,⟨4,2,false,[⟨0,1,0,2⟩,⟨1,0,-1,0⟩,⟨0,2,-1,0⟩]⟩,⟨2,2,false,[]⟩,⟨1,1,false,[]⟩]],[⟨0,0,1,0,2⟩,⟨0,2,2,0,1⟩,⟨0,5,3,4,4⟩]⟩
def ck(P:Int):cD:=⟨P,131072,400,3,20,5,4,0,mO⟩
def Qc:Bool:=
 (bY (ck 2) 0).1==0&&((bY (ck 2) 1).1==0&&((dY (ck 2) 0 (bY (ck 2) 0).2 ⟨0,0,0,1,3,-1,0⟩).1==0&&((dY (ck 2) 0 (bY (ck 2) 0).2 ⟨0,0,0,1,3,-1,0⟩).2.1==((0:Int),(1:Int))&&((Cn mO (bY (ck 2) 1).2.S.l 0 0).code==14&&((gj (ck 2) 1 (bY (ck 2) 1).2 0 0).1.length==1&&
  (match rU (ck 2) 1 (ck 2) 0 1 0 100 (gj (ck 2) 1 (bY (ck 2) 1).2 0 0).2 (dY (ck 2) 0 (bY (ck 2) 0).2 ⟨0,0,0,1,3,-1,0⟩).2.2 (gj (ck 2) 1 (bY (ck 2) 1).2 0 0).1 with
  |none=>false
  |some (P,a)=>(Cn mO P.S.l 0 0).code==0&&((Cn mO P.S.l 0 0).st.cells.length==6&&(((Cn mO P.S.l 0 0).st.cells.getD 0 ⟨0,[]⟩).n==3&&((Cn mO P.S.l 0 0).st.version==1&&P.S.vec==[1,0])))))))))
def KK:Qc=true:=by decide+kernel
def Row.yL{c:ju j}{bytes P:Nat}{D:XN}(e:b.heap[P]? =some (.cells p g E)){xs:List j}(l:bJ c b D xs p.toList)(q:0<c.k)(a:xs.length*bytes<=aO):Row c bytes b (λd=>d=P\/D d) (XM P) xs.length xs:=
 ⟨rfl,a,λr s m=>by
  obtain⟨f,n,h⟩:=l.at m;have t:=c.len h;refine⟨P,0,f,rfl,ay e,.inl rfl,λi o=>?_,c.mono h λd a=>.inr a⟩;have k:=n i o;rw[Qq (show i<f.length by omega)]at k⊢;rw[Xz];exact ae e (by simpa using k)⟩
def i10(P:(decide (-1000000<=e)&&decide (e<=1000000))=true):aN e:=by
 simp only[QK,Zk]at P;unfold aN;omega
section
variable {w w' w0:World}
def KL:ZG 26 #[] w (Ok λu w'=>∃n tn v o p x G,u= .agg #[.slice n tn v,.slice o p x]/\bf w' G mO n tn o p/\(∀P,G P->w.heap.size<=P/\P<w'.heap.size)/\ai w w'):=by
 refine Ev (PA.mk λc y V z=>PA.mk λe A W B=>PA.mk λg q X C=>PA.mk λh l Y E=>PA.mk λr i Z F=>?_);have s:=((A.then q).then l).then i;refine PS.mk (s.get z id) sM λw6 H s6 I=>PS.mk I sM λd J s7 t=>⟨_,_,_,_,_,_,ae t rfl,ae t rfl,?_⟩
 have f:ak (λP=>P=w.heap.size) r d:=H.then J;have K:=f.get (i.get (l.get (q.get B id) id) id) (λa=>by have a:c.heap.size=w.heap.size:=a;omega);have L:=f.get (i.get (l.get C id) id) (λa=>by have a:e.heap.size=w.heap.size:=a;omega);have M:=f.get (i.get E id) (λa=>by have a:g.heap.size=w.heap.size:=a;omega);have N:=f.get F (λa=>by have a:h.heap.size=w.heap.size:=a;omega);have O:Row fF 32 d (λP=>P=c.heap.size\/False) (XM c.heap.size) 3 [⟨0,1,0,2⟩,⟨1,0,-1,0⟩,⟨0,2,-1,0⟩]:=
  Row.yL (c:=fF) (xs:=[⟨0,1,0,2⟩,⟨1,0,-1,0⟩,⟨0,2,-1,0⟩]) (D:=λ_=>False) K ⟨_,_,rfl,⟨rfl,i10 rfl,i10 rfl,i10 rfl,i10 rfl⟩,_,_,rfl,⟨rfl,i10 rfl,i10 rfl,i10 rfl,i10 rfl⟩,_,_,rfl,⟨rfl,i10 rfl,i10 rfl,i10 rfl,i10 rfl⟩,rfl⟩ dC dC
 have Q:Row oq 48 d (λP=>P=e.heap.size\/P=c.heap.size\/False) (XM e.heap.size) 6 [⟨1,1,true,[]⟩,⟨2,3,false,[]⟩,⟨3,2,false,[]⟩,⟨4,2,false,[⟨0,1,0,2⟩,⟨1,0,-1,0⟩,⟨0,2,-1,0⟩]⟩,⟨2,2,false,[]⟩,⟨1,1,false,[]⟩]:=by
  have no:∀(j k:Int) (m:Bool),aN j->aN k->oq.rep d (λP=>P=c.heap.size\/False) ⟨j,k,m,[]⟩ [XH j,XH k,.bool m,.slice none 0 0]:=λj k m R S=>⟨none,0,0,rfl,dN _ _,R,S⟩
  exact Row.yL (c:=oq) (xs:=[⟨1,1,true,[]⟩,⟨2,3,false,[]⟩,⟨3,2,false,[]⟩,⟨4,2,false,[⟨0,1,0,2⟩,⟨1,0,-1,0⟩,⟨0,2,-1,0⟩]⟩,⟨2,2,false,[]⟩,⟨1,1,false,[]⟩]) (D:=λP=>P=c.heap.size\/False) L ⟨_,_,rfl,no 1 1 true (i10 rfl) (i10 rfl),_,_,rfl,no 2 3 false (i10 rfl) (i10 rfl),_,_,rfl,no 3 2 false (i10 rfl) (i10 rfl),_,_,rfl,⟨_,_,_,rfl,O,i10 rfl,i10 rfl⟩,_,_,rfl,no 2 2 false (i10 rfl) (i10 rfl),_,_,rfl,no 1 1 false (i10 rfl) (i10 rfl),rfl⟩ dC dC
 have T:Row uq 40 d (λP=>P=g.heap.size\/False) (XM g.heap.size) 3 mO.projs:=
  Row.yL (c:=uq) (xs:=[⟨0,0,1,0,2⟩,⟨0,2,2,0,1⟩,⟨0,5,3,4,4⟩]) (D:=λ_=>False) M ⟨_,_,rfl,⟨rfl,i10 rfl,i10 rfl,i10 rfl,i10 rfl,i10 rfl⟩,_,_,rfl,⟨rfl,i10 rfl,i10 rfl,i10 rfl,i10 rfl,i10 rfl⟩,_,_,rfl,⟨rfl,i10 rfl,i10 rfl,i10 rfl,i10 rfl,i10 rfl⟩,rfl⟩ dC dC
 have U:Row jO 24 d (λP=>P=h.heap.size\/P=e.heap.size\/P=c.heap.size\/False) (XM h.heap.size) 1 mO.types:=
  Row.yL (c:=jO) (xs:=[[⟨1,1,true,[]⟩,⟨2,3,false,[]⟩,⟨3,2,false,[]⟩,⟨4,2,false,[⟨0,1,0,2⟩,⟨1,0,-1,0⟩,⟨0,2,-1,0⟩]⟩,⟨2,2,false,[]⟩,⟨1,1,false,[]⟩]]) (D:=λP=>P=e.heap.size\/P=c.heap.size\/False) N ⟨_,_,rfl,⟨_,_,_,rfl,Q⟩,rfl⟩ dC dC
 refine Ok.mk ⟨_,_,_,_,_,_,λP=>(P=h.heap.size\/P=e.heap.size\/P=c.heap.size\/False)\/P=g.heap.size\/False,rfl,⟨U.mono λP b=>.inl b,T.mono λP b=>.inr b⟩,λP b=>?_,?_⟩
 ·have z7:d.heap.size=r.heap.size:=oM
  rcases b with(rfl|rfl|rfl|b)|rfl|b<;>first|omega|exact b.elim
 ·exact(y.then s).new f λP b=>.inr (by have b:P=w.heap.size:=b;omega)
def xz:ZG 8 #[XH e] w (Ok λl w'=>∃a tn f b c g G,l=ny (ck e) a tn f b c g/\bf w' G mO a tn b c/\(∀P,G P->w.heap.size<=P/\P<w'.heap.size)/\ai w w'):=by
 refine BL (PA.mk λq m r n=>PC.ok KL ?_);rintro _ s ⟨a,tn,f,b,c,g,G,rfl,o,h,i⟩;refine⟨_,_,_,_,_,_,rfl,aB (pT (ck e) a tn f b c g) (i.get n id) rfl λt j u p=>ar (pT (ck e) a tn f b c g) p (Ok.mk ⟨a,tn,f,b,c,g,G,rfl,o.af j λP d k=>by have k:P=w.heap.size:=k;have:=h P d;omega,λP d=>by have:=h P d;omega,(m.then i).new j λP d=>.inr (by have d:P=w.heap.size:=d;omega)⟩)⟩
def UQ(P:kv):Qh (ft XP 49) (sk P)=true:=kR
def NG{P arg:Int}:ZG 29 #[XH P,XH arg] w (Ok λb w'=>b=sk ⟨0,P,0,1,arg,-1,0⟩/\ai w w'):=
 Gz (PA.mk λh c i d=>aB (CH ⟨0,P,0,1,arg,-1,0⟩) d rfl λj e k f=>ar (CH ⟨0,P,0,1,arg,-1,0⟩) f (Ok.mk ⟨rfl,c.new e λg a=>.inr (by have a:g=w.heap.size:=a;omega)⟩))
def ij.made{g G:XN}{j k:cD}{l m:bI}(n:eG w0)(o:Laid w0)(f:ai w0 w)(p:bE b a g j e l)(s:∀P,g P->w.heap.size<=P)(h:ai w b)(i:ai b w')(d:bE w' c G k q m)(r:∀P,G P->b.heap.size<=P):ij w0 w' a c g G j e k q l m:=
 ⟨p.ah i,d,⟨n,o,f.then (h.then i),λP d=>by have:=s P d;have:=f.size;omega⟩,⟨n,o,f.then (h.then i),λP d=>by have:=r P d;have:=f.size;have:=h.size;omega⟩,λP t u=>by have:=p.aF P t;have:=r P u;omega⟩
def IE:∃(f P g a d:bI) (h b:sW),bY (ck 2) 0=(0,f)/\bY (ck 2) 1=(0,P)/\dY (ck 2) 0 f ⟨0,0,0,1,3,-1,0⟩=(0,(0,1),g)/\Cn mO P.S.l 0 0=h/\h.code=14/\(gj (ck 2) 1 P 0 0).1.length=1/\
  rU (ck 2) 1 (ck 2) 0 1 0 100 (gj (ck 2) 1 P 0 0).2 g (gj (ck 2) 1 P 0 0).1=some (a,d)/\Cn mO a.S.l 0 0=b/\b.code=0/\b.st.cells.length=6/\(b.st.cells.getD 0 ⟨0,[]⟩).n=3/\b.st.version=1/\a.S.vec=[1,0]:=by
 have e:=KK;unfold Qc at e;simp only[QK,beq_iff_eq]at e;obtain⟨i,j,k,l,m,n,c⟩:=e;split at c
 ·cases c
 ·rename_i a d o
  simp only[QK,beq_iff_eq]at c;obtain⟨p,q,r,s,t⟩:=c;exact⟨_,_,_,a,d,_,_,Prod.ext i rfl,Prod.ext j rfl,Prod.ext k (Prod.ext l rfl),rfl,m,n,o,rfl,p,q,r,s,t⟩
def Ii(j:eG w0)(k:Laid w0)(l:ai w0 w):ZG 10 #[] w (Ok λa3 w'=>a3= .bool true/\ai w w'):=by
 obtain⟨F,XB,i3,YB,YA,i4,H,e1,e2,e3,e4,e5,e6,e7,e8,e9,i5,d8,d9,e0⟩:=IE;have I:(ck 2).decl=mO:=rfl;refine BJ (PC.ok xz ?_);rintro _ w2 ⟨ta,tn,tc,pa,pn,pc,G2,rfl,f2,f3,m⟩;refine bX (Lf (ck 2) ta tn tc pa pn pc) ⟨rfl,PC.ok (yH (c:=ck 2) j k (l.then m) f2 (λa P=>(f3 a P).2) (i10 rfl) (i10 rfl) (i10 rfl)) ?_⟩;rintro v5 w5 b;unfold Ko at b;rw[e1]at b;obtain⟨k5,⟨n,-⟩|⟨-,a4,a5,rfl,J,o,f4⟩⟩:=b
 ·exact Zz rfl n
 dsimp only at J f4;have d:=m.then k5;refine⟨_,_,rfl,PC.ok xz ?_⟩;rintro _ w9 ⟨tb,tm,td,pb,pm,pd,G9,rfl,f6,f7,e⟩;refine bX (Lf (ck 2) tb tm td pb pm pd) ⟨rfl,PC.ok (yH (c:=ck 2) j k ((l.then d).then e) f6 (λa P=>(f7 a P).2) (i10 rfl) (i10 rfl) (i10 rfl)) ?_⟩;rintro i6 g0 b;unfold Ko at b;rw[e2]at b;obtain⟨K,⟨n,-⟩|⟨-,a6,G,rfl,L,M,g1⟩⟩:=b
 ·exact Zz rfl n
 dsimp only at L g1;have z5:=d.size;have z9:=e.size;have z2:=m.size;generalize i7:ck 2=p at*;have g2:ij w0 g0 a4 a6 a5 G p 0 p 1 F XB:=ij.made (w:=w) j k l J (λa P=>by have:=o a P;omega) d (e.then K) L λa P=>by have:=M a P;omega
 have N:=(d.then e).then K;refine⟨_,_,rfl,an.dI (λh=>Zz rfl h) (λ_=>an.dI (λh=>Zz rfl h) (λ_=>fm Tryz.underlying33 ⟨_,rfl,an.ff rfl (fm Tryz.underlying33 ⟨_,rfl,an.ff rfl (PC.ok NG ?_)⟩)⟩))⟩;rintro _ i8 ⟨rfl,q⟩;have r:=g2.ah q;have g3:kv.Ok ⟨0,0,0,1,3,-1,0⟩:=⟨i10 rfl,i10 rfl,i10 rfl,i10 rfl,i10 rfl,i10 rfl⟩
 refine bX (UQ _) ⟨rfl,PC.ok (wV r.a r.ea g3 oM) ?_⟩;have s:=Ax p 0 F ⟨0,0,0,1,3,-1,0⟩;rintro _ t ⟨i9,f,u,v⟩;rw[e3]at s f u;dsimp only at s f u;have a7:=r.Ly u v;rw[Zq sM]at f;obtain⟨O,Q,R,S,T,U,V,W,X,-,rfl,-⟩:=f;refine bX (Hf _ O Q R S T U V W X) ⟨rfl,PA.mk λj0 g4 j1 g5=>aB (kq _ O Q R S T U V W X) g5 rfl λg6 b2 j2 g7=>?_⟩;have Y:ai t g6:=g4.new b2 λa P=>.inr (by have P:a=t.heap.size:=P;omega);have Z:=a7.ah Y;refine PC.ok (yC Z.b) ?_;rintro _ b4 ⟨a0,x⟩;rw[I,e4]at a0;obtain⟨b5,b6,b7,b8,b9,c0,c1,c3,c4,-,rfl,-⟩:=a0;refine bX (Hf _ b5 b6 b7 b8 b9 c0 c1 c3 c4) ⟨rfl,PA.mk λj3 g8 j4 g9=>aB (kq _ b5 b6 b7 b8 b9 c0 c1 c3 c4) g9 rfl λc5 y j5 h2=>?_⟩;have z:ai b4 c5:=g8.new y λa P=>.inr (by have P:a=b4.heap.size:=P;omega);have A:=z.get (x.get g7 id) id;refine⟨_,ae A rfl,an.dI (λh=>Zz rfl h) (λ_=>⟨_,_,ae A rfl,ae A rfl,aH.mk OT ⟨_,rfl,an.ff rfl ⟨_,ae h2 rfl,an.dI (λh=>Zz e5 h) (λ_=>?_)⟩⟩⟩)⟩;have a8:=(Z.ah x).ah z;refine PC.ok (Kd (most:=100) a8.swap (i10 rfl) dC oM (by rcases s.evs with h|h<;>omega) e6 e7) ?_;rintro _ j6 ⟨rfl,j7,j8,a1,a9⟩;refine⟨_,rfl,an.not (an.tt rfl (PC.ok (yC a1.a) ?_))⟩;rintro _ B ⟨a2,c6⟩;rw[I,e8]at a2;have c:ai w B:=by
  have h3:ai w t:=(N.then q).new v.af λa P=>.inr (by have:=o a P;omega);have y:ai w c5:=((h3.then Y).then x).then z;refine(y.new a9.af λa P=>.inr ?_).then c6;rcases P with P|P
  ·have:=M a P;omega
  ·rcases v.new a P with h|h
   ·have:=o a h;omega
   ·have:=N.size;have:=q.size;omega
 obtain⟨c7,c8,c9,d0,d1,d2,d3,d4,d5,G3,rfl,g,-⟩:=a2;refine bX (Hf H c7 c8 c9 d0 d1 d2 d3 d4 d5) ⟨rfl,PA.mk λj9 h4 k0 h5=>aB (kq H c7 c8 c9 d0 d1 d2 d3 d4 d5) h5 rfl λh6 d6 k1 i=>?_⟩;have C:ai B h6:=h4.new d6 λa P=>.inr (by have P:a=B.heap.size:=P;omega);have g:=g.ah C;have k3:=g.len;obtain⟨a,b0,k4,k6,k7,rfl,k8,-,h7,-⟩:=lT (i:=0) g oM;refine⟨_,ae i rfl,an.dO (λ_=>⟨_,_,_,ae i rfl,an.dO (λ_=>⟨_,_,_,ae i rfl,a,b0,rfl,oM,oM,_,h7,an.dO (λ_=>⟨_,ae i rfl,an.dO (λ_=>?_) (λh=>Zz d9 h)⟩) (λh=>Zz d8 h)⟩) (λh=>Zz oM h)⟩) (λh=>Zz e9 h)⟩;refine PC.ok (FA ((a1.a.ah c6).ah C)) ?_;rintro _ l0 ⟨l3,l4,l5,l6,rfl,E,h8,i1⟩;rw[e0]at E;have i2:=E.len dC;refine⟨_,_,_,rfl,PA.mk λl7 d7 l8 h9=>PC.ok (iF (xs:=[1,0]) (ys:=[1,0]) ((E.ah d7).row dC dC) (Row.lit h9 [1,0] rfl (λb1 hx=>by simp at hx;rcases hx with rfl|rfl<;>exact i10 rfl) dC)) ?_⟩;rintro _ l9 ⟨rfl,i0⟩;exact⟨_,rfl,Ok.mk ⟨sM,(((c.then C).then h8).then d7).then i0.af⟩⟩
end
section
variable {w w' w0:World} {p q:Nat} {F G D E:XN} {c e:cD} {self other:Int} {X Y:bI}
def Kx(c:cD)(self:Int):(bY c self).2.fI.asked=[]:=by
 have P:(yr c).2.fI.asked=[]:=by unfold yr;rw[wW]
 unfold bY;split
 ·exact P
 split<;>exact P
def bE.cl(P:bE w p F c self X):X.S.Cl/\X.S.n=c.br.toNat:=by
 obtain⟨d,e,a,b⟩:=P;exact(b.at' 3).2
def bE.Ws(d:bE w p F c self X):X.D.Ok:=by
 obtain⟨j,a,P,e⟩:=d;obtain⟨Fd,f,-⟩:=(show DL w (λb=>F b/\P b=2) a.dp a.lp X.D X.log from e.at' 2)
 exact f.ok
def DI(c:eG w0)(d:Laid w0)(a:ai w0 w):PC XP 10 #[] w (λP e=>∃b:Bool,P= .bool b/\Ok (λP w'=>P= .bool true/\ai w0 w') (.returned (.bool b)) e) a3:=by
 refine PC.ok (Ii c d a) ?_;rintro _ w' ⟨rfl,f⟩;exact⟨_,rfl,Ok.mk ⟨rfl,a.then f⟩⟩
def TC{tn h e i:Nat}(j:eG w0)(k:Laid w0)(m:ai w0 w)(n:bf w D c.decl d tn r e)(o:aN c.bO)(q:aN c.every)(s:aN c.start)(t:∀u w',ai w w'->(bY c self).1≠0->l (.tuple #[.pointer u,XH (bY c self).1]) w')(v:∀p F w',(bY c self).1=0->ai w w'->bE w' p F c self (bY c self).2->(∀P,F P->w.heap.size<=P)->(bY c self).2.S.l.length<=16777216->l (.tuple #[XL p,XH 0]) w'):
  PC XP 12 #[ny c d tn h r e i] w (λx w'=>BI (ft XP 29) λf=>x=f/\PC XP 11 #[f,XH self] w' l a3) e5:=by
 refine PC.ok (uy n) ?_;rintro _ O ⟨y,z,A,B,C,E,Q,rfl,H,I,a⟩;refine bX (Lf c y z A B C E) ⟨rfl,PC.ok (yH j k (m.then a) H (λP b=>(I P b).2) o q s) ?_⟩;rintro R S ⟨g,⟨J,rfl⟩|⟨K,p,F,rfl,L,M,N⟩⟩
 ·exact t _ _ (a.then g) J
 ·exact v p F _ K (a.then g) L (λP b=>by have:=M P b;have:=a.size;omega) N
def RH{a P:Int}(b:P≠0)(c d:Operand):(do eqGuard .rem 3 c d (XH a) (XH P);binOp .rem 3 (XH a) (XH P):Sem Value).run XP w= .ok (XH (a.tmod P)) w:=by
 simp[eqGuard,binOp,Op.intDiv,b]
end
section
variable {w w' w0:World} {p q:Nat} {F G D E:XN} {c e:cD} {self other:Int} {X Y:bI}
set_option maxHeartbeats 2000000 in
def tj{tn W K X Z lc:Nat}(l:eG w)(m:Laid w)(hd:bf w D c.decl d tn r K)(hD:∀P,D P->P<w.heap.size)(hl:Row Rg 152 w E c2 Z g6)(hE:∀P,E P->P<w.heap.size)(hs:aN c.bO)(g9:aN c.every)(d1:aN c.start):
  ZG 5 #[ny c d tn W r K X,XH self,XH other,.slice c2 Z lc] w (Ok λe1 w'=>e1= .bool true/\ai w w'):=by
 have m2:=hl.len;have h0:=hl.dB;unfold aO at h0;refine oJ (PA.mk λL k1 o g1=>ar (pT c d tn W r K X) g1 (PC.ok (JR (hd.ah k1) (hl.ah k1)) ?_));rintro _ w3 ⟨⟨k5,rfl,h3⟩,k3⟩;have x:=k1.then k3;have c1:=k3.get g1 id;refine⟨_,rfl,an.mk (λ_=>DI l m x) (λh4=>?_)⟩;obtain⟨l1,h6⟩:=h3 h4;refine⟨_,ae c1 rfl,an.dec (λ_=>DI l m x) (λM=>ar (pT c d tn W r K X) c1 (TC l m x (hd.ah x) hs g9 d1 (λy w5 N a2=>⟨_,_,rfl,an.dI (λ_=>DI l m (x.then N)) (λh=>Zz h a2)⟩) ?_))⟩;intro p F w5 hz N hA hF h7;have c3:=x.then N;have h8:=N.get c1 id;refine⟨_,_,rfl,an.dI (λh=>Zz rfl h) (λ_=>?_)⟩;have b5:(bY c self).2.fI.asked=[]:=Kx c self;generalize(bY c self).2=X0 at hA h7 b5;have z1:w.heap.size<L.heap.size:=oM
 have z3:=k3.size;refine⟨λO y w'=>∃(j:Nat) (z:XN) (f:bI),y=j/\j<=Z/\O=Z-j/\bE w' p z c self f/\ak (λP=>L.heap.size<=P) w5 w'/\(∀P,z P->L.heap.size<=P)/\f.S.l.length<=16777216+300*j/\f.fI.asked.length<=j,
  ⟨_,0,F,X0,rfl,Qj _,rfl,hA,ak.refl _,λP a=>by have:=hF P a;omega,oM,by rw[b5];exact Qj _⟩,?_⟩
 rintro O _ _ w8 ⟨j,z,f,rfl,hj,rfl,Q,R,c4,m3,m4⟩;have kE:ak (λP=>L.heap.size<=P) w w8:=(ai.af c3).then R;have a7:ai w w8:=c3.new R λP a=>.inr (by have a:L.heap.size<=P:=a;omega);have d2:=R.get h8 oM;have d3:Env w w8 z:=⟨l,m,a7,λP a=>by have:=c4 P a;omega⟩
 have z8:=R.size;have m5:=c3.size;have z5:=N.size;refine an.dec (λh9=>?_) (λi0=>?_)
 ·have i1:=hl.af kE λP a h=>by have:=hE P a;omega
  obtain⟨P,g,b6,es,rfl,m6,m7,i2,i3,s,t,u,ea,en,ec,rfl,hv,he,e5⟩:=i1.wK (i:=j) oM;have e7:=h6 b6 (QZ i2);refine⟨P,g,rfl,oM,oM,bC (es:=pU b6 s t u ea en ec) (k:=15) (Un _ _ _ _ _ _ _) rfl (λy ht=>by rw[Qx];exact i3 y ht) (PC.ok (JS Q d3 e5 hv he e7 oM oM) ?_)⟩;rintro _ w9 ⟨F9,rfl,i4,b7,d6⟩;exact⟨_,rfl,_,oM,j+1,F9,_,aq oM,oM,rfl,i4,R.then (b7.af.mono λP _ a=>c4 P a),λP a=>(b7.new P a).elim (c4 P) λh=>oM,by rcases d6.evs with h|h<;>omega,by have:=d6.asked;omega⟩
 have a8:=Q.ok;obtain⟨i5,hn⟩:=Q.cl;obtain⟨m8,m9⟩:=a8.Aw;obtain⟨n0,n1,n2⟩:=a8.br;obtain⟨i6,i7⟩:=a8.Sw;refine ar (pT c d tn W r K X) d2 (PC.ok (uy (hd.ah a7)) ?_);rintro _ A ⟨B,C,H,s,t,u,n3,rfl,e8,e9,a9⟩;refine bX (Lf c B C H s t u) ⟨rfl,PA.mk λn4 i8 n8 i9=>aB (pT c B C H s t u) i9 rfl λn9 j0 o0 j1=>?_⟩;refine PS.mk j1 (by simp[dL]) λj2 j3 o1 j4=>?_;have f0:j2.heap[A.heap.size]? =some (.cells (dL {c with pP:=262144} B C H s t u).toArray 29 (0,0)):=by rw[j4];rfl
 refine PS.mk f0 (by simp[dL]) λj5 j6 o2 j7=>?_;have f1:j5.heap[A.heap.size]? =some (.cells (dL {c with pP:=262144,bO:=131072} B C H s t u).toArray 29 (0,0)):=by rw[j7];rfl
 refine PS.mk f1 (by simp[dL]) λT j8 o3 j9=>?_;have f4:T.heap[A.heap.size]? =some (.cells (dL (kp c) B C H s t u).toArray 29 (0,0)):=by rw[j9];rfl
 have nn:∀P,P=A.heap.size->False\/A.heap.size<=P:=λP e=>.inr (Nat.le_of_eq e.symm);have U:ai A T:=(((i8.new j0 nn).new j3 nn).new j6 nn).new j8 nn;have o4:=a9.size;have zc:=U.size;have a3:=U.get (a9.get d2 id) id;refine⟨_,ae a3 rfl,PC.ok (Hh bb) ?_⟩;rintro _ _ ⟨rfl,rfl⟩;have hp:=AY (k:=other) (n:=c.br) oM;have hw:IntKind.wrap .i64 (pick other c.br+1)=pick other c.br+1:=wrap_i64 bb;refine⟨_,rfl,λg w'=>T=w'/\0<=g/\g<c.br/\self≠g,?_,?_⟩
 ·refine an.dO (λh=>⟨_,ae a3 rfl,aH.mk (RH oM _ _) ⟨_,rfl,rfl,?_⟩⟩) (λh=>⟨rfl,hp.1,hp.2,λe=>h e.symm⟩)
  rw[hw,Int.tmod_eq_emod_of_nonneg oM]
  by_cases hx:pick other c.br+1<c.br
  ·rw[Int.emod_eq_of_lt oM hx];omega
  ·rw[show pick other c.br+1=c.br by omega,Int.emod_self];omega
 rintro g _ _ ⟨rfl,e2,e3,a2⟩;refine ar (pT (kp c) B C H s t u) f4 (PC.ok (yH (c:=kp c) (self:=g) l m (a7.then (a9.then U)) (e8.ah U) (λP a=>by have:=(e9 P a).2;omega) (show aN 131072 by unfold aN;omega) (show aN 3 by unfold aN;omega) d1) ?_);rintro o5 e4 ⟨c5,k0⟩;obtain⟨k2,hH⟩:=Nb (self:=self) (other:=g) a8 ⟨e2,e3⟩ (S:=f.S) hn;obtain⟨-,q,G,rfl,hB,hG,a4⟩:=k0.resolve_left λh=>h.1 k2;generalize(bY (kp c) g).2=Y0 at hH hB a4;have o6:=c5.size;have a5:=(a9.then U).then c5;have f5:=Q.aF;refine⟨_,_,rfl,an.dI (λh=>Zz rfl h) (λ_=>fm Tryz.underlying33 ⟨_,rfl,an.ff rfl ?_⟩)⟩;have b8:ij w e4 p q z G c self (kp c) g f Y0:=⟨Q.ah a5,hB,d3.ah a5,⟨l,m,a7.then a5,λP a=>by have:=hG P a;omega⟩,λP hf hg=>by have:=f5 P hf;have:=hG P hg;omega⟩
 refine PC.ok (Bh b8.a oM) ?_;rintro _ c6 ⟨k4,i,e6,k6,rfl,a0,c7,b9⟩;have f7:=a0.len dC;have f8:=a0.jN;have a6:=a0.aF;have c0:=c7.get (c5.get a3 id) id;have k7:=hB.aF;have o7:=c7.size;have l7:f.S.l.length<=17000000:=oM
 obtain⟨I,k⟩:∃I:XN,I=λP=>(T.heap.size<=P/\P<e4.heap.size)\/c6.heap.size<=P:=⟨_,rfl⟩
 have V:∀P,P<T.heap.size->¬I P:=λP a h=>by rw[k]at h;rcases h with h|h<;>omega
 obtain⟨n,o8⟩:∃n:Nat,c.chunk=n:=⟨c.chunk.toNat,oM⟩
 refine⟨_,_,_,rfl,λO y w'=>∃(b:Nat) (G2:XN) (Y:bI),y=b/\O=i-b/\b<=i+32/\ij w w' p q z G2 c self (kp c) g f Y/\AZ f.S (min b i) Y/\ak I c6 w'/\∀P,G2 P->I P,
  ⟨_,0,G,Y0,rfl,rfl,oM,b8.ah c7,by rw[Nat.zero_min];exact hH,ak.refl _,λP a=>by rw[k];exact .inl ⟨hG P a,k7 P a⟩⟩,?_⟩
 rintro O _ _ k8 ⟨b,G2,Y,rfl,rfl,hk,v,b1,b0,c8⟩;have f9:=a0.af b0 λP a h=>by rw[k]at h;have:=b9 P a;have:=a6 P a;rcases h with h|h<;>omega
 have d4:=b0.get c0 (V _ oM);have d5:Row h_ 96 k8 k6 k4 i f.S.l:=f9.row dC ba;have o9:=b0.size;refine an.dec (λh9=>?_) (λi0=>?_)
 ·have p0:b<i:=oM
  have f2:IntKind.wrap .i64 ((b:Int)+c.chunk)=((b+n:Nat):Int):=by rw[wrap_i64 bb];omega
  have b2:(if IntKind.wrap .i64 ((b:Int)+c.chunk)<((i:Nat):Int)then IntKind.wrap .i64 ((b:Int)+c.chunk)else((i:Nat):Int))=((min (b+n) i:Nat):Int):=by rw[f2];split<;>omega
  have d7:=d5.part (lo:=b) (hi:=min (b+n) i) (cap:=e6) oM oM f8;rw[List.drop_take]at d7;have l8:=v.b.aF;have f3:AZ f.S b Y:=by rw[X2 oM]at b1;exact b1
  have k9:Y.S.l.length<=18000000:=by rw[f3.set];simp;omega
  refine⟨_,ae d4 rfl,show(0:Int)<=(b:Int)from oM,show(b:Int)<=_ from by rw[b2];omega,show _<=((e6:Nat):Int)from by rw[b2];omega,?_⟩;rw[b2,Qx,Qx];refine PC.ok (kZ (m:=⟨3,self,g,[],(f.S.l.drop b).take (min (b+n) i-b)⟩) (vc:=0) v.b v.eb (Row.nil _ (λ_=>False)) (λP h=>h.elim) d7 (λP a=>⟨by have:=a6 P a;omega,λh=>by have M:=c8 P h;rw[k]at M;have:=b9 P a;have:=a6 P a;rcases M with M|M<;>omega⟩) k9) ?_;rintro _ l0 ⟨v1,G3,rfl,⟨oa,on,oc,-,-,rfl,-⟩,g0,b3⟩;have b4:=v.Ss g0 b3;have f6:ak I c6 l0:=b0.then (b3.af.mono λP _ a=>c8 P a);have g3:=f6.get c0 (V _ oM);rcases AZ.step i5 oM (d:=kp c) hn (show(0:Int)<=c.br by omega) f3 v.b.Ws (self:=self) (other:=g) ⟨i6,i7⟩ ⟨e2,e3⟩ a2 (j:=min (b+n) i-b) oM (show _<=c.chunk by omega) oM with⟨o,s2⟩|o|o
  ·refine⟨_,_,_,_,rfl,an.dO (λh=>by rw[o]at h;cases h) (λ_=>an.dO (λh=>by rw[o]at h;cases h) (λ_=>an.dI (λh=>Zz o h) (λ_=>⟨_,ae g3 rfl,_,?_,b+n,G3,_,f2,rfl,oM,b4,?_,f6,λP a=>(b3.new P a).elim (c8 P) λh=>by rw[k];exact .inr oM⟩)))⟩
   ·omega
   ·rw[show b+(min (b+n) i-b)=min (b+n) i by omega]at s2;exact s2
  ·exact⟨_,_,_,_,rfl,an.dO (λh=>by rw[o]at h;cases h) (λ_=>an.dO (λ_=>DI l m b4.ea.gr) (λh=>Zz o h))⟩
  ·exact⟨_,_,_,_,rfl,an.dO (λ_=>DI l m b4.ea.gr) (λh=>Zz o h)⟩
 ·have J:Y.S=f.S:=by
   rw[b1.set,Nat.min_eq_right oM,f7,Qz (Q4 _)]
  refine PC.ok (Bh v.b (by rw[J];omega)) ?_;rintro _ p1 ⟨p2,p3,p4,p5,rfl,g5,c9,l9⟩;refine⟨_,_,_,rfl,PC.ok (AB (g5.row dC (by rw[J];unfold aO;omega)) (d5.ah c9)) ?_⟩;rintro _ p6 ⟨rfl,g2⟩;have d8:=(v.ah c9).ah g2;refine⟨_,rfl,an.dec (λ_=>?_) (λh=>Zz (by rw[J]) h)⟩;refine PC.ok (FA d8.a) ?_;rintro _ p7 ⟨p8,p9,q0,q1,rfl,h1,g4,m0⟩;have d9:=d8.ah g4;refine⟨_,_,_,rfl,PC.ok (FA d9.b) ?_⟩;rintro _ l3 ⟨q2,q3,q4,q5,rfl,h2,d0,m1⟩;have h5:=d9.ah d0;have g7:∀S:au,S.n=c.br.toNat->S.vec.length*8<=aO:=λS h=>by rw[au.bN,h];unfold aO;omega
  refine⟨_,_,_,rfl,PC.ok (iF ((h1.ah d0).row dC (g7 _ hn)) (h2.row dC (g7 _ (by rw[J];exact hn)))) ?_⟩;rintro _ l4 ⟨rfl,l5⟩;have g8:ai l3 l4:=l5.af;have a1:=h5.ah g8;have e0:=g8.get (d0.get (g4.get (g2.get (c9.get d4 id) id) id) id) id;refine⟨_,rfl,an.dec (λ_=>⟨_,_,_,_,_,_,ae e0 rfl,ae e0 rfl,?_⟩) (λh=>Zz (by rw[J]) h)⟩;refine PC.ok (Hk a1.a a1.b rfl (by rw[J]) (hd.ah a1.ea.gr)) ?_;rintro _ q6 ⟨rfl,l6⟩;exact⟨_,rfl,an.tt rfl (DI l m (a1.ea.gr.then l6))⟩

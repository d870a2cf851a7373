import Derived.Test.YtkpomgifkloklacGreatDoorKg18
import Derived.Test.YtkpomgifkloklacGreatDoorYgQue
set_option maxHeartbeats 4000000
set_option linter.all false
set_option maxRecDepth 100000
open Go.IntKind renaming wrap→XG
namespace Go.Proofs.YtkpomgifkloklacGreatDoor
open Go.aw
def gh(c:cH)(d:Int)(e:cH)(g i j:Int):Nat->bQ->bQ->List cG->Option (bQ×bQ)
 |0,P,a,h=>if h=[]then some (P,a)else none
 |f+1,P,a,[]=>some (P,a)
 |f+1,P,a,b::h=>
  if b.lf=j then
   (if(bh e g a b).2.1≠0 then none else gh c d e g i j f P (bh e g a b).2.2 (h++(bh e g a b).1))
  else if b.lf≠i then none else
   (if(bh c d P b).2.1≠0 then none else gh c d e g i j f (bh c d P b).2.2 a (h++(bh c d P b).1))
abbrev kV(P:Ep):List Value:=cU P.m P.va P.vn P.vc P.ea P.en P.ec
def eU(a:World)(d:XN)(e:Nat)(b:ZH)(f g:Nat)(h:List cG):Prop:=
 ∃(c:List Ep) (D:XN),IB a 66 5 b f g (c.flatMap kV)/\c.map (·.m)=h/\(∀P∈c,P.In a D)/\(∀P,D P->P<a.heap.size/\aI b≠some P/\¬d P/\e<=P)/\∀P,aI b=some P->¬d P/\e<=P
def JX{a:World}{D:XN}:∀{P:List Ep} {cs:List Value},bK Pz a D P cs->cs=P.flatMap kV
 |[],_,c=>by cases c;rfl
 |b::P,_,⟨g,h,d,⟨e,_⟩,f⟩=>by rw[d,e,JX f];rfl
def Rz:∀(b:List Ep),∀P∈b.flatMap kV,P.oneCell'=true:=λb P a=>by
 obtain⟨c,-,a⟩:=List.mem_flatMap.1 a;exact Pz.one (D:=λ_=>False) (w:=default) ⟨rfl,trivial⟩ P a
def RA(P:List Ep):(P.flatMap kV).length=P.length*5:=by
 induction P with
 |nil=>rfl
 |cons b P a=>rw[List.flatMap_cons,QX,a,Xq];show 5+_=_;omega
variable{f:XN}{c8:bQ}
section
variable {w w' w0 w1 w2:World} {p q:Nat} {F G Z:XN} {cA cB:cH} {sA sB i k:Int} {A B:bQ} {a:ZH} {n c:Nat} {ms:List cG} {v:Value}
def eV.ql(h:eV w Z ms v w'){Y:XN}(f:∀P,Y P->Z P\/P<w.heap.size):∃a n c,v= .slice a n c/\eU w' Y w.heap.size a n c ms:=by
 obtain⟨a,n,c,i,D,rfl,j,k,l,d,g⟩:=h;obtain⟨cs,p,m,o,q⟩:=j.body;have:=JX o;subst this;refine⟨a,n,c,rfl,i,D,m.Ur,k,l,λP b=>⟨(d P b).2.1,(d P b).2.2.1,λe=>?_,(d P b).1⟩,λP b=>⟨λe=>?_,(g P b).1⟩⟩
 ·have:=d P b
  exact(f P e).elim this.2.2.2 oM
 ·have:=g P b
  exact(f P e).elim this.2 oM
def eU.len{P:Nat}(b:eU w Z P a n c ms):n=ms.length:=by
 obtain⟨f,D,d,e,-⟩:=b;have:=d.len;rw[RA]at this;rw[<-e,Q8];omega
def eU.lt{b:Nat}(d:eU w Z b a n c ms):∀P,aI a=some P->P<w.heap.size:=by
 obtain⟨f,D,e,-⟩:=d;exact e.lt
def eU.af{h:Nat}(k:eU w Z h a n c ms)(d:ak f w w')(i:∀P,f P->Z P):eU w' Z h a n c ms:=by
 obtain⟨l,D,m,o,p,e,j⟩:=k;exact⟨l,D,m.af d λP b g=>(j P b).1 (i P g),o,λP b=>(p P b).af d λP b g=>(e P b).2.2.1 (i P g),λP b=>⟨Qk (e P b).1 d.size,(e P b).2⟩,j⟩
def eU.less{g h:Nat}(m:eU w Z g a n c ms)(i:∀P,f P->Z P\/w.heap.size<=P)(j:h<=g):eU w f h a n c ms:=by
 obtain⟨o,D,k,p,q,d,l⟩:=m;exact⟨o,D,k,p,q,λP b=>⟨(d P b).1,(d P b).2.1,λe=>(i P e).elim (d P b).2.2.1 (by have:=(d P b).1;omega),Xx j (d P b).2.2.2⟩,λP b=>⟨λe=>(i P e).elim (l P b).1 (by have:=k.lt P b;omega),Xx j (l P b).2⟩⟩
def eU.pop{m:Nat}{f:cG}(o:eU w Z m a n c (f::ms)):∃g h p q u r s v D,a=some ⟨g,h,none⟩/\(∀d,d<5->w.cell? ⟨g,h+d,none⟩=(cU f p q u r s v)[d]?)/\Row aQ 8 w D p q f.vec/\Row iX 96 w D r s f.events/\(∀b,D b->b<w.heap.size/\¬Z b)/\eU w Z m (cz a 1 c 5) (n-1) (c-1) ms:=by
 have x:=o.len;obtain⟨e,D,i,y,j,l,z⟩:=o;rw[Xq]at x
 match e,i,y,j with
 |b::e,i,k,j=>
  simp only[QY,List.cons.injEq]at k;obtain⟨rfl,k⟩:=k;obtain⟨g,h,rfl,A⟩:=i.cell oM;have t:=j b (QV ..);refine⟨g,h,b.va,b.vn,b.vc,b.ea,b.en,b.ec,D,rfl,λd B=>?_,t.1,t.2,λb P=>⟨(l b P).1,(l b P).2.2.1⟩,e,D,?_,k,λC E=>j C (QJ _ E),λb P=>by rw[Gb];exact l b P,λb P=>by rw[Gb]at P;exact z b P⟩
  ·rw[A d oM,List.flatMap_cons,XW (show d<5 from B)]
  ·have:=i.tail oM
   rw[List.flatMap_cons,show(kV b++e.flatMap kV).drop 5=e.flatMap kV from List.drop_left' rfl]at this;exact this
def eU.app{q L:TypeId}{r g:Nat}(z:eU w Z r a n c ms)(M:iI XP q 66 5 72){s:ZH}{e t:Nat}{u:List cG}(A:eU w Z g s e t u)(B:∀b,aI a=some b->b<g)(a4:r<=g)(a5:g<=w.heap.size)(hl:ms.length+u.length<=100000)(N:∀b,Z b->b<w.heap.size){C O:XR}(v:∀h i w',eU w' Z r h (n+e) i (ms++u)->ak (λj=>aI a=some j) w w'->C (.slice h (n+e) i) w'):
  aH XP (Builtin.append_ #[q,q] L #[.slice a n c,.slice s e t]) w C O:=by
 have hn:=z.len;have hm:=A.len;obtain⟨Q,D,R,S,T,E,F⟩:=z;obtain⟨x,U,k,V,W,I,r5⟩:=A;have X:s=none->e=0/\t=0:=λd=>by
  rcases k.body with⟨_,Y,h3⟩|⟨a0,a1,a2,f,_⟩
  ·exact⟨Y,h3⟩
  ·rw[d]at f;cases f
 refine R.app M (news:=x.flatMap kV) k.len X (λp hp j a6 J=>?_) (Rz x) ba (by unfold maxLen;omega) λh i w' y l m=>?_
 ·subst hp
  have a3:j<e*5:=by
   rw[<-k.len];exact(Qv.1 J).1
  obtain⟨a0,a1,f,hc⟩:=k.cell oM
  cases f
  rw[Addr.add_lit];exact(hc j a3).trans J
 ·rw[<-List.flatMap_append]at y
  have a7:=l.size;have a8:=y.lt;refine v h i w' ⟨Q++x,λb=>D b\/U b,y,by rw[Q3,S,V],λb P=>?_,λb P=>?_,λb P=>⟨λK=>?_,?_⟩⟩ l
  ·rcases Q6.1 P with P|P
   ·exact((T b P).af l λb P=>(E b P).2.1).mono λb P=>.inl P
   ·exact((W b P).af l λb P f=>by have:=B b f;have:=(I b P).2.2.2;omega).mono λb P=>.inr P
  ·rcases P with P|P
   ·have o:=E b P
    refine⟨oM,λd=>?_,o.2.2.1,oM⟩;rcases m with H|H
    ·rw[H]at d;exact o.2.1 d
    ·rw[H]at d;cases d;omega
   ·have o:=I b P
    refine⟨oM,λd=>?_,o.2.2.1,oM⟩;rcases m with H|H
    ·rw[H]at d;have:=B b d;omega
    ·rw[H]at d;cases d;omega
  ·rcases m with H|H
   ·rw[H]at P;exact(F b P).1 K
   ·rw[H]at P;cases P;have:=N _ K;omega
  ·rcases m with H|H
   ·rw[H]at P;exact(F b P).2
   ·rw[H]at P;cases P;omega
structure gU (w0 w:World) (p q:Nat) (F G:XN) (cA:cH) (sA:Int) (cB:cH) (sB:Int) (A B:bQ):Prop where
 a:cd w p F cA sA A
 b:cd w q G cB sB B
 ea:Env w0 w F
 eb:Env w0 w G
 apart:∀b,F b->¬G b
def gU.ah(P:gU w0 w p q F G cA sA cB sB A B)(a:ai w w'):gU w0 w' p q F G cA sA cB sB A B:=⟨P.a.ah a,P.b.ah a,P.ea.ah a,P.eb.ah a,P.apart⟩
def gU.af(a:gU w0 w p q F G cA sA cB sB A B)(c:ak f w w')(d:∀P,F P\/G P->¬f P)(e:∀P,f P->w0.heap.size<=P):gU w0 w' p q F G cA sA cB sB A B:=
 ⟨a.a.af c λP b=>d P (.inl b),a.b.af c λP b=>d P (.inr b),⟨a.ea.pF,a.ea.laid,a.ea.gr.new c λP b=>.inr (e P b),a.ea.aF⟩,⟨a.eb.pF,a.eb.laid,a.eb.gr.new c λP b=>.inr (e P b),a.eb.aF⟩,a.apart⟩
def gU.Gc(P:gU w0 w p q F G cA sA cB sB A B)(g:cd w' p f cA sA c8)(c:dy F w f w'):gU w0 w' p q f G cA sA cB sB c8 B:=
 ⟨g,P.b.af c.af λa b d=>P.apart a d b,P.ea.Hg c,⟨P.eb.pF,P.eb.laid,P.ea.gr.new c.af λa b=>.inr (P.ea.aF a b),P.eb.aF⟩,λa b e=>(c.new a b).elim (λd=>P.apart a d e) λh=>by have:=P.b.aF a e;omega⟩
def gU.swap(P:gU w0 w p q F G cA sA cB sB A B):gU w0 w q p G F cB sB cA sA B A:=⟨P.b,P.a,P.eb,P.ea,λa b c=>P.apart a c b⟩
def gU.QB(P:gU w0 w p q F G cA sA cB sB A B)(a:cd w' q f cB sB c8)(b:dy G w f w'):gU w0 w' p q F f cA sA cB sB A c8:=(P.swap.Gc a b).swap
abbrev jZ(F G:XN):XN:=λP=>F P\/G P
end
def UB:iI XP 95 66 5 72:=⟨kR,kR,dC⟩
def IC(a:ar)(P:Int)(b:cG)(c:Int):(fR a P b c).length<=2:=by
 unfold fR;split
 ·simp
 dsimp only;split<;>split<;>simp[List.isEmpty]
def wo(a:cH)(P:Int)(b:bQ)(c:cG):(bh a P b c).1.length<=2:=by
 unfold bh;split
 ·simp
 dsimp only;split
 ·simp
 split
 ·simp
 split
 ·unfold lF
  dsimp only;split
  ·simp
  split<;>simp
 split
 ·exact IC _ _ _ _
 split<;>simp
section
variable {w w' w0 w1 w2:World} {p q:Nat} {F G Z:XN} {cA cB:cH} {sA sB i k:Int} {A B:bQ}
def zH(a:gU w0 w p q F G cA sA cB sB A B)(hk:aP k){most:Nat}(f6:most<=1000)(hA:A.S.l.length<=17000000)(hB:B.S.l.length<=17000000)(h1:(eW cA sA A k 0).1.length=1){H I:bQ}(hm:gh cA sA cB sB i k most (eW cA sA A k 0).2 B (eW cA sA A k 0).1=some (H,I)):
  ZG 12 #[XL p,XL q,XH i,XH k,XH (most:Int)] w (Ok λJ w'=>J= .bool true/\∃O Q,gU w0 w' p q O Q cA sA cB sB H I/\dy (jZ F G) w (jZ O Q) w'):=by
 refine CQ (PC.ok (DN a.a hk) ?_);rintro _ w7 ⟨F7,T,d7,b6⟩;have d8:=a.Gc d7 b6;have c8:=a.a.aF;have b8:=a.b.aF;obtain⟨f7,n7,f8,rfl,U⟩:=T.ql (Y:=jZ F7 G) λP a=>a.imp id λh=>b8 P h;have g4:=U.len;have d9:=ID cA sA A k 0;refine⟨_,_,_,rfl,an.dX (λe0=>Zz oM e0) (λ_=>?_)⟩;refine⟨λb7 fa V o b1 w'=>∃(c:Nat) (e f:XN) (j l:bQ) (d:List cG),b1=c/\c<=most/\b7=most-c/\gU w0 w' p q e f cA sA cB sB j l/\dy (jZ F G) w (jZ e f) w'/\eU w' (jZ e f) w.heap.size fa V o d/\d.length<=1+2*c/\
   gh cA sA cB sB i k (most-c) j l d=some (H,I)/\j.S.l.length<=17000300+300*c/\l.S.l.length<=17000300+300*c,
  ⟨_,0,F7,G,_,B,_,rfl,Qj _,rfl,d8,b6.left,U.less (λP a=>.inl a) (Q4 _),oM,hm,by rcases d9.evs with h|h<;>omega,oM⟩,?_⟩
 rintro b7 fa V o _ _ b9 ⟨c,e,f,j,l,d,rfl,hj,rfl,W,a4,X,b2,b,g5,g6⟩;have K:=X.len;have c8:=W.a.aF;have b8:=W.b.aF;have z:∀{w':World} {e f:XN} {Y:Nat} {d:List cG} {j l:bQ},gU w0 w' p q e f cA sA cB sB j l->dy (jZ F G) w (jZ e f) w'->Y=d.length->d=[]->some (j,l)=some (H,I)->
   Ok (λJ w'=>J= .bool true/\∃O Q,gU w0 w' p q O Q cA sA cB sB H I/\dy (jZ F G) w (jZ O Q) w') (.returned (.bool ((Y:Int)==0))) w':=λa e1 hn c0 Z=>by
  cases Z
  subst c0;subst hn;exact Ok.mk ⟨rfl,_,_,a,e1⟩
 refine an.dec (λc9=>?_) (λg7=>?_)
 rotate_left
 ·have:most-c=0:=oM
  rw[this]at b;unfold gh at b;split at b
  ·rename_i c0;exact z W a4 K c0 b
  ·cases b
 obtain⟨a5,r⟩:∃a5,most-c=a5+1:=⟨most-c-1,oM⟩
 rw[r]at b
 match d,X,K,b2,b with
 |[],X,K,b2,b=>exact an.dec (λh0=>by simp at K;omega) (λ_=>z W a4 K rfl b)
 |x::d,X,K,b2,b=>
  rw[Xq]at K b2;refine an.dec (λ_=>?_) (λh0=>oM);obtain⟨a0,a1,va,vn,vc,ea,en,ec,D,rfl,hc,hv,Z,hD,e2⟩:=X.pop;refine⟨a0,a1,rfl,oM,oM,bq (es:=cU x va vn vc ea en ec) (k:=5) (mf _ _ _ _ _ _ _) rfl (λb1 ht=>hc b1 ht) (PA.mk λg8 e3 g9 e4=>aB (mf x va vn vc ea en ec) e4 rfl λL e5 h6 c1=>⟨oM,oM,?_⟩)⟩;have R:ai b9 L:=e3.new e5 λP a=>.inr (by have a:P=b9.heap.size:=a;omega);have h7:=R.size;have m:=W.ah R;have a7:eU L (jZ e f) w.heap.size (cz (some ⟨a0,a1,none⟩) 1 o 5) (V-1) (o-1) d:=e2.af R λP a=>a.elim;have c2:dy (jZ F G) w (jZ e f) L:=⟨a4.af.ah R,a4.new⟩
  have e6:=a.ea.gr.size;have a2:∀{n:World} {C E:XN} {a6 a8:bQ} {ms:List cG} {J:Value},gU w0 n p q C E cA sA cB sB a6 a8->dy (jZ e f) L (jZ C E) n->(∃s t u,J= .slice s t u/\eU n (jZ C E) L.heap.size s t u ms)->ms.length<=2->
    gh cA sA cB sB i k a5 a6 a8 (d++ms)=some (H,I)->a6.S.l.length<=17000300+300*(c+1)->a8.S.l.length<=17000300+300*(c+1)->n.heap[b9.heap.size]? =some (.cells (cU x va vn vc ea en ec).toArray 66 (0,0))/\∃s t u,J= .slice s t u/\
    ∀ε:XR,aH XP (Builtin.append_ #[95,95] 95 #[.slice (cz (some ⟨a0,a1,none⟩) (Int.toNat 1) o 5) (V-Int.toNat 1) (o-Int.toNat 1),.slice s t u]) n (λe7 b3=>∃(c7:ZH) (Y d0:Nat),e7= .slice c7 Y d0/\∃d1,d1<most-c/\
     ∃(M:Nat) (e f:XN) (j l:bQ) (d:List cG),XG .i64 ((c:Int)+1)=M/\M<=most/\d1=most-M/\gU w0 b3 p q e f cA sA cB sB j l/\dy (jZ F G) w (jZ e f) b3/\eU b3 (jZ e f) w.heap.size c7 Y d0 d/\d.length<=1+2*M/\
      gh cA sA cB sB i k (most-M) j l d=some (H,I)/\j.S.l.length<=17000300+300*M/\l.S.l.length<=17000300+300*M) ε:=λ{n C E a6 a8 ms J} c3 v e8 h8 e9 f0 f1=>by
   refine⟨v.af.get c1 λh=>h.elim (λh=>by have:=c8 _ h;omega) λh=>by have:=b8 _ h;omega,?_⟩;obtain⟨s,t,u,rfl,f2⟩:=e8;refine⟨s,t,u,rfl,λε=>?_⟩;have d2:eU n (jZ C E) w.heap.size (cz (some ⟨a0,a1,none⟩) 1 o 5) (V-1) (o-1) d:=by
    obtain⟨f3,D,h1,h2,h3,h4,h5⟩:=a7.af v.af λP a=>a;have c9:=a7.lt;obtain⟨L',D',g0,g1,g2,S,c4⟩:=a7;refine⟨L',D',g0.af v.af λP a=>(c4 P a).1,g1,λP a=>(g2 P a).af v.af λP a=>(S P a).2.2.1,λP a=>⟨Qk (S P a).1 v.af.size,(S P a).2.1,λhz=>(v.new P hz).elim (S P a).2.2.1 (by have:=(S P a).1;omega),(S P a).2.2.2⟩,λP a=>⟨λhz=>(v.new P hz).elim (c4 P a).1 (by have:=c9 P a;omega),(c4 P a).2⟩⟩
   have g3:∀P,jZ C E P->P<n.heap.size:=λP a=>a.elim (c3.a.aF P) (c3.b.aF P);refine eU.app d2 UB f2 (λP a=>a7.lt P a) c2.af.size v.af.size oM g3 λa' c' b3 f4 d3=>?_;have b4:∀P,aI (cz (some ⟨a0,a1,none⟩) 1 o 5)=some P->¬jZ C E P/\w.heap.size<=P:=λP a=>by
    obtain⟨f3,D,h1,h2,h3,h4,h5⟩:=d2;exact h5 P a
   have f5:=c3.af d3 (λP a Z=>(b4 P Z).1 a) λP a=>by have:=(b4 P a).2;have:=e6;omega
   refine⟨_,_,_,rfl,_,oM,c+1,C,E,a6,a8,d++ms,aq oM,oM,rfl,f5,?_,f4,by rw[QX];omega,by rw[show most-(c+1)=a5 by omega];exact e9,f0,f1⟩;have h9:=c2.trans v;exact⟨h9.af.new d3 λP a=>.inr (b4 P a).2,h9.new⟩
  refine⟨λd4 w'=>d4=(if x.lf=k then XM q else XM p)/\L=w',⟨x.lf,ae c1 rfl,an.eG (λh=>⟨by rw[Zx h],rfl⟩) (λh=>⟨by rw[Zq h],rfl⟩)⟩,?_⟩;rintro d4 _ _ ⟨rfl,rfl⟩;refine au (mf x va vn vc ea en ec) c1 ?_;have d5:=hv.ah R;have d6:=Z.ah R;have a9:∀P,D P->P<L.heap.size:=λP a=>by have:=(hD P a).1;omega
  unfold gh at b
  by_cases b0:x.lf=k
  ·rw[Zx b0]
   rw[Zx b0]at b;split at b
   ·cases b
   rename_i N;have N:(bh cB sB l x).2.1=0:=Classical.not_not.1 N;refine PC.ok (wq m.b m.eb d5 (λP a=>⟨a9 P a,λr=>(hD P a).2 (.inr r)⟩) d6 (λP a=>⟨a9 P a,λr=>(hD P a).2 (.inr r)⟩) oM) ?_;rintro _ n ⟨v1,Q,rfl,T,b5,a3⟩;have c5:=rm cB sB l x m.b.waits m.b.ok.IE.2;rw[N];obtain⟨y,s,t,u,rfl,g⟩:=a2 (m.QB b5 a3) a3.right (T.ql λP a=>a.elim (λh=>.inr (by have:=m.a.aF P h;omega)) .inl) (wo ..) b oM (by rcases c5.evs with h|h<;>omega);refine⟨_,_,_,_,rfl,an.dX (λh=>Zz rfl h) (λ_=>⟨_,ae y rfl,an.dX (λh=>⟨_,ae y rfl,an.dX (λh2=>Zz b0 h2) (λ_=>g _)⟩) (λ_=>g _)⟩)⟩
  ·rw[Zq b0]
   rw[Zq b0]at b;split at b
   ·cases b
   rename_i c6;have c6:x.lf=i:=Classical.not_not.1 c6;split at b
   ·cases b
   rename_i N;have N:(bh cA sA j x).2.1=0:=Classical.not_not.1 N;refine PC.ok (wq m.a m.ea d5 (λP a=>⟨a9 P a,λr=>(hD P a).2 (.inl r)⟩) d6 (λP a=>⟨a9 P a,λr=>(hD P a).2 (.inl r)⟩) oM) ?_;rintro _ n ⟨v1,O,rfl,T,b5,a3⟩;have c5:=rm cA sA j x m.a.waits m.a.ok.IE.2;rw[N];obtain⟨y,s,t,u,rfl,g⟩:=a2 (m.Gc b5 a3) a3.left (T.ql λP a=>a.elim .inl (λh=>.inr (by have:=m.b.aF P h;omega))) (wo ..) b (by rcases c5.evs with h|h<;>omega) oM;refine⟨_,_,_,_,rfl,an.dX (λh=>Zz rfl h) (λ_=>⟨_,ae y rfl,an.dX (λh=>Zz c6 h) (λ_=>g _)⟩)⟩
end
def mC:aM:=⟨[[⟨1,1,true,[]⟩,⟨2,3,false,[]⟩,⟨3,2,false,[]⟩,⟨4,2,false,[⟨0,1,0,2⟩,⟨1,0,-1,0⟩,⟨0,2,-1,0⟩]⟩,⟨2,2,false,[]⟩,⟨1,1,false,[]⟩]],[⟨0,0,1,0,2⟩,⟨0,2,2,0,1⟩,⟨0,5,3,4,4⟩]⟩
def bH(P:Int):cH:=⟨P,131072,400,3,20,5,4,0,mC⟩
def Oo:Bool:=
 (bT (bH 2) 0).1==0&&((bT (bH 2) 1).1==0&&((bF (bH 2) 0 (bT (bH 2) 0).2 ⟨0,0,0,1,3,-1,0⟩).1==0&&((bF (bH 2) 0 (bT (bH 2) 0).2 ⟨0,0,0,1,3,-1,0⟩).2.1==((0:Int),(1:Int))&&((Bc mC (bT (bH 2) 1).2.S.l 0 0).code==14&&((eW (bH 2) 1 (bT (bH 2) 1).2 0 0).1.length==1&&
  (match gh (bH 2) 1 (bH 2) 0 1 0 100 (eW (bH 2) 1 (bT (bH 2) 1).2 0 0).2 (bF (bH 2) 0 (bT (bH 2) 0).2 ⟨0,0,0,1,3,-1,0⟩).2.2 (eW (bH 2) 1 (bT (bH 2) 1).2 0 0).1 with
  |none=>false
  |some (P,a)=>(Bc mC P.S.l 0 0).code==0&&((Bc mC P.S.l 0 0).st.cells.length==6&&(((Bc mC P.S.l 0 0).st.cells.getD 0 ⟨0,[]⟩).n==3&&((Bc mC P.S.l 0 0).st.version==1&&P.S.vec==[1,0])))))))))
def Jr:Oo=true:=by decide+kernel
variable{n:Array Value}{z:XT}{e q:Int}{u:List Int}{a2 e6:List PanicEntry->XU}{a c:Nat}{I:Nat×Nat}{c0 d e8 r:ZH}{J a4:Prop}{j:Type}{g:TypeId}{m:XR}{b:World}{C:aM}{l:aj}{A:ar}{e5:cH}
def Row.xK{c:jB j}{bytes P:Nat}{D:XN}(e:b.heap[P]? =some (.cells n g I)){xs:List j}(l:bK c b D xs n.toList)(q:0<c.k)(a:xs.length*bytes<=aT):Row c bytes b (λd=>d=P\/D d) (XM P) xs.length xs:=
 ⟨rfl,a,λr s m=>by
  obtain⟨f,o,h⟩:=l.at m;have t:=c.len h;refine⟨P,0,f,rfl,az e,.inl rfl,λi p=>?_,c.mono h λd a=>.inr a⟩;have k:=o i p;rw[Qq (show i<f.length by omega)]at k⊢;rw[Xz];exact ae e (by simpa using k)⟩
def i10(P:(decide (-1000000<=e)&&decide (e<=1000000))=true):aP e:=by
 simp only[QK,Zk]at P;unfold aP;omega
section
variable {w w' w0:World}
def Js:ZG 18 #[] w (Ok λu w'=>∃n tn v o p x G,u= .agg #[.slice n tn v,.slice o p x]/\aZ w' G mC n tn o p/\(∀P,G P->w.heap.size<=P/\P<w'.heap.size)/\ai w w'):=by
 refine CS (PA.mk λc y V z=>PA.mk λe A W B=>PA.mk λg q X C=>PA.mk λh l Y E=>PA.mk λr i Z F=>?_);have s:=((A.then q).then l).then i;refine PS.mk (s.get z id) sM λw6 H s6 I=>PS.mk I sM λd J s7 t=>⟨_,_,_,_,_,_,ae t rfl,ae t rfl,?_⟩
 have f:ak (λP=>P=w.heap.size) r d:=H.then J;have K:=f.get (i.get (l.get (q.get B id) id) id) (λa=>by have a:c.heap.size=w.heap.size:=a;omega);have L:=f.get (i.get (l.get C id) id) (λa=>by have a:e.heap.size=w.heap.size:=a;omega);have M:=f.get (i.get E id) (λa=>by have a:g.heap.size=w.heap.size:=a;omega);have N:=f.get F (λa=>by have a:h.heap.size=w.heap.size:=a;omega);have O:Row fy 32 d (λP=>P=c.heap.size\/False) (XM c.heap.size) 3 [⟨0,1,0,2⟩,⟨1,0,-1,0⟩,⟨0,2,-1,0⟩]:=
  Row.xK (c:=fy) (xs:=[⟨0,1,0,2⟩,⟨1,0,-1,0⟩,⟨0,2,-1,0⟩]) (D:=λ_=>False) K ⟨_,_,rfl,⟨rfl,i10 rfl,i10 rfl,i10 rfl,i10 rfl⟩,_,_,rfl,⟨rfl,i10 rfl,i10 rfl,i10 rfl,i10 rfl⟩,_,_,rfl,⟨rfl,i10 rfl,i10 rfl,i10 rfl,i10 rfl⟩,rfl⟩ dC dC
 have Q:Row nV 48 d (λP=>P=e.heap.size\/P=c.heap.size\/False) (XM e.heap.size) 6 [⟨1,1,true,[]⟩,⟨2,3,false,[]⟩,⟨3,2,false,[]⟩,⟨4,2,false,[⟨0,1,0,2⟩,⟨1,0,-1,0⟩,⟨0,2,-1,0⟩]⟩,⟨2,2,false,[]⟩,⟨1,1,false,[]⟩]:=by
  have no:∀(j k:Int) (m:Bool),aP j->aP k->nV.rep d (λP=>P=c.heap.size\/False) ⟨j,k,m,[]⟩ [XH j,XH k,.bool m,.slice none 0 0]:=λj k m R S=>⟨none,0,0,rfl,dS _ _,R,S⟩
  exact Row.xK (c:=nV) (xs:=[⟨1,1,true,[]⟩,⟨2,3,false,[]⟩,⟨3,2,false,[]⟩,⟨4,2,false,[⟨0,1,0,2⟩,⟨1,0,-1,0⟩,⟨0,2,-1,0⟩]⟩,⟨2,2,false,[]⟩,⟨1,1,false,[]⟩]) (D:=λP=>P=c.heap.size\/False) L ⟨_,_,rfl,no 1 1 true (i10 rfl) (i10 rfl),_,_,rfl,no 2 3 false (i10 rfl) (i10 rfl),_,_,rfl,no 3 2 false (i10 rfl) (i10 rfl),_,_,rfl,⟨_,_,_,rfl,O,i10 rfl,i10 rfl⟩,_,_,rfl,no 2 2 false (i10 rfl) (i10 rfl),_,_,rfl,no 1 1 false (i10 rfl) (i10 rfl),rfl⟩ dC dC
 have T:Row tP 40 d (λP=>P=g.heap.size\/False) (XM g.heap.size) 3 mC.projs:=
  Row.xK (c:=tP) (xs:=[⟨0,0,1,0,2⟩,⟨0,2,2,0,1⟩,⟨0,5,3,4,4⟩]) (D:=λ_=>False) M ⟨_,_,rfl,⟨rfl,i10 rfl,i10 rfl,i10 rfl,i10 rfl,i10 rfl⟩,_,_,rfl,⟨rfl,i10 rfl,i10 rfl,i10 rfl,i10 rfl,i10 rfl⟩,_,_,rfl,⟨rfl,i10 rfl,i10 rfl,i10 rfl,i10 rfl,i10 rfl⟩,rfl⟩ dC dC
 have U:Row jG 24 d (λP=>P=h.heap.size\/P=e.heap.size\/P=c.heap.size\/False) (XM h.heap.size) 1 mC.types:=
  Row.xK (c:=jG) (xs:=[[⟨1,1,true,[]⟩,⟨2,3,false,[]⟩,⟨3,2,false,[]⟩,⟨4,2,false,[⟨0,1,0,2⟩,⟨1,0,-1,0⟩,⟨0,2,-1,0⟩]⟩,⟨2,2,false,[]⟩,⟨1,1,false,[]⟩]]) (D:=λP=>P=e.heap.size\/P=c.heap.size\/False) N ⟨_,_,rfl,⟨_,_,_,rfl,Q⟩,rfl⟩ dC dC
 refine Ok.mk ⟨_,_,_,_,_,_,λP=>(P=h.heap.size\/P=e.heap.size\/P=c.heap.size\/False)\/P=g.heap.size\/False,rfl,⟨U.mono λP b=>.inl b,T.mono λP b=>.inr b⟩,λP b=>?_,?_⟩
 ·have z7:d.heap.size=r.heap.size:=oM
  rcases b with(rfl|rfl|rfl|b)|rfl|b<;>first|omega|exact b.elim
 ·exact(y.then s).new f λP b=>.inr (by have b:P=w.heap.size:=b;omega)
def pW:ZG 4 #[XH e] w (Ok λl w'=>∃a tn f b c g G,l=pg (bH e) a tn f b c g/\aZ w' G mC a tn b c/\(∀P,G P->w.heap.size<=P/\P<w'.heap.size)/\ai w w'):=by
 refine AF (PA.mk λq m r n=>PC.ok Js ?_);rintro _ s ⟨a,tn,f,b,c,g,G,rfl,o,h,i⟩;refine⟨_,_,_,_,_,_,rfl,aB (ph (bH e) a tn f b c g) (i.get n id) rfl λt j u p=>au (ph (bH e) a tn f b c g) p (Ok.mk ⟨a,tn,f,b,c,g,G,rfl,o.af j λP d k=>by have k:P=w.heap.size:=k;have:=h P d;omega,λP d=>by have:=h P d;omega,(m.then i).new j λP d=>.inr (by have d:P=w.heap.size:=d;omega)⟩)⟩
def Tb(P:iu):Ph (fz XP 49) (rG P)=true:=kR
def LZ{P arg:Int}:ZG 21 #[XH P,XH arg] w (Ok λb w'=>b=rG ⟨0,P,0,1,arg,-1,0⟩/\ai w w'):=
 ES (PA.mk λh c i d=>aB (yh ⟨0,P,0,1,arg,-1,0⟩) d rfl λj e k f=>au (yh ⟨0,P,0,1,arg,-1,0⟩) f (Ok.mk ⟨rfl,c.new e λg a=>.inr (by have a:g=w.heap.size:=a;omega)⟩))
def gU.made{g G:XN}{j k:cH}{l m:bQ}(n:eu w0)(o:Laid w0)(f:ai w0 w)(p:cd b a g j e l)(s:∀P,g P->w.heap.size<=P)(h:ai w b)(i:ai b w')(d:cd w' c G k q m)(r:∀P,G P->b.heap.size<=P):gU w0 w' a c g G j e k q l m:=
 ⟨p.ah i,d,⟨n,o,f.then (h.then i),λP d=>by have:=s P d;have:=f.size;omega⟩,⟨n,o,f.then (h.then i),λP d=>by have:=r P d;have:=f.size;have:=h.size;omega⟩,λP t u=>by have:=p.aF P t;have:=r P u;omega⟩
def Hf:∃(f P g a d:bQ) (h b:sq),bT (bH 2) 0=(0,f)/\bT (bH 2) 1=(0,P)/\bF (bH 2) 0 f ⟨0,0,0,1,3,-1,0⟩=(0,(0,1),g)/\Bc mC P.S.l 0 0=h/\h.code=14/\(eW (bH 2) 1 P 0 0).1.length=1/\
  gh (bH 2) 1 (bH 2) 0 1 0 100 (eW (bH 2) 1 P 0 0).2 g (eW (bH 2) 1 P 0 0).1=some (a,d)/\Bc mC a.S.l 0 0=b/\b.code=0/\b.st.cells.length=6/\(b.st.cells.getD 0 ⟨0,[]⟩).n=3/\b.st.version=1/\a.S.vec=[1,0]:=by
 have e:=Jr;unfold Oo at e;simp only[QK,beq_iff_eq]at e;obtain⟨i,j,k,l,m,n,c⟩:=e;split at c
 ·cases c
 ·rename_i a d o
  simp only[QK,beq_iff_eq]at c;obtain⟨p,q,r,s,t⟩:=c;exact⟨_,_,_,a,d,_,_,Prod.ext i rfl,Prod.ext j rfl,Prod.ext k (Prod.ext l rfl),rfl,m,n,o,rfl,p,q,r,s,t⟩
def GJ(j:eu w0)(k:Laid w0)(l:ai w0 w):ZG 7 #[] w (Ok λa3 w'=>a3= .bool true/\ai w w'):=by
 obtain⟨F,XB,i7,YB,YA,i8,H,e1,e2,e3,e4,e5,e6,e7,e8,e9,i9,d8,d9,e0⟩:=Hf;have I:(bH 2).decl=mC:=rfl;refine AD (PC.ok pW ?_);rintro _ w2 ⟨ta,tn,tc,pa,pn,pc,G2,rfl,f2,g0,m⟩;refine bS (JK (bH 2) ta tn tc pa pn pc) ⟨rfl,PC.ok (DS (c:=bH 2) j k (l.then m) f2 (λa P=>(g0 a P).2) (i10 rfl) (i10 rfl) (i10 rfl)) ?_⟩;rintro v5 w5 b;unfold IS at b;rw[e1]at b;obtain⟨k5,⟨n,-⟩|⟨-,a4,a5,rfl,J,o,g1⟩⟩:=b
 ·exact Zz rfl n
 dsimp only at J g1;have d:=m.then k5;refine⟨_,_,rfl,PC.ok pW ?_⟩;rintro _ w9 ⟨tb,tm,td,pb,pm,pd,G9,rfl,g2,g3,e⟩;refine bS (JK (bH 2) tb tm td pb pm pd) ⟨rfl,PC.ok (DS (c:=bH 2) j k ((l.then d).then e) g2 (λa P=>(g3 a P).2) (i10 rfl) (i10 rfl) (i10 rfl)) ?_⟩;rintro j0 g4 b;unfold IS at b;rw[e2]at b;obtain⟨K,⟨n,-⟩|⟨-,a6,G,rfl,L,M,g5⟩⟩:=b
 ·exact Zz rfl n
 dsimp only at L g5;have z5:=d.size;have z9:=e.size;have z2:=m.size;generalize j1:bH 2=p at*;have g6:gU w0 g4 a4 a6 a5 G p 0 p 1 F XB:=gU.made (w:=w) j k l J (λa P=>by have:=o a P;omega) d (e.then K) L λa P=>by have:=M a P;omega
 have N:=(d.then e).then K;refine⟨_,_,rfl,an.dX (λh=>Zz rfl h) (λ_=>an.dX (λh=>Zz rfl h) (λ_=>ig Tryz.underlying33 ⟨_,rfl,an.ff rfl (ig Tryz.underlying33 ⟨_,rfl,an.ff rfl (PC.ok LZ ?_)⟩)⟩))⟩;rintro _ j2 ⟨rfl,q⟩;have r:=g6.ah q;have g7:iu.Ok ⟨0,0,0,1,3,-1,0⟩:=⟨i10 rfl,i10 rfl,i10 rfl,i10 rfl,i10 rfl,i10 rfl⟩
 refine bS (Tb _) ⟨rfl,PC.ok (pP r.a r.ea g7 oM) ?_⟩;have s:=IX p 0 F ⟨0,0,0,1,3,-1,0⟩;rintro _ t ⟨j3,f,u,v⟩;rw[e3]at s f u;dsimp only at s f u;have a7:=r.Gc u v;rw[Zq sM]at f;obtain⟨O,Q,R,S,T,U,V,W,X,-,rfl,-⟩:=f;refine bS (zh _ O Q R S T U V W X) ⟨rfl,PA.mk λj4 g8 j5 g9=>aB (kh _ O Q R S T U V W X) g9 rfl λh2 b2 j6 h3=>?_⟩;have Y:ai t h2:=g8.new b2 λa P=>.inr (by have P:a=t.heap.size:=P;omega);have Z:=a7.ah Y;refine PC.ok (xC Z.b) ?_;rintro _ b4 ⟨a0,x⟩;rw[I,e4]at a0;obtain⟨b5,b6,b7,b8,b9,c0,c1,c3,c4,-,rfl,-⟩:=a0;refine bS (zh _ b5 b6 b7 b8 b9 c0 c1 c3 c4) ⟨rfl,PA.mk λj7 h4 j8 h5=>aB (kh _ b5 b6 b7 b8 b9 c0 c1 c3 c4) h5 rfl λc5 y j9 h6=>?_⟩;have z:ai b4 c5:=h4.new y λa P=>.inr (by have P:a=b4.heap.size:=P;omega);have A:=z.get (x.get h3 id) id;refine⟨_,ae A rfl,an.dX (λh=>Zz rfl h) (λ_=>⟨_,_,ae A rfl,ae A rfl,aH.mk Nd ⟨_,rfl,an.ff rfl ⟨_,ae h6 rfl,an.dX (λh=>Zz e5 h) (λ_=>?_)⟩⟩⟩)⟩;have a8:=(Z.ah x).ah z;refine PC.ok (zH (most:=100) a8.swap (i10 rfl) dC oM (by rcases s.evs with h|h<;>omega) e6 e7) ?_;rintro _ k0 ⟨rfl,k1,k3,a1,a9⟩;refine⟨_,rfl,an.not (an.tt rfl (PC.ok (xC a1.a) ?_))⟩;rintro _ B ⟨a2,c6⟩;rw[I,e8]at a2;have c:ai w B:=by
  have h7:ai w t:=(N.then q).new v.af λa P=>.inr (by have:=o a P;omega);have y:ai w c5:=((h7.then Y).then x).then z;refine(y.new a9.af λa P=>.inr ?_).then c6;rcases P with P|P
  ·have:=M a P;omega
  ·rcases v.new a P with h|h
   ·have:=o a h;omega
   ·have:=N.size;have:=q.size;omega
 obtain⟨c7,c8,c9,d0,d1,d2,d3,d4,d5,G3,rfl,g,-⟩:=a2;refine bS (zh H c7 c8 c9 d0 d1 d2 d3 d4 d5) ⟨rfl,PA.mk λk4 h8 k6 h9=>aB (kh H c7 c8 c9 d0 d1 d2 d3 d4 d5) h9 rfl λi0 d6 k7 i=>?_⟩;have C:ai B i0:=h8.new d6 λa P=>.inr (by have P:a=B.heap.size:=P;omega);have g:=g.ah C;have k8:=g.len;obtain⟨a,b0,l0,l3,l4,rfl,l5,-,i1,-⟩:=lJ (i:=0) g oM;refine⟨_,ae i rfl,an.eG (λ_=>⟨_,_,_,ae i rfl,an.eG (λ_=>⟨_,_,_,ae i rfl,a,b0,rfl,oM,oM,_,i1,an.eG (λ_=>⟨_,ae i rfl,an.eG (λ_=>?_) (λh=>Zz d9 h)⟩) (λh=>Zz d8 h)⟩) (λh=>Zz oM h)⟩) (λh=>Zz e9 h)⟩;refine PC.ok (DW ((a1.a.ah c6).ah C)) ?_;rintro _ l6 ⟨l7,l8,l9,m0,rfl,E,i2,i5⟩;rw[e0]at E;have i6:=E.len dC;refine⟨_,_,_,rfl,PA.mk λm1 d7 m2 i3=>PC.ok (iF (xs:=[1,0]) (ys:=[1,0]) ((E.ah d7).row dC dC) (Row.lit i3 [1,0] rfl (λb1 hx=>by simp at hx;rcases hx with rfl|rfl<;>exact i10 rfl) dC)) ?_⟩;rintro _ m3 ⟨rfl,i4⟩;exact⟨_,rfl,Ok.mk ⟨sM,(((c.then C).then i2).then d7).then i4.af⟩⟩
end
def ar.le_top:∀b∈A.l,b.ay<=A.top:=by
 have:∀(a:List aj) (P:Int),P<=a.foldl (λP c=>max P c.ay) P/\∀b∈a,b.ay<=a.foldl (λP c=>max P c.ay) P:=by
  intro a
  induction a with
  |nil=>intro P;simp
  |cons c a e=>
   intro P;obtain⟨g,f⟩:=e (max P c.ay);rw[List.foldl_cons];refine⟨oM,λb d=>?_⟩;rcases Q2.1 d with rfl|d
   ·omega
   ·exact f b d
 exact(this A.l 0).2
def La(b:∀c∈u,0<=c):gg u []=u:=by
 unfold gg mL;apply List.ext_getElem
 ·simp
 ·intro P e d
  have a:P<u.length:=d;have f:=b u[P] (XY a);simp only[List.getElem_map,List.getElem_range];rw[xB (xs:=u) (i:=(P:Int)) (x:=u[P]) oM (by simp[a]),zb (xs:=[]) sM];omega
def ar.Cl.Pf(b:A.Cl)(d:l∈A.l)(e:a<A.n):l.aN.getD a 0<=(A.mD a:Int):=by
 rcases lR.1 (b.i_ l d a e)with i|⟨f,g,-⟩
 ·omega
 ·obtain⟨h,P⟩:=ar.get_some g
  have c:=b.le f h;unfold aR at P;simp only[Prod.mk.injEq]at P;rw[P.1,P.2,Qx]at c;exact c
def ar.Cl.next(d:A.Cl)(i:a<A.n)(s:A.l.length<=20000000)(e:l.origin=a)(f:l.seq=(A.mD a:Int)+1)(j:∀P∈A.l,P.ay<l.ay)(t:1<=l.ay)(h:l.aN=A.vec)(u:0<=l.agg)(v:0<=l.key)(w:1<=l.op/\l.op<=5)(x:0<=l.aW/\l.aW<8)(y:0<=l.field/\l.field<8):
  A.add l=(0,⟨A.n,A.l++[l]⟩):=by
 have z:=A.Ik a;have m:cN l A.n=0:=by
  unfold cN;rw[Zq,Zq,Zq oM,Zq oM]
  ·rw[e,Qx,h,A.gE i,f]
   have:lN ((A.mD a:Int)+1-1)=A.mD a:=by
    show XG .i64 _=_;rw[wrap_i64 bb];omega
   rw[this];simp
  ·rw[e,f,h,A.bd]
   simp only[not_or];refine⟨oM,oM,oM,oM,sM,?_⟩;simp[ar.vec]
 have n:A.get (aR l)=none:=by
  cases b:A.get (aR l)with
  |none=>rfl
  |some P=>
   obtain⟨o,g⟩:=ar.get_some b;have p:=d.le P o;unfold aR at g;simp only[Prod.mk.injEq]at g;rw[g.1,g.2,e,Qx,f]at p;omega
 have q:∀c,c<A.n->A.i_ l c=true:=λc k=>by
  rw[lR,h,A.gE k]
  by_cases B:A.mD c=0
  ·exact .inl oM
  ·obtain⟨P,b,r⟩:=d.has c (A.mD c) k oM (Int.le_refl _)
   refine .inr ⟨P,?_,j P b,λC E=>?_⟩
   ·rw[<-r];exact d.ok.get b
   ·obtain⟨-,-,-,-,-,-,F,-⟩:=ir (d.ok.Eo P b)
    rw[A.gE oM];exact d.Pf b oM
 rw[ar.CI m n (by rw[e,Qx,A.gE i,f]) q,mK];intro P b;have:=j P b;unfold dU;simp;omega
def Il(f:cJ C=0){a b c arg:Int}(P:iQ C a b c arg=0):1<=c/\c<=5/\0<=a/\a<8/\0<=b/\b<8:=by
 obtain⟨h,-,-⟩:=jF f;obtain⟨k,l,m,n⟩:=uJ h;have d:=P;unfold iQ at P
 cases e:C.Ar a b with
 |none=>rw[e]at P;simp at P
 |some o=>
  rw[e]at P;simp only at P;obtain⟨p,q,r,s,i,t,u,v⟩:=aM.o_ e;have j:=(Du f d (cells:=c_ (C.at a)) (by simp[c_])).2.2.2;rw[i]at j;split at P
  ·simp at P
  ·rename_i g
   simp only[Bool.or_eq_true,not_or,Bool.not_eq_true,Bool.not_eq_eq_eq_not,Bool.not_true,Bool.not_false]at g;have:=bu.1 (by simpa using g.1:within c 1 5=true);omega
def TC[Decidable J][Decidable a4]{b c d a:aj×Bool×Int}(P:(if J then b else if a4 then c else d)=a)(e:b.2.2≠0)(f:c.2.2≠0)(g:a.2.2=0):d=a:=by
 by_cases h:J
 ·rw[Zx h]at P;rw[P]at e;exact Zz g e
 rw[Zq h]at P
 by_cases i:a4
 ·rw[Zx i]at P;rw[P]at f;exact Zz g f
 rw[Zq i]at P;exact P
structure Ro (c:cH) (me:Int) (X:bQ) (x:iu):Prop where
 no:(bF c me X x).1≠0->(bF c me X x).2.2.S=X.S
 Tc:(bF c me X x).1=0->(bF c me X x).2.2.S.l.length=X.S.l.length->x.key≠0/\(bF c me X x).2.2.S=X.S
 new:(bF c me X x).1=0->(bF c me X x).2.2.S.l.length≠X.S.l.length->∃e:aj,(bF c me X x).2.2.S.l=X.S.l++[e]/\aR e=(bF c me X x).2.1/\aR e=(me,(X.S.mD me.toNat:Int)+1)/\
  (x.key≠0->bF c me (bF c me X x).2.2 x=(0,aR e,(bF c me X x).2.2))
def Pg{x:iu}(r:jU e5 e)(u:c8.S.Cl)(B:c8.S.n=e5.bB.toNat)(C:c8.S.l.length<=20000000):Ro e5 e c8 x:=by
 obtain⟨Z,a6⟩:=r.Qr;obtain⟨a7,a8,a9⟩:=r.bB;obtain⟨l,s⟩:∃l:Nat,e=l:=⟨e.toNat,oM⟩
 have v:l<c8.S.n:=oM
 cases n:c8.log with
 |none=>
  have b:bF e5 e c8 x=(15,(0,0),c8):=by unfold bF;rw[n]
  refine⟨λ_=>by rw[b],λa=>?_,λa=>?_⟩<;>(rw[b]at a;simp at a)
 |some a0=>
 obtain⟨P,d⟩:∃P,jV e5.decl c8.S (b_ e5.decl c8.S.l) e e5.start x=P:=⟨_,rfl⟩
 have b:bF e5 e c8 x=(if P.2.2≠0 then(P.2.2,(0,0),c8)else if P.2.1 then(if(cT e5 c8 [P.1]).1≠0 then((cT e5 c8 [P.1]).1,(0,0),(cT e5 c8 [P.1]).2)else(0,aR P.1,(cT e5 c8 [P.1]).2))else(0,aR P.1,c8)):=by
  unfold bF;rw[n,<-d]
 have b0:=d;rw[jD]at d
 by_cases f:P.2.2≠0
 ·rw[Zx f]at b
  refine⟨λ_=>by rw[b],λa=>?_,λa=>?_⟩<;>(rw[b]at a;exact Zz a f)
 rw[Zq f]at b;have f:P.2.2=0:=Classical.not_not.1 f
 by_cases g:eJ e5.decl x≠0
 ·rw[Zx g]at d;rw[<-d]at f;exact Zz f g
 rw[Zq g]at d;have g:eJ e5.decl x=0:=Classical.not_not.1 g
 cases j:c8.S.keyed x.key with
 |some E=>
  rw[j]at d;simp only at d;subst d;have b:bF e5 e c8 x=(0,aR E,c8):=by rw[b];rfl
  refine⟨λa=>Zz (by rw[b]) a,λ_ _=>⟨?_,by rw[b]⟩,λ_ a=>Zz (by rw[b]) a⟩;intro F;unfold ar.keyed at j;have:=List.find?_some j;rw[F]at this;simp at this
 |none=>
  rw[j]at d;simp only at d;have d:=TC d sM sM f;have H:P.2.1=true:=by rw[<-d]at f⊢;simpa using f
  rw[Zx H]at b
  by_cases c:(cT e5 c8 [P.1]).1≠0
  ·rw[Zx c]at b
   have m:(cT e5 c8 [P.1]).2.S=c8.S:=by
    unfold cT at c⊢;rw[n]at c⊢;dsimp only at c⊢;split
    ·rfl
    rename_i k;rw[Zq k]at c;split
    ·rfl
    rename_i o;rw[Zq o]at c;exact Zz rfl c
   refine⟨λ_=>by rw[b];exact m,λa=>?_,λa=>?_⟩<;>(rw[b]at a;exact Zz a c)
  rw[Zq c]at b;have I:∃w,(cT e5 c8 [P.1]).2.log=some w/\(cT e5 c8 [P.1]).2.S=dZ e5 c8.S [P.1]:=by
   unfold cT at c⊢;rw[n]at c⊢;dsimp only at c⊢;split
   ·rename_i k;rw[Zx k]at c;exact Zz k c
   rename_i k;rw[Zq k]at c;split
   ·rename_i o;rw[Zx o]at c;exact Zz o c
   ·exact⟨_,rfl,rfl⟩
  obtain⟨w,J,K⟩:=I;have i:(aS x e c8.S.vec (max c8.S.top e5.start)).1=0:=by rw[<-d]at f;exact f
  have h:P.1=(aS x e c8.S.vec (max c8.S.top e5.start)).2:=by rw[<-d]
  have L:∀p∈c8.S.vec,0<=p:=λp q=>by
   unfold ar.vec at q;obtain⟨a1,-,rfl⟩:=Xk.1 q;omega
  have y:cP c8.S.vec e=c8.S.mD l:=by
   rw[xB (x:=(c8.S.mD l:Int)) oM (by rw[s,Qx];exact c8.S.jw v)];omega
  unfold aS at i h;dsimp only at i h
  by_cases z:e<0\/(c8.S.vec.length:Int)<=e\/max c8.S.top e5.start<0
  ·rw[Zx z]at i;cases i
  rw[Zq z]at i h
  by_cases A:cP c8.S.vec e=9223372036854775807\/max c8.S.top e5.start=9223372036854775807
  ·rw[Zx A]at i;cases i
  rw[Zq A]at h;dsimp only at h;unfold eJ at g;split at g
  ·cases g
  rename_i M;obtain⟨N,O,Q,R,S,T⟩:=Il r.decl g;have U:c8.S.add P.1=(0,⟨c8.S.n,c8.S.l++[P.1]⟩):=by
   have b1:=c8.S.ze;rw[h];exact u.next v C s (by dsimp only;rw[y]) (λp q=>by have:=ar.le_top p q;dsimp only;omega) be (La L) be be ⟨N,O⟩ ⟨Q,R⟩ ⟨S,T⟩
  have m:(cT e5 c8 [P.1]).2.S=⟨c8.S.n,c8.S.l++[P.1]⟩:=by
   rw[K,pf u B];show(c8.S.add P.1).2=_;rw[U]
  have V:aR P.1=(e,(c8.S.mD e.toNat:Int)+1):=by rw[h];unfold aR;dsimp only;rw[y,s,Qx]
  refine⟨λa=>Zz (by rw[b]) a,λ_ a=>?_,λ_ _=>⟨P.1,by rw[b];exact Zj ar.l m,by rw[b],V,λW=>?_⟩⟩
  ·rw[b]at a
   have a:(cT e5 c8 [P.1]).2.S.l.length=c8.S.l.length:=a;rw[m]at a;simp at a
  ·rw[b]
   dsimp only;generalize b2:(cT e5 c8 [P.1]).2=t at*;have X:t.S.keyed x.key=some P.1:=by
    rw[m];unfold ar.keyed at j⊢;rw[List.find?_append,j];simp only[Option.none_or];have:P.1.key=x.key:=by rw[h]
    simp[this,W]
   have Y:jV e5.decl t.S (b_ e5.decl t.S.l) e e5.start x=(P.1,false,0):=by
    rw[jD,Zq (by unfold eJ;rw[Zq M];simpa using g),X]
   unfold bF;rw[J];simp only;rw[Y];simp
def Eb{P:Type}[DecidableEq P]:∀{l m:List P},l.Nodup->(∀x∈l,x∈m)->l.length<=m.length
 |[],m,_,_=>Qj _
 |x::l,m,g,a=>by
  have b:=a x (QV ..);have c:=List.nodup_cons.1 g;have h:=Eb (l:=l) (m:=m.erase x) c.2 λd f=>(List.mem_erase_of_ne λe:d=x=>c.1 (e▸f)).2 (a d (QJ _ f));have i:=List.length_erase_of_mem b;have j:=List.length_pos_of_mem b;rw[Xq];omega
section
variable {w w' w0:World} {p q:Nat} {F G D E:XN} {c e:cH} {self other:Int} {X Y:bQ}
def cd.cl(P:cd w p F c self X):X.S.Cl/\X.S.n=c.bB.toNat:=by
 obtain⟨d,e,a,b⟩:=P;exact(b.at' 3).2
def cd.Ut(d:cd w p F c self X):X.D.Ok:=by
 obtain⟨g,a,P,e⟩:=d;obtain⟨Fd,f,-⟩:=(show DL w (λb=>F b/\P b=2) a.dp a.lp X.D X.log from e.at' 2)
 exact f.ok
def GI(c:eu w0)(d:Laid w0)(a:ai w0 w):PC XP 7 #[] w (λP e=>∃b:Bool,P= .bool b/\Ok (λP w'=>P= .bool true/\ai w0 w') (.returned (.bool b)) e) a2:=by
 refine PC.ok (GJ c d a) ?_;rintro _ w' ⟨rfl,f⟩;exact⟨_,rfl,Ok.mk ⟨rfl,a.then f⟩⟩
def Jd{tn h e i:Nat}(j:eu w0)(k:Laid w0)(l:ai w0 w)(n:aZ w D c.decl d tn r e)(o:aP c.dI)(q:aP c.every)(s:aP c.start)(t:∀u w',ai w w'->(bT c self).1≠0->m (.tuple #[.pointer u,XH (bT c self).1]) w')(v:∀p F w',(bT c self).1=0->ai w w'->cd w' p F c self (bT c self).2->(∀P,F P->w.heap.size<=P)->(bT c self).2.S.l.length<=16777216->m (.tuple #[XL p,XH 0]) w'):
  PC XP 9 #[pg c d tn h r e i] w (λx w'=>AB (fz XP 28) λf=>x=f/\PC XP 8 #[f,XH self] w' m a2) e6:=by
 refine PC.ok (Dy n) ?_;rintro _ O ⟨y,z,A,B,C,E,Q,rfl,H,I,a⟩;refine bS (JK c y z A B C E) ⟨rfl,PC.ok (DS j k (l.then a) H (λP b=>(I P b).2) o q s) ?_⟩;rintro R S ⟨g,⟨J,rfl⟩|⟨K,p,F,rfl,L,M,N⟩⟩
 ·exact t _ _ (a.then g) J
 ·exact v p F _ K (a.then g) L (λP b=>by have:=M P b;have:=a.size;omega) N
end
section
variable {w w' w0:World} {D E:XN} {l:List aj} {e:aj} {a ea:ZH} {n lc en ec:Nat}
def vN(h:Row iX 96 w D a n l)(B:Row aQ 8 w E ea en e.aN)(C:(l.map aR).Nodup)(F:e∈l):
  ZG 16 #[.slice a n lc,.agg (aD e ea en ec).toArray] w (Ok λH w'=>H= .bool true/\ai w w'):=by
 have a0:=h.len;have I:=h.dK;unfold aT at I;obtain⟨d,j,k⟩:=List.mem_iff_getElem.1 F;have t:∀(i:Nat) (c:aj),l[i]? =some c->(aR c=aR e↔i=d):=λi c P=>by
  constructor
  ·intro b
   obtain⟨m,P⟩:=Qv.1 P;have:=(List.getElem?_inj (l:=l.map aR) (i:=i) (j:=d) (by simpa using m) C).1 (by simp[m,j,P,k,b]);exact this
  ·rintro rfl
   rw[Qq j,k]at P;rw[XJ P]
 refine As (PA.mk λJ u s1 K=>?_);refine⟨λo L p w'=>∃i:Nat,p=i/\i<=n/\o=n-i/\L=(if d<i then 1 else 0)/\ai J w',⟨_,0,rfl,Qj _,rfl,rfl,ak.refl _⟩,?_⟩;rintro o _ _ _ v ⟨i,rfl,m,rfl,rfl,f⟩;refine an.dec (λa1=>?_) (λa2=>?_)
 ·have x:=u.then f
  obtain⟨q,y,c,es,rfl,M,-,P,r,N,O,Q,rfl,R,-⟩:=(h.ah x).uH (i:=i) oM;have s:=f.get K id;refine⟨q,y,rfl,oM,oM,_,_,by rw[Qx];exact r 0 dC,by rw[Qx];exact r 1 dC,_,_,ae s rfl,ae s rfl,_,λo=>Cp,λS z=>an.mk (λb=>?_) (λb=>?_)⟩
  ·have A:i=d:=(t i c P).1 (by simp at b;unfold aR;rw[b.1,b.2])
   have T:c=e:=by
    rw[A,Qq j,k]at P;exact(XJ P).symm
   intro U V;have g:ai v U:=(show ai v S from z.af).then V.af;have W:=x.then g;refine⟨q,y,rfl,oM,oM,bq (es:=aD c N O Q) (k:=10) (aX _ _ _ _) rfl (λp X=>by rw[Qx];exact(g.cell (a:=⟨q,_,none⟩) M id).trans (r p X)) (au (aX e ea en ec) (g.get s id) (PC.ok (kZ (R.ah g) (B.ah W)) ?_))⟩;rintro _ w5 ⟨rfl,Y⟩;refine⟨_,rfl,an.not (an.dec (λ_=>⟨_,oM,i+1,aq oM,oM,rfl,?_,(f.then g).then Y⟩) (λb=>Zz T b))⟩;rw[Zq oM,Zx oM];exact wrap_i64 bb
  ·have A:i≠d:=λZ=>by
    have:=(t i c P).2 Z;unfold aR at this;simp only[Prod.mk.injEq]at this;rw[this.1,this.2]at b;simp at b
   exact⟨_,oM,i+1,aq oM,oM,rfl,by by_cases h4:d<i<;>simp only[h4,if_true,if_false]<;>(first|rw[Zx oM]|rw[Zq oM]),f.then z.af⟩
 ·exact Ok.mk ⟨by rw[Zx oM];rfl,u.then f⟩
end
def oq:kC:=⟨[(12,[(14,XH 0)]),(16,[(15,XH 0)]),(27,[(19,XH 0)]),(32,[(20,XH 0)])],[],[],[],[]⟩
def ot{J K L M m b7 n b8:Nat}(a0:PA b (.cells #[.slice d J K,.slice r L M] 25) λb9=>PC_ 4 #[.ii 3] b9 (kX_ 28 λa1 P=>PA P (.cells #[.ii 0,.ii 0,.ii 0,.ii 0,.ii 0,.ii 0,.ii 0,.ii 0,.slice none 0 0,.slice none 0 0] 28) λc1=>St 28 (ab_ P 0) a1 c1 λA=>(∃N O Q R S T,A.cell? (ab_ b 0)=some (.slice N O Q)/\A.cell? (ab_ b (0+1))=some (.slice R S T)/\PS A (ab_ P (0+8)) (.slice N O Q) λc2=>PS c2 (ab_ P (0+8+1)) (.slice R S T) λc3=>PS c3 (ab_ P (0+1)) (.ii 262144) λc4=>PC_ 5 #[.ii e,.ii 32] c4 (kI_ λc5 c6=>PS c6 (ab_ P (0+3)) (.ii (XG .i64 (1+c5))) λU=>(Ld 28 (ab_ P 0) U λc7=>PC_ 6 #[c7,.slice none 0 0] U (kB λc8 g=>an c8 (PC_ 7 #[] g (kB λc9 d0=>rt z ((.bool c9)) d0) (pE z)) (an (decide ((m:Int)>40)) (PC_ 7 #[] g (kB λd1 d2=>rt z ((.bool d1)) d2) (pE z)) (an (decide ((n:Int)>40)) (PC_ 7 #[] g (kB λd3 d4=>rt z ((.bool d3)) d4) (pE z)) ((Ld 28 (ab_ P 0) g λd5=>PC_ 9 #[d5] g (kX_ 28 λd6 d7=>PC_ 8 #[d6,.ii 0] d7 (λd8 V=>∃a o,d8= .tuple #[.pointer a,.ii o]/\(Ld 28 (ab_ P 0) V λd9=>PC_ 9 #[d9] V (kX_ 28 λe0 e1=>PC_ 8 #[e0,.ii 2] e1 (λe2 h=>∃c p,e2= .tuple #[.pointer c,.ii p]/\an (o !=0) (an (o==p) (PC_ 7 #[] h (kB λe3 e4=>rt z ((.bool e3)) e4) (pE z)) (rt z ((.bool false)) h)) (an (p !=0) (an (o==p) (PC_ 7 #[] h (kB λe5 e6=>rt z ((.bool e5)) e6) (pE z)) (rt z ((.bool false)) h)) ((∃B:Nat->Int->XU,(∃q,B q 0 h)/\∀(q:Nat) (i:Int) (i5:Nat->Value) (s:World),B q i s->an (decide (i<(m:Int))) ((ix_ c0 i m λe7 a2=>(Ld 49 (ad e7 (a2+Int.toNat i*7)) s λe9=>PC_ 10 #[.pointer a,e9] s (kX_ 46 λi6 f0=>(∃W,W<q/\B W (XG .i64 (i+1)) f0)) (pE z)))) ((∃C:Nat->Int->XU,(∃t,C t 0 s)/\∀(t:Nat) (j:Int) (i7:Nat->Value) (u:World),C t j u->an (decide (j<(n:Int))) ((ix_ e8 j n λf1 f2=>(Ld 49 (ad f1 (f2+Int.toNat j*7)) u λf3=>PC_ 10 #[.pointer c,f3] u (kX_ 46 λi8 f4=>(∃X,X<t/\C X (XG .i64 (j+1)) f4)) (pE z)))) (PC_ 11 #[.pointer a] u (kS_ λf5 E i9 f6=>PC_ 11 #[.pointer c] f6 (kS_ λf7 F j0 f8=>PC_ 12 #[.pointer a,.pointer c,.ii 0,.ii 2,.ii 1000] f8 (kB λf9 Y=>an (!f9) (rt z ((.bool false)) Y) (PC_ 11 #[.pointer a] Y (kS_ λD v H Z=>an ((v:Int) !=(XG .i64 ((E:Int)+(F:Int)))) (rt z ((.bool false)) Z) (PC_ 11 #[.pointer c] Z (kS_ λg0 g1 g2 g3=>PC_ 13 #[.slice D v H,.slice g0 g1 g2] g3 (kB λg4 a4=>an (!g4) (rt z ((.bool false)) a4) (PC_ 15 #[.pointer a] a4 (kS_ λg5 g6 g7 g8=>PC_ 15 #[.pointer c] g8 (kS_ λg9 h0 h1 h2=>PC_ 14 #[.slice g5 g6 g7,.slice g9 h0 h1] h2 (kB λh3 a5=>an (!h3) (rt z ((.bool false)) a5) ((∃I:Nat->Int->XU,(∃w,I w 0 a5)/\∀(w:Nat) (k:Int) (j1:Nat->Value) (x:World),I w k x->an (decide (k<(E:Int))) ((ix_ f5 k E λh4 h5=>(Ld 59 (ad h4 (h5+Int.toNat k*10)) x λh6=>PC_ 16 #[.slice D v H,h6] x (kB λh7 a6=>an (!h7) (rt z ((.bool false)) a6) ((∃a7,a7<w/\I a7 (XG .i64 (k+1)) a6))) (pE z)))) ((∃G:Nat->Int->XU,(∃y,G y 0 x)/\∀(y:Nat) (l:Int) (j2:Nat->Value) (f:World),G y l f->an (decide (l<(F:Int))) ((ix_ f7 l F λh8 h9=>(Ld 59 (ad h8 (h9+Int.toNat l*10)) f λi0=>PC_ 16 #[.slice D v H,i0] f (kB λi1 a8=>an (!i1) (rt z ((.bool false)) a8) ((∃a9,a9<y/\G a9 (XG .i64 (l+1)) a8))) (pE z)))) ((∃b0 b1 b2 b3 b4 b5,f.cell? (ab_ b 0)=some (.slice b0 b1 b2)/\f.cell? (ab_ b (0+1))=some (.slice b3 b4 b5)/\PC_ 17 #[.pointer a,.pointer c,.agg #[.slice b0 b1 b2,.slice b3 b4 b5]] f (kB λi2 b6=>an i2 (PC_ 7 #[] b6 (kB λi3 i4=>rt z ((.bool i3)) i4) (pE z)) (rt z ((.bool false)) b6)) (pE z)))))))) (pE z)) (pE z)) (pE z))) (pE z)) (pE z))) (pE z))) (pE z)) (pE z)) (pE z)))))))) (pE z)) (pE z))) (pE z)) (pE z)))))) (pE z))) (pE z))) (pE z)):ZG 3 #[.agg #[.slice d J K,.slice r L M],.slice c0 m b7,.slice e8 n b8,.ii e] b z:=DC oq Tryz.func3 rfl a0
end Go.Proofs.YtkpomgifkloklacGreatDoor
namespace Go.aw
open Go Go.WideShapes
variable{L:Bool}{f8:List MemPlace}{a:Nat}{h:Program}{H j:Type}{g:TypeId}{t:Value}{b:World}
def MZ{P:TypeId×Value->j}{i:Reach}{e:DataW j}{f:jB H}{k:Array Field}(l:h.underlying g=some (.struct k))(m:Reads h f g)(n:Value.okWide h b i a g t)(o:DataW.Trod P h b 0 (λ_=>true) L g t e f8)(p:oV h g e):∃d cs,t= .agg cs/\f.rep b (In b) d cs.toList:=by
 obtain⟨cs,rfl,-⟩:=okWide_struct l n;obtain⟨c,q⟩:=o;obtain⟨d,r⟩:=m j P b L c cs.toList _ q p;exact⟨d,cs,rfl,r⟩
end Go.aw
namespace Go.Proofs.YtkpomgifkloklacGreatDoor
open Go.aw
def Sw:jB aM where
 k:=2
 rep:=λi D j cs=>∃P tn c a b d,cs=[.slice P tn c,.slice a b d]/\aZ i D j P tn a b
 af:=λ⟨P,tn,c,a,b,d,e,f⟩ k g=>⟨P,tn,c,a,b,d,e,f.af k g⟩
 mono:=λ⟨P,tn,c,a,b,d,e,f⟩ g=>⟨P,tn,c,a,b,d,e,f.mono g⟩
 len:=λ⟨P,tn,c,a,b,d,e,_⟩=>by rw[e];rfl
 one:=λ⟨P,tn,c,a,b,d,e,_⟩ l h=>by rw[e]at h;simp at h;rcases h with rfl|rfl<;>rfl
def Rn:jB iu:=flat 7 iK iu.Ok (λ_=>rfl) (λa b P=>by simp[iK]at P;rcases P with rfl|rfl|rfl|rfl|rfl|rfl|rfl<;>rfl)
def Ig:Reads XP fy 106:=λy f z A a cs B g C=>by
 obtain⟨h,E,_,rfl,i,j,P⟩:=DataW.trod_struct (Tryz.underlying106) g;have k:Tryz.prog.cellsOf 106=4:=kR
 have l:cs.length=4:=i.trans k;have m:Tryz.prog.cellsOf 3=1:=kR
 match cs,l with
 |[F,H,I,J],_=>
 match h,j with
 |[K,L,M,N],_=>
  have b:=P 0 _ rfl;have c:=P 1 _ rfl;have d:=P 2 _ rfl;have e:=P 3 _ rfl;simp only[m,List.drop_zero,List.drop_succ_cons,Zw,List.take_zero,List.take_nil,ZJ,ZZ]at b c d e;obtain⟨n,o,-,p⟩:=DataW.trod_int Tryz.underlying3 b;obtain⟨z1,q,-,r⟩:=DataW.trod_int Tryz.underlying3 c;obtain⟨s,t,-,u⟩:=DataW.trod_int Tryz.underlying3 d;obtain⟨v,w,-,x⟩:=DataW.trod_int Tryz.underlying3 e
  cases o;cases q;cases t;cases w
  exact⟨⟨n,z1,s,v⟩,rfl,cm p,cm r,cm u,cm x⟩
def KY:Reads XP nV 104:=λK f L M a cs N g h=>by
 obtain⟨i,O,_,rfl,j,k,P⟩:=DataW.trod_struct (Tryz.underlying104) g;have l:Tryz.prog.cellsOf 104=4:=kR
 have m:cs.length=4:=j.trans l;have n:Tryz.prog.cellsOf 3=1:=kR
 have o:Tryz.prog.cellsOf 4=1:=kR
 have p:Tryz.prog.cellsOf 102=1:=kR
 match cs,m with
 |[Q,R,S,T],_=>
 match i,k with
 |[U,V,W,q],_=>
  have b:=P 0 _ rfl;have c:=P 1 _ rfl;have d:=P 2 _ rfl;have e:=P 3 _ rfl;simp only[n,o,p,List.drop_zero,List.drop_succ_cons,Zw,List.take_zero,List.take_nil,ZJ,ZZ]at b c d e;obtain⟨r,s,-,t⟩:=DataW.trod_int Tryz.underlying3 b;obtain⟨z1,u,-,v⟩:=DataW.trod_int Tryz.underlying3 c;obtain⟨w,x,-⟩:=DataW.trod_bool Tryz.underlying4 d;have y:oV XP 102 q.1:=by
   intro z A;refine h z ?_;have B:Tryz.prog.underlying 104=_:=Tryz.underlying104;simp only[DataW.weights,B,QY,List.map_nil,DataW.weightsEach,Q6];right;right;right;left;exact A
  obtain⟨C,E,F,H,I,-,-,J⟩:=open_row (bytes:=32) Tryz.underlying102 kR dC kR (Ig) e y
  cases s;cases u;cases x;cases I
  exact⟨⟨r,z1,w,H⟩,C,E,F,rfl,J,cm t,cm v⟩
def KZ:Reads XP jG 111:=λw b x y P cs z c d=>by
 obtain⟨e,A,_,rfl,f,g,h⟩:=DataW.trod_struct (Tryz.underlying111) c;have i:Tryz.prog.cellsOf 111=1:=kR
 have j:cs.length=1:=f.trans i;have k:Tryz.prog.cellsOf 107=1:=kR
 match cs,j with
 |[B],_=>
 match e,g with
 |[l],_=>
  have a:=h 0 _ rfl;simp only[k,List.drop_zero,List.drop_succ_cons,Zw,List.take_zero,List.take_nil,ZJ,ZZ]at a;have m:oV XP 107 l.1:=by
   intro n o;refine d n ?_;have p:Tryz.prog.underlying 111=_:=Tryz.underlying111;simp only[DataW.weights,p,QY,List.map_nil,DataW.weightsEach,Q6];left;exact o
  obtain⟨q,r,s,t,u,-,-,v⟩:=open_row (bytes:=48) Tryz.underlying107 kR dC kR (KY) a m
  cases u
  exact⟨t,q,r,s,rfl,v⟩
def Ih:Reads XP tP 109:=λC g E F a cs H h I=>by
 obtain⟨i,J,_,rfl,j,k,P⟩:=DataW.trod_struct (Tryz.underlying109) h;have l:Tryz.prog.cellsOf 109=5:=kR
 have m:cs.length=5:=j.trans l;have n:Tryz.prog.cellsOf 3=1:=kR
 match cs,m with
 |[K,L,M,N,O],_=>
 match i,k with
 |[Q,R,S,T,U],_=>
  have b:=P 0 _ rfl;have c:=P 1 _ rfl;have d:=P 2 _ rfl;have e:=P 3 _ rfl;have f:=P 4 _ rfl;simp only[n,List.drop_zero,List.drop_succ_cons,Zw,List.take_zero,List.take_nil,ZJ,ZZ]at b c d e f;obtain⟨o,p,-,q⟩:=DataW.trod_int Tryz.underlying3 b;obtain⟨z1,r,-,s⟩:=DataW.trod_int Tryz.underlying3 c;obtain⟨t,u,-,v⟩:=DataW.trod_int Tryz.underlying3 d;obtain⟨w,x,-,y⟩:=DataW.trod_int Tryz.underlying3 e;obtain⟨z,A,-,B⟩:=DataW.trod_int Tryz.underlying3 f
  cases p;cases r;cases u;cases x;cases A
  exact⟨⟨o,z1,t,w,z⟩,rfl,cm q,cm s,cm v,cm y,cm B⟩
def Ii:Reads XP Sw 25:=λH h I J c cs K i d=>by
 obtain⟨j,L,_,rfl,k,l,e⟩:=DataW.trod_struct (Tryz.underlying25) i;have m:Tryz.prog.cellsOf 25=2:=kR
 have n:cs.length=2:=k.trans m;have o:Tryz.prog.cellsOf 22=1:=kR
 have p:Tryz.prog.cellsOf 23=1:=kR
 match cs,n with
 |[M,N],_=>
 match j,l with
 |[q,r],_=>
  have f:=e 0 _ rfl;have g:=e 1 _ rfl;simp only[o,p,List.drop_zero,List.drop_succ_cons,Zw,List.take_zero,List.take_nil,ZJ,ZZ]at f g;have s:oV XP 22 q.1:=by
   intro P a;refine d P ?_;have b:Tryz.prog.underlying 25=_:=Tryz.underlying25;simp only[DataW.weights,b,QY,List.map_nil,DataW.weightsEach,Q6];left;exact a
  obtain⟨t,u,v,w,x,-,-,y⟩:=open_row (bytes:=24) Tryz.underlying22 kR dC kR (KZ) f s;have z:oV XP 23 r.1:=by
   intro P a;refine d P ?_;have b:Tryz.prog.underlying 25=_:=Tryz.underlying25;simp only[DataW.weights,b,QY,List.map_nil,DataW.weightsEach,Q6];right;left;exact a
  obtain⟨A,B,C,z1,E,-,-,F⟩:=open_row (bytes:=40) Tryz.underlying23 kR dC kR (Ih) g z
  cases x;cases E
  exact⟨⟨w,z1⟩,t,u,v,A,B,C,rfl,⟨y,F⟩⟩
def BJ:Reads XP Rn 49:=λL i M N a cs O j Q=>by
 obtain⟨k,R,_,rfl,l,m,P⟩:=DataW.trod_struct (Tryz.underlying49) j;have n:Tryz.prog.cellsOf 49=7:=kR
 have o:cs.length=7:=l.trans n;have p:Tryz.prog.cellsOf 3=1:=kR
 match cs,o with
 |[S,T,U,V,W,X,Y],_=>
 match k,m with
 |[Z,y1,y2,y3,y4,y5,y6],_=>
  have b:=P 0 _ rfl;have c:=P 1 _ rfl;have d:=P 2 _ rfl;have e:=P 3 _ rfl;have f:=P 4 _ rfl;have g:=P 5 _ rfl;have h:=P 6 _ rfl;simp only[p,List.drop_zero,List.drop_succ_cons,Zw,List.take_zero,List.take_nil,ZJ,ZZ]at b c d e f g h;obtain⟨q,r,-,s⟩:=DataW.trod_int Tryz.underlying3 b;obtain⟨z1,t,-,u⟩:=DataW.trod_int Tryz.underlying3 c;obtain⟨v,w,-,x⟩:=DataW.trod_int Tryz.underlying3 d;obtain⟨y,z,-,A⟩:=DataW.trod_int Tryz.underlying3 e;obtain⟨B,C,-,E⟩:=DataW.trod_int Tryz.underlying3 f;obtain⟨F,H,-,w5⟩:=DataW.trod_int Tryz.underlying3 g;obtain⟨I,J,-,K⟩:=DataW.trod_int Tryz.underlying3 h
  cases r;cases t;cases w;cases z;cases C;cases H;cases J
  exact⟨⟨q,z1,v,y,B,F,I⟩,rfl,cm s,cm u,cm x,cm A,cm E,cm K⟩

import Derived.Test.YtblabbpipmodgaaGreatDoorKr18
import Derived.Test.YtblabbpipmodgaaGreatDoorYrQue
set_option maxHeartbeats 4000000
set_option linter.all false
set_option maxRecDepth 100000
open Go.IntKind renaming wrap→ZG
namespace Go.Proofs.YtblabbpipmodgaaGreatDoor
open Go.aw
def sH(c:cN)(d:Int)(e:cN)(g i j:Int):Nat->bM->bM->List dd->Option (bM×bM)
 |0,P,a,h=>if h=[]then some (P,a)else none
 |f+1,P,a,[]=>some (P,a)
 |f+1,P,a,b::h=>
  if b.pF=j then
   (if(cg e g a b).2.1≠0 then none else sH c d e g i j f P (cg e g a b).2.2 (h++(cg e g a b).1))
  else if b.pF≠i then none else
   (if(cg c d P b).2.1≠0 then none else sH c d e g i j f (cg c d P b).2.2 a (h++(cg c d P b).1))
abbrev lG(P:GV):List Value:=bZ P.m P.va P.vn P.vc P.ea P.en P.ec
def fx(a:World)(d:ZN)(e:Nat)(b:YQ)(f g:Nat)(h:List dd):Prop:=
 ∃(c:List GV) (D:ZN),KY a 60 5 b f g (c.flatMap lG)/\c.map (·.m)=h/\(∀P∈c,P.In a D)/\(∀P,D P->P<a.heap.size/\aH b≠some P/\¬d P/\e<=P)/\∀P,aH b=some P->¬d P/\e<=P
def Mx{a:World}{D:ZN}:∀{P:List GV} {cs:List Value},bR SK a D P cs->cs=P.flatMap lG
 |[],_,c=>by cases c;rfl
 |b::P,_,⟨g,h,d,⟨e,_⟩,f⟩=>by rw[d,e,Mx f];rfl
def Ux:∀(b:List GV),∀P∈b.flatMap lG,P.oneCell'=true:=λb P a=>by
 obtain⟨c,-,a⟩:=List.mem_flatMap.1 a;exact SK.one (D:=λ_=>False) (w:=default) ⟨rfl,trivial⟩ P a
def Uy(P:List GV):(P.flatMap lG).length=P.length*5:=by
 induction P with
 |nil=>rfl
 |cons b P a=>rw[List.flatMap_cons,QX,a,Xq];show 5+_=_;omega
variable{f:ZN}{d0:bM}{d8:dd}
section
variable {w w' w0 w1 w2:World} {p q:Nat} {F G Z:ZN} {cA cB:cN} {sA sB i k:Int} {A B:bM} {a:YQ} {n c:Nat} {ms:List dd} {v:Value}
def fe.xM(h:fe w Z ms v w'){Y:ZN}(f:∀P,Y P->Z P\/P<w.heap.size):∃a n c,v= .slice a n c/\fx w' Y w.heap.size a n c ms:=by
 obtain⟨a,n,c,i,D,rfl,j,k,l,d,g⟩:=h;obtain⟨cs,p,m,o,q⟩:=j.body;have:=Mx o;subst this;refine⟨a,n,c,rfl,i,D,m.Xt,k,l,λP b=>⟨(d P b).2.1,(d P b).2.2.1,λe=>?_,(d P b).1⟩,λP b=>⟨λe=>?_,(g P b).1⟩⟩
 ·have:=d P b
  exact(f P e).elim this.2.2.2 oM
 ·have:=g P b
  exact(f P e).elim this.2 oM
def fx.len{P:Nat}(b:fx w Z P a n c ms):n=ms.length:=by
 obtain⟨f,D,d,e,-⟩:=b;have:=d.len;rw[Uy]at this;rw[<-e,Q8];omega
def fx.lt{b:Nat}(d:fx w Z b a n c ms):∀P,aH a=some P->P<w.heap.size:=by
 obtain⟨f,D,e,-⟩:=d;exact e.lt
def fx.keep{h:Nat}(k:fx w Z h a n c ms)(d:aj f w w')(i:∀P,f P->Z P):fx w' Z h a n c ms:=by
 obtain⟨l,D,m,o,p,e,j⟩:=k;exact⟨l,D,m.keep d λP b g=>(j P b).1 (i P g),o,λP b=>(p P b).keep d λP b g=>(e P b).2.2.1 (i P g),λP b=>⟨Qk (e P b).1 d.size,(e P b).2⟩,j⟩
def fx.less{g h:Nat}(m:fx w Z g a n c ms)(i:∀P,f P->Z P\/w.heap.size<=P)(j:h<=g):fx w f h a n c ms:=by
 obtain⟨o,D,k,p,q,d,l⟩:=m;exact⟨o,D,k,p,q,λP b=>⟨(d P b).1,(d P b).2.1,λe=>(i P e).elim (d P b).2.2.1 (by have:=(d P b).1;omega),Xx j (d P b).2.2.2⟩,λP b=>⟨λe=>(i P e).elim (l P b).1 (by have:=k.lt P b;omega),Xx j (l P b).2⟩⟩
def fx.pop{l:Nat}(m:fx w Z l a n c (d8::ms)):∃f g o p t q r u D,a=some ⟨f,g,none⟩/\(∀d,d<5->w.cell? ⟨f,g+d,none⟩=(bZ d8 o p t q r u)[d]?)/\Row aM 8 w D o p d8.vec/\Row ia 96 w D q r d8.events/\(∀b,D b->b<w.heap.size/\¬Z b)/\fx w Z l (cI a 1 c 5) (n-1) (c-1) ms:=by
 have v:=m.len;obtain⟨e,D,h,x,i,k,y⟩:=m;rw[Xq]at v
 match e,h,x,i with
 |b::e,h,j,i=>
  simp only[QY,List.cons.injEq]at j;obtain⟨rfl,j⟩:=j;obtain⟨f,g,rfl,z⟩:=h.cell oM;have s:=i b (QV ..);refine⟨f,g,b.va,b.vn,b.vc,b.ea,b.en,b.ec,D,rfl,λd A=>?_,s.1,s.2,λb P=>⟨(k b P).1,(k b P).2.2.1⟩,e,D,?_,j,λB C=>i B (QJ _ C),λb P=>by rw[IF];exact k b P,λb P=>by rw[IF]at P;exact y b P⟩
  ·rw[z d oM,List.flatMap_cons,XW (show d<5 from A)]
  ·have:=h.tail oM
   rw[List.flatMap_cons,show(lG b++e.flatMap lG).drop 5=e.flatMap lG from List.drop_left' rfl]at this;exact this
def fx.app{q L:TypeId}{r g:Nat}(z:fx w Z r a n c ms)(M:jq ZP q 60 5 72){s:YQ}{e t:Nat}{u:List dd}(A:fx w Z g s e t u)(B:∀b,aH a=some b->b<g)(a4:r<=g)(a5:g<=w.heap.size)(hl:ms.length+u.length<=100000)(N:∀b,Z b->b<w.heap.size){C O:ZR}(v:∀h i w',fx w' Z r h (n+e) i (ms++u)->aj (λj=>aH a=some j) w w'->C (.slice h (n+e) i) w'):
  aG ZP (Builtin.append_ #[q,q] L #[.slice a n c,.slice s e t]) w C O:=by
 have hn:=z.len;have hm:=A.len;obtain⟨Q,D,R,S,T,E,F⟩:=z;obtain⟨x,U,k,V,W,I,r5⟩:=A;have X:s=none->e=0/\t=0:=λd=>by
  rcases k.body with⟨_,Y,h3⟩|⟨a0,a1,a2,f,_⟩
  ·exact⟨Y,h3⟩
  ·rw[d]at f;cases f
 refine R.app M (news:=x.flatMap lG) k.len X (λp hp j a6 J=>?_) (Ux x) ba (by unfold maxLen;omega) λh i w' y l m=>?_
 ·subst hp
  have a3:j<e*5:=by
   rw[<-k.len];exact(Qv.1 J).1
  obtain⟨a0,a1,f,hc⟩:=k.cell oM
  cases f
  rw[Addr.add_lit];exact(hc j a3).trans J
 ·rw[<-List.flatMap_append]at y
  have a7:=l.size;have a8:=y.lt;refine v h i w' ⟨Q++x,λb=>D b\/U b,y,by rw[Q3,S,V],λb P=>?_,λb P=>?_,λb P=>⟨λK=>?_,?_⟩⟩ l
  ·rcases Q6.1 P with P|P
   ·exact((T b P).keep l λb P=>(E b P).2.1).mono λb P=>.inl P
   ·exact((W b P).keep l λb P f=>by have:=B b f;have:=(I b P).2.2.2;omega).mono λb P=>.inr P
  ·rcases P with P|P
   ·have o:=E b P
    refine⟨oM,λd=>?_,o.2.2.1,oM⟩;rcases m with H|H
    ·rw[H]at d;exact o.2.1 d
    ·rw[H]at d;cases d;omega
   ·have o:=I b P
    refine⟨oM,λd=>?_,o.2.2.1,oM⟩;rcases m with H|H
    ·rw[H]at d;have:=B b d;omega
    ·rw[H]at d;cases d;omega
  ·rcases m with H|H
   ·rw[H]at P;exact(F b P).1 K
   ·rw[H]at P;cases P;have:=N _ K;omega
  ·rcases m with H|H
   ·rw[H]at P;exact(F b P).2
   ·rw[H]at P;cases P;omega
structure iM (w0 w:World) (p q:Nat) (F G:ZN) (cA:cN) (sA:Int) (cB:cN) (sB:Int) (A B:bM):Prop where
 a:bN w p F cA sA A
 b:bN w q G cB sB B
 ea:Env w0 w F
 eb:Env w0 w G
 apart:∀b,F b->¬G b
def iM.af(P:iM w0 w p q F G cA sA cB sB A B)(a:ai w w'):iM w0 w' p q F G cA sA cB sB A B:=⟨P.a.af a,P.b.af a,P.ea.af a,P.eb.af a,P.apart⟩
def iM.keep(a:iM w0 w p q F G cA sA cB sB A B)(c:aj f w w')(d:∀P,F P\/G P->¬f P)(e:∀P,f P->w0.heap.size<=P):iM w0 w' p q F G cA sA cB sB A B:=
 ⟨a.a.keep c λP b=>d P (.inl b),a.b.keep c λP b=>d P (.inr b),⟨a.ea.nH,a.ea.laid,a.ea.gr.new c λP b=>.inr (e P b),a.ea.aE⟩,⟨a.eb.nH,a.eb.laid,a.eb.gr.new c λP b=>.inr (e P b),a.eb.aE⟩,a.apart⟩
def iM.BJ(P:iM w0 w p q F G cA sA cB sB A B)(g:bN w' p f cA sA d0)(c:cQ F w f w'):iM w0 w' p q f G cA sA cB sB d0 B:=
 ⟨g,P.b.keep c.keep λa b d=>P.apart a d b,P.ea.Cn c,⟨P.eb.nH,P.eb.laid,P.ea.gr.new c.keep λa b=>.inr (P.ea.aE a b),P.eb.aE⟩,λa b e=>(c.new a b).elim (λd=>P.apart a d e) λh=>by have:=P.b.aE a e;omega⟩
def iM.swap(P:iM w0 w p q F G cA sA cB sB A B):iM w0 w q p G F cB sB cA sA B A:=⟨P.b,P.a,P.eb,P.ea,λa b c=>P.apart a c b⟩
def iM.TH(P:iM w0 w p q F G cA sA cB sB A B)(a:bN w' q f cB sB d0)(b:cQ G w f w'):iM w0 w' p q F f cA sA cB sB A d0:=(P.swap.BJ a b).swap
abbrev kO(F G:ZN):ZN:=λP=>F P\/G P
end
def XH:jq ZP 56 60 5 72:=⟨kR,kR,dC⟩
def KZ(a:au)(P:Int)(b:dd)(c:Int):(lH a P b c).length<=2:=by
 unfold lH;split
 ·simp
 dsimp only;split<;>split<;>simp[List.isEmpty]
def xN(a:cN)(P:Int)(b:bM)(c:dd):(cg a P b c).1.length<=2:=by
 unfold cg;split
 ·simp
 dsimp only;split
 ·simp
 split
 ·simp
 split
 ·unfold mf
  dsimp only;split
  ·simp
  split<;>simp
 split
 ·exact KZ _ _ _ _
 split<;>simp
section
variable {w w' w0 w1 w2:World} {p q:Nat} {F G Z:ZN} {cA cB:cN} {sA sB i k:Int} {A B:bM}
def K_(a:iM w0 w p q F G cA sA cB sB A B)(hk:aN k){most:Nat}(g0:most<=1000)(hA:A.S.l.length<=17000000)(hB:B.S.l.length<=17000000)(h1:(gl cA sA A k 0).1.length=1){H I:bM}(hm:sH cA sA cB sB i k most (gl cA sA A k 0).2 B (gl cA sA A k 0).1=some (H,I)):
  YX 31 #[ZL p,ZL q,ZH i,ZH k,ZH (most:Int)] w (Ok λJ w'=>J= .bool true/\∃O Q,iM w0 w' p q O Q cA sA cB sB H I/\cQ (kO F G) w (kO O Q) w'):=by
 refine FB (PC.ok (vf a.a hk) ?_);rintro _ w7 ⟨F7,T,d7,b6⟩;have d8:=a.BJ d7 b6;have c8:=a.a.aE;have b8:=a.b.aE;obtain⟨g1,n7,g2,rfl,U⟩:=T.xM (Y:=kO F7 G) λP a=>a.imp id λh=>b8 P h;have g3:=U.len;have d9:=Bm cA sA A k 0;refine⟨_,_,_,rfl,al.dV (λe0=>Zz oM e0) (λ_=>?_)⟩;refine⟨λb7 fa V o b1 w'=>∃(c:Nat) (e f:ZN) (j l:bM) (d:List dd),b1=c/\c<=most/\b7=most-c/\iM w0 w' p q e f cA sA cB sB j l/\cQ (kO F G) w (kO e f) w'/\fx w' (kO e f) w.heap.size fa V o d/\d.length<=1+2*c/\
   sH cA sA cB sB i k (most-c) j l d=some (H,I)/\j.S.l.length<=17000300+300*c/\l.S.l.length<=17000300+300*c,
  ⟨_,0,F7,G,_,B,_,rfl,Qj _,rfl,d8,b6.left,U.less (λP a=>.inl a) (Q4 _),oM,hm,by rcases d9.evs with h|h<;>omega,oM⟩,?_⟩
 rintro b7 fa V o _ _ b9 ⟨c,e,f,j,l,d,rfl,hj,rfl,W,a4,X,b2,b,g4,g5⟩;have K:=X.len;have c8:=W.a.aE;have b8:=W.b.aE;have z:∀{w':World} {e f:ZN} {Y:Nat} {d:List dd} {j l:bM},iM w0 w' p q e f cA sA cB sB j l->cQ (kO F G) w (kO e f) w'->Y=d.length->d=[]->some (j,l)=some (H,I)->
   Ok (λJ w'=>J= .bool true/\∃O Q,iM w0 w' p q O Q cA sA cB sB H I/\cQ (kO F G) w (kO O Q) w') (.returned (.bool ((Y:Int)==0))) w':=λa e1 hn c0 Z=>by
  cases Z
  subst c0;subst hn;exact Ok.mk ⟨rfl,_,_,a,e1⟩
 refine al.dec (λc9=>?_) (λg6=>?_)
 rotate_left
 ·have:most-c=0:=oM
  rw[this]at b;unfold sH at b;split at b
  ·rename_i c0;exact z W a4 K c0 b
  ·cases b
 obtain⟨a5,r⟩:∃a5,most-c=a5+1:=⟨most-c-1,oM⟩
 rw[r]at b
 match d,X,K,b2,b with
 |[],X,K,b2,b=>exact al.dec (λh0=>by simp at K;omega) (λ_=>z W a4 K rfl b)
 |x::d,X,K,b2,b=>
  rw[Xq]at K b2;refine al.dec (λ_=>?_) (λh0=>oM);obtain⟨a0,a1,va,vn,vc,ea,en,ec,D,rfl,hc,hv,Z,hD,e2⟩:=X.pop;refine⟨a0,a1,rfl,oM,oM,bB (es:=bZ x va vn vc ea en ec) (k:=5) (jy _ _ _ _ _ _ _) rfl (λb1 ht=>hc b1 ht) (PA.mk λg7 e3 g8 e4=>aC (jy x va vn vc ea en ec) e4 rfl λL e5 g9 c1=>⟨oM,oM,?_⟩)⟩;have R:ai b9 L:=e3.new e5 λP a=>.inr (by have a:P=b9.heap.size:=a;omega);have h6:=R.size;have m:=W.af R;have a7:fx L (kO e f) w.heap.size (cI (some ⟨a0,a1,none⟩) 1 o 5) (V-1) (o-1) d:=e2.keep R λP a=>a.elim;have c2:cQ (kO F G) w (kO e f) L:=⟨a4.keep.af R,a4.new⟩
  have e6:=a.ea.gr.size;have a2:∀{n:World} {C E:ZN} {a6 a8:bM} {ms:List dd} {J:Value},iM w0 n p q C E cA sA cB sB a6 a8->cQ (kO e f) L (kO C E) n->(∃s t u,J= .slice s t u/\fx n (kO C E) L.heap.size s t u ms)->ms.length<=2->
    sH cA sA cB sB i k a5 a6 a8 (d++ms)=some (H,I)->a6.S.l.length<=17000300+300*(c+1)->a8.S.l.length<=17000300+300*(c+1)->n.heap[b9.heap.size]? =some (.cells (bZ x va vn vc ea en ec).toArray 60 (0,0))/\∃s t u,J= .slice s t u/\
    ∀ε:ZR,aG ZP (Builtin.append_ #[56,56] 56 #[.slice (cI (some ⟨a0,a1,none⟩) (Int.toNat 1) o 5) (V-Int.toNat 1) (o-Int.toNat 1),.slice s t u]) n (λe7 b3=>∃(c7:YQ) (Y d0:Nat),e7= .slice c7 Y d0/\∃d1,d1<most-c/\
     ∃(M:Nat) (e f:ZN) (j l:bM) (d:List dd),ZG .i64 ((c:Int)+1)=M/\M<=most/\d1=most-M/\iM w0 b3 p q e f cA sA cB sB j l/\cQ (kO F G) w (kO e f) b3/\fx b3 (kO e f) w.heap.size c7 Y d0 d/\d.length<=1+2*M/\
      sH cA sA cB sB i k (most-M) j l d=some (H,I)/\j.S.l.length<=17000300+300*M/\l.S.l.length<=17000300+300*M) ε:=λ{n C E a6 a8 ms J} c3 v e8 h7 e9 f0 f1=>by
   refine⟨v.keep.get c1 λh=>h.elim (λh=>by have:=c8 _ h;omega) λh=>by have:=b8 _ h;omega,?_⟩;obtain⟨s,t,u,rfl,f2⟩:=e8;refine⟨s,t,u,rfl,λε=>?_⟩;have d2:fx n (kO C E) w.heap.size (cI (some ⟨a0,a1,none⟩) 1 o 5) (V-1) (o-1) d:=by
    obtain⟨f3,D,h1,h2,h3,h4,h5⟩:=a7.keep v.keep λP a=>a;have c9:=a7.lt;obtain⟨L',D',f4,f5,f6,S,c4⟩:=a7;refine⟨L',D',f4.keep v.keep λP a=>(c4 P a).1,f5,λP a=>(f6 P a).keep v.keep λP a=>(S P a).2.2.1,λP a=>⟨Qk (S P a).1 v.keep.size,(S P a).2.1,λhz=>(v.new P hz).elim (S P a).2.2.1 (by have:=(S P a).1;omega),(S P a).2.2.2⟩,λP a=>⟨λhz=>(v.new P hz).elim (c4 P a).1 (by have:=c9 P a;omega),(c4 P a).2⟩⟩
   have f7:∀P,kO C E P->P<n.heap.size:=λP a=>a.elim (c3.a.aE P) (c3.b.aE P);refine fx.app d2 XH f2 (λP a=>a7.lt P a) c2.keep.size v.keep.size oM f7 λa' c' b3 f8 d3=>?_;have b4:∀P,aH (cI (some ⟨a0,a1,none⟩) 1 o 5)=some P->¬kO C E P/\w.heap.size<=P:=λP a=>by
    obtain⟨f3,D,h1,h2,h3,h4,h5⟩:=d2;exact h5 P a
   have f9:=c3.keep d3 (λP a Z=>(b4 P Z).1 a) λP a=>by have:=(b4 P a).2;have:=e6;omega
   refine⟨_,_,_,rfl,_,oM,c+1,C,E,a6,a8,d++ms,an oM,oM,rfl,f9,?_,f8,by rw[QX];omega,by rw[show most-(c+1)=a5 by omega];exact e9,f0,f1⟩;have h9:=c2.trans v;exact⟨h9.keep.new d3 λP a=>.inr (b4 P a).2,h9.new⟩
  refine⟨λd4 w'=>d4=(if x.pF=k then ZM q else ZM p)/\L=w',⟨x.pF,ae c1 rfl,al.eD (λh=>⟨by rw[Zx h],rfl⟩) (λh=>⟨by rw[Zq h],rfl⟩)⟩,?_⟩;rintro d4 _ _ ⟨rfl,rfl⟩;refine ar (jy x va vn vc ea en ec) c1 ?_;have d5:=hv.af R;have d6:=Z.af R;have a9:∀P,D P->P<L.heap.size:=λP a=>by have:=(hD P a).1;omega
  unfold sH at b
  by_cases b0:x.pF=k
  ·rw[Zx b0]
   rw[Zx b0]at b;split at b
   ·cases b
   rename_i N;have N:(cg cB sB l x).2.1=0:=Classical.not_not.1 N;refine PC.ok (qz m.b m.eb d5 (λP a=>⟨a9 P a,λr=>(hD P a).2 (.inr r)⟩) d6 (λP a=>⟨a9 P a,λr=>(hD P a).2 (.inr r)⟩) oM) ?_;rintro _ n ⟨v1,Q,rfl,T,b5,a3⟩;have c5:=l_ cB sB l x m.b.waits m.b.ok.Bk.2;rw[N];obtain⟨y,s,t,u,rfl,g⟩:=a2 (m.TH b5 a3) a3.right (T.xM λP a=>a.elim (λh=>.inr (by have:=m.a.aE P h;omega)) .inl) (xN ..) b oM (by rcases c5.evs with h|h<;>omega);refine⟨_,_,_,_,rfl,al.dV (λh=>Zz rfl h) (λ_=>⟨_,ae y rfl,al.dV (λh=>⟨_,ae y rfl,al.dV (λh2=>Zz b0 h2) (λ_=>g _)⟩) (λ_=>g _)⟩)⟩
  ·rw[Zq b0]
   rw[Zq b0]at b;split at b
   ·cases b
   rename_i c6;have c6:x.pF=i:=Classical.not_not.1 c6;split at b
   ·cases b
   rename_i N;have N:(cg cA sA j x).2.1=0:=Classical.not_not.1 N;refine PC.ok (qz m.a m.ea d5 (λP a=>⟨a9 P a,λr=>(hD P a).2 (.inl r)⟩) d6 (λP a=>⟨a9 P a,λr=>(hD P a).2 (.inl r)⟩) oM) ?_;rintro _ n ⟨v1,O,rfl,T,b5,a3⟩;have c5:=l_ cA sA j x m.a.waits m.a.ok.Bk.2;rw[N];obtain⟨y,s,t,u,rfl,g⟩:=a2 (m.BJ b5 a3) a3.left (T.xM λP a=>a.elim .inl (λh=>.inr (by have:=m.b.aE P h;omega))) (xN ..) b (by rcases c5.evs with h|h<;>omega) oM;refine⟨_,_,_,_,rfl,al.dV (λh=>Zz rfl h) (λ_=>⟨_,ae y rfl,al.dV (λh=>Zz c6 h) (λ_=>g _)⟩)⟩
end
def nw:aS:=⟨[[⟨1,1,true,[]⟩,⟨2,3,false,[]⟩,⟨3,2,false,[]⟩,⟨4,2,false,[⟨0,1,0,2⟩,⟨1,0,-1,0⟩,⟨0,2,-1,0⟩]⟩,⟨2,2,false,[]⟩,⟨1,1,false,[]⟩]],[⟨0,0,1,0,2⟩,⟨0,2,2,0,1⟩,⟨0,5,3,4,4⟩]⟩
def cC(P:Int):cN:=⟨P,131072,400,3,20,5,4,0,nw⟩
def RB:Bool:=
 (cj (cC 2) 0).1==0&&((cj (cC 2) 1).1==0&&((eh (cC 2) 0 (cj (cC 2) 0).2 ⟨0,0,0,1,3,-1,0⟩).1==0&&((eh (cC 2) 0 (cj (cC 2) 0).2 ⟨0,0,0,1,3,-1,0⟩).2.1==((0:Int),(1:Int))&&((Da nw (cj (cC 2) 1).2.S.l 0 0).code==14&&((gl (cC 2) 1 (cj (cC 2) 1).2 0 0).1.length==1&&
  (match sH (cC 2) 1 (cC 2) 0 1 0 100 (gl (cC 2) 1 (cj (cC 2) 1).2 0 0).2 (eh (cC 2) 0 (cj (cC 2) 0).2 ⟨0,0,0,1,3,-1,0⟩).2.2 (gl (cC 2) 1 (cj (cC 2) 1).2 0 0).1 with
  |none=>false
  |some (P,a)=>(Da nw P.S.l 0 0).code==0&&((Da nw P.S.l 0 0).st.cells.length==6&&(((Da nw P.S.l 0 0).st.cells.getD 0 ⟨0,[]⟩).n==3&&((Da nw P.S.l 0 0).st.version==1&&P.S.vec==[1,0])))))))))
def LO:RB=true:=by decide+kernel
variable{p:Array Value}{w:ByteArray}{z:ZT}{e q:Int}{a3 e5:List PanicEntry->ZU}{a c:Nat}{C:Nat×Nat}{d r:YQ}{j:Type}{g:TypeId}{m:ZR}{b:World}{W:bP}
def Row.zG{c:jU j}{bytes P:Nat}{D:ZN}(e:b.heap[P]? =some (.cells p g C)){xs:List j}(l:bR c b D xs p.toList)(q:0<c.k)(a:xs.length*bytes<=aO):Row c bytes b (λd=>d=P\/D d) (ZM P) xs.length xs:=
 ⟨rfl,a,λr s m=>by
  obtain⟨f,n,h⟩:=l.at m;have t:=c.len h;refine⟨P,0,f,rfl,aA e,.inl rfl,λi o=>?_,c.mono h λd a=>.inr a⟩;have k:=n i o;rw[Qq (show i<f.length by omega)]at k⊢;rw[Xz];exact ae e (by simpa using k)⟩
def i10(P:(decide (-1000000<=e)&&decide (e<=1000000))=true):aN e:=by
 simp only[QK,Zk]at P;unfold aN;omega
section
variable {w w' w0:World}
def LP:YX 26 #[] w (Ok λu w'=>∃n tn v o p x G,u= .agg #[.slice n tn v,.slice o p x]/\bj w' G nw n tn o p/\(∀P,G P->w.heap.size<=P/\P<w'.heap.size)/\ai w w'):=by
 refine FD (PA.mk λc y V z=>PA.mk λe A W B=>PA.mk λg q X C=>PA.mk λh l Y E=>PA.mk λr i Z F=>?_);have s:=((A.then q).then l).then i;refine PS.mk (s.get z id) sM λw6 H s6 I=>PS.mk I sM λd J s7 t=>⟨_,_,_,_,_,_,ae t rfl,ae t rfl,?_⟩
 have f:aj (λP=>P=w.heap.size) r d:=H.then J;have K:=f.get (i.get (l.get (q.get B id) id) id) (λa=>by have a:c.heap.size=w.heap.size:=a;omega);have L:=f.get (i.get (l.get C id) id) (λa=>by have a:e.heap.size=w.heap.size:=a;omega);have M:=f.get (i.get E id) (λa=>by have a:g.heap.size=w.heap.size:=a;omega);have N:=f.get F (λa=>by have a:h.heap.size=w.heap.size:=a;omega);have O:Row fU 32 d (λP=>P=c.heap.size\/False) (ZM c.heap.size) 3 [⟨0,1,0,2⟩,⟨1,0,-1,0⟩,⟨0,2,-1,0⟩]:=
  Row.zG (c:=fU) (xs:=[⟨0,1,0,2⟩,⟨1,0,-1,0⟩,⟨0,2,-1,0⟩]) (D:=λ_=>False) K ⟨_,_,rfl,⟨rfl,i10 rfl,i10 rfl,i10 rfl,i10 rfl⟩,_,_,rfl,⟨rfl,i10 rfl,i10 rfl,i10 rfl,i10 rfl⟩,_,_,rfl,⟨rfl,i10 rfl,i10 rfl,i10 rfl,i10 rfl⟩,rfl⟩ dC dC
 have Q:Row oU 48 d (λP=>P=e.heap.size\/P=c.heap.size\/False) (ZM e.heap.size) 6 [⟨1,1,true,[]⟩,⟨2,3,false,[]⟩,⟨3,2,false,[]⟩,⟨4,2,false,[⟨0,1,0,2⟩,⟨1,0,-1,0⟩,⟨0,2,-1,0⟩]⟩,⟨2,2,false,[]⟩,⟨1,1,false,[]⟩]:=by
  have no:∀(j k:Int) (m:Bool),aN j->aN k->oU.rep d (λP=>P=c.heap.size\/False) ⟨j,k,m,[]⟩ [ZH j,ZH k,.bool m,.slice none 0 0]:=λj k m R S=>⟨none,0,0,rfl,ef _ _,R,S⟩
  exact Row.zG (c:=oU) (xs:=[⟨1,1,true,[]⟩,⟨2,3,false,[]⟩,⟨3,2,false,[]⟩,⟨4,2,false,[⟨0,1,0,2⟩,⟨1,0,-1,0⟩,⟨0,2,-1,0⟩]⟩,⟨2,2,false,[]⟩,⟨1,1,false,[]⟩]) (D:=λP=>P=c.heap.size\/False) L ⟨_,_,rfl,no 1 1 true (i10 rfl) (i10 rfl),_,_,rfl,no 2 3 false (i10 rfl) (i10 rfl),_,_,rfl,no 3 2 false (i10 rfl) (i10 rfl),_,_,rfl,⟨_,_,_,rfl,O,i10 rfl,i10 rfl⟩,_,_,rfl,no 2 2 false (i10 rfl) (i10 rfl),_,_,rfl,no 1 1 false (i10 rfl) (i10 rfl),rfl⟩ dC dC
 have T:Row uY 40 d (λP=>P=g.heap.size\/False) (ZM g.heap.size) 3 nw.projs:=
  Row.zG (c:=uY) (xs:=[⟨0,0,1,0,2⟩,⟨0,2,2,0,1⟩,⟨0,5,3,4,4⟩]) (D:=λ_=>False) M ⟨_,_,rfl,⟨rfl,i10 rfl,i10 rfl,i10 rfl,i10 rfl,i10 rfl⟩,_,_,rfl,⟨rfl,i10 rfl,i10 rfl,i10 rfl,i10 rfl,i10 rfl⟩,_,_,rfl,⟨rfl,i10 rfl,i10 rfl,i10 rfl,i10 rfl,i10 rfl⟩,rfl⟩ dC dC
 have U:Row ks 24 d (λP=>P=h.heap.size\/P=e.heap.size\/P=c.heap.size\/False) (ZM h.heap.size) 1 nw.types:=
  Row.zG (c:=ks) (xs:=[[⟨1,1,true,[]⟩,⟨2,3,false,[]⟩,⟨3,2,false,[]⟩,⟨4,2,false,[⟨0,1,0,2⟩,⟨1,0,-1,0⟩,⟨0,2,-1,0⟩]⟩,⟨2,2,false,[]⟩,⟨1,1,false,[]⟩]]) (D:=λP=>P=e.heap.size\/P=c.heap.size\/False) N ⟨_,_,rfl,⟨_,_,_,rfl,Q⟩,rfl⟩ dC dC
 refine Ok.mk ⟨_,_,_,_,_,_,λP=>(P=h.heap.size\/P=e.heap.size\/P=c.heap.size\/False)\/P=g.heap.size\/False,rfl,⟨U.mono λP b=>.inl b,T.mono λP b=>.inr b⟩,λP b=>?_,?_⟩
 ·have z7:d.heap.size=r.heap.size:=oM
  rcases b with(rfl|rfl|rfl|b)|rfl|b<;>first|omega|exact b.elim
 ·exact(y.then s).new f λP b=>.inr (by have b:P=w.heap.size:=b;omega)
def yj:YX 8 #[ZH e] w (Ok λl w'=>∃a tn f b c g G,l=od (cC e) a tn f b c g/\bj w' G nw a tn b c/\(∀P,G P->w.heap.size<=P/\P<w'.heap.size)/\ai w w'):=by
 refine CA (PA.mk λq m r n=>PC.ok LP ?_);rintro _ s ⟨a,tn,f,b,c,g,G,rfl,o,h,i⟩;refine⟨_,_,_,_,_,_,rfl,aC (su (cC e) a tn f b c g) (i.get n id) rfl λt j u p=>ar (su (cC e) a tn f b c g) p (Ok.mk ⟨a,tn,f,b,c,g,G,rfl,o.keep j λP d k=>by have k:P=w.heap.size:=k;have:=h P d;omega,λP d=>by have:=h P d;omega,(m.then i).new j λP d=>.inr (by have d:P=w.heap.size:=d;omega)⟩)⟩
def VU(P:lf):RG (fD ZP 49) (sW P)=true:=kR
def OJ{P arg:Int}:YX 29 #[ZH P,ZH arg] w (Ok λb w'=>b=sW ⟨0,P,0,1,arg,-1,0⟩/\ai w w'):=
 Hy (PA.mk λh c i d=>aC (DF ⟨0,P,0,1,arg,-1,0⟩) d rfl λj e k f=>ar (DF ⟨0,P,0,1,arg,-1,0⟩) f (Ok.mk ⟨rfl,c.new e λg a=>.inr (by have a:g=w.heap.size:=a;omega)⟩))
def iM.made{g G:ZN}{j k:cN}{l m:bM}(n:eX w0)(o:Laid w0)(f:ai w0 w)(p:bN b a g j e l)(s:∀P,g P->w.heap.size<=P)(h:ai w b)(i:ai b w')(d:bN w' c G k q m)(r:∀P,G P->b.heap.size<=P):iM w0 w' a c g G j e k q l m:=
 ⟨p.af i,d,⟨n,o,f.then (h.then i),λP d=>by have:=s P d;have:=f.size;omega⟩,⟨n,o,f.then (h.then i),λP d=>by have:=r P d;have:=f.size;have:=h.size;omega⟩,λP t u=>by have:=p.aE P t;have:=r P u;omega⟩
def Jy:∃(f P g a d:bM) (h b:tP),cj (cC 2) 0=(0,f)/\cj (cC 2) 1=(0,P)/\eh (cC 2) 0 f ⟨0,0,0,1,3,-1,0⟩=(0,(0,1),g)/\Da nw P.S.l 0 0=h/\h.code=14/\(gl (cC 2) 1 P 0 0).1.length=1/\
  sH (cC 2) 1 (cC 2) 0 1 0 100 (gl (cC 2) 1 P 0 0).2 g (gl (cC 2) 1 P 0 0).1=some (a,d)/\Da nw a.S.l 0 0=b/\b.code=0/\b.st.cells.length=6/\(b.st.cells.getD 0 ⟨0,[]⟩).n=3/\b.st.version=1/\a.S.vec=[1,0]:=by
 have e:=LO;unfold RB at e;simp only[QK,beq_iff_eq]at e;obtain⟨i,j,k,l,m,n,c⟩:=e;split at c
 ·cases c
 ·rename_i a d o
  simp only[QK,beq_iff_eq]at c;obtain⟨p,q,r,s,t⟩:=c;exact⟨_,_,_,a,d,_,_,Prod.ext i rfl,Prod.ext j rfl,Prod.ext k (Prod.ext l rfl),rfl,m,n,o,rfl,p,q,r,s,t⟩
def Jg(j:eX w0)(k:Laid w0)(l:ai w0 w):YX 10 #[] w (Ok λa3 w'=>a3= .bool true/\ai w w'):=by
 obtain⟨F,XB,i3,YB,YA,i4,H,e1,e2,e3,e4,e5,e6,e7,e8,e9,i5,d8,d9,e0⟩:=Jy;have I:(cC 2).decl=nw:=rfl;refine Cy (PC.ok yj ?_);rintro _ w2 ⟨ta,tn,tc,pa,pn,pc,G2,rfl,f2,f3,m⟩;refine cm (PZ (cC 2) ta tn tc pa pn pc) ⟨rfl,PC.ok (Gz (c:=cC 2) j k (l.then m) f2 (λa P=>(f3 a P).2) (i10 rfl) (i10 rfl) (i10 rfl)) ?_⟩;rintro v5 w5 b;unfold Ln at b;rw[e1]at b;obtain⟨k5,⟨n,-⟩|⟨-,a4,a5,rfl,J,o,f4⟩⟩:=b
 ·exact Zz rfl n
 dsimp only at J f4;have d:=m.then k5;refine⟨_,_,rfl,PC.ok yj ?_⟩;rintro _ w9 ⟨tb,tm,td,pb,pm,pd,G9,rfl,f5,f6,e⟩;refine cm (PZ (cC 2) tb tm td pb pm pd) ⟨rfl,PC.ok (Gz (c:=cC 2) j k ((l.then d).then e) f5 (λa P=>(f6 a P).2) (i10 rfl) (i10 rfl) (i10 rfl)) ?_⟩;rintro i6 g0 b;unfold Ln at b;rw[e2]at b;obtain⟨K,⟨n,-⟩|⟨-,a6,G,rfl,L,M,g1⟩⟩:=b
 ·exact Zz rfl n
 dsimp only at L g1;have z5:=d.size;have z9:=e.size;have z2:=m.size;generalize i7:cC 2=p at*;have g2:iM w0 g0 a4 a6 a5 G p 0 p 1 F XB:=iM.made (w:=w) j k l J (λa P=>by have:=o a P;omega) d (e.then K) L λa P=>by have:=M a P;omega
 have N:=(d.then e).then K;refine⟨_,_,rfl,al.dV (λh=>Zz rfl h) (λ_=>al.dV (λh=>Zz rfl h) (λ_=>gA Tryz.underlying33 ⟨_,rfl,al.ff rfl (gA Tryz.underlying33 ⟨_,rfl,al.ff rfl (PC.ok OJ ?_)⟩)⟩))⟩;rintro _ i8 ⟨rfl,q⟩;have r:=g2.af q;have g3:lf.Ok ⟨0,0,0,1,3,-1,0⟩:=⟨i10 rfl,i10 rfl,i10 rfl,i10 rfl,i10 rfl,i10 rfl⟩
 refine cm (VU _) ⟨rfl,PC.ok (xC r.a r.ea g3 oM) ?_⟩;have s:=Bl p 0 F ⟨0,0,0,1,3,-1,0⟩;rintro _ t ⟨i9,f,u,v⟩;rw[e3]at s f u;dsimp only at s f u;have a7:=r.BJ u v;rw[Zq sM]at f;obtain⟨O,Q,R,S,T,U,V,W,X,-,rfl,-⟩:=f;refine cm (H_ _ O Q R S T U V W X) ⟨rfl,PA.mk λj0 g4 j1 g5=>aC (kY _ O Q R S T U V W X) g5 rfl λg6 b2 j2 g7=>?_⟩;have Y:ai t g6:=g4.new b2 λa P=>.inr (by have P:a=t.heap.size:=P;omega);have Z:=a7.af Y;refine PC.ok (zt Z.b) ?_;rintro _ b4 ⟨a0,x⟩;rw[I,e4]at a0;obtain⟨b5,b6,b7,b8,b9,c0,c1,c3,c4,-,rfl,-⟩:=a0;refine cm (H_ _ b5 b6 b7 b8 b9 c0 c1 c3 c4) ⟨rfl,PA.mk λj3 g8 j4 g9=>aC (kY _ b5 b6 b7 b8 b9 c0 c1 c3 c4) g9 rfl λc5 y j5 h2=>?_⟩;have z:ai b4 c5:=g8.new y λa P=>.inr (by have P:a=b4.heap.size:=P;omega);have A:=z.get (x.get g7 id) id;refine⟨_,ae A rfl,al.dV (λh=>Zz rfl h) (λ_=>⟨_,_,ae A rfl,ae A rfl,aG.mk PY ⟨_,rfl,al.ff rfl ⟨_,ae h2 rfl,al.dV (λh=>Zz e5 h) (λ_=>?_)⟩⟩⟩)⟩;have a8:=(Z.af x).af z;refine PC.ok (K_ (most:=100) a8.swap (i10 rfl) dC oM (by rcases s.evs with h|h<;>omega) e6 e7) ?_;rintro _ j6 ⟨rfl,j7,j8,a1,a9⟩;refine⟨_,rfl,al.not (al.tt rfl (PC.ok (zt a1.a) ?_))⟩;rintro _ B ⟨a2,c6⟩;rw[I,e8]at a2;have c:ai w B:=by
  have h3:ai w t:=(N.then q).new v.keep λa P=>.inr (by have:=o a P;omega);have y:ai w c5:=((h3.then Y).then x).then z;refine(y.new a9.keep λa P=>.inr ?_).then c6;rcases P with P|P
  ·have:=M a P;omega
  ·rcases v.new a P with h|h
   ·have:=o a h;omega
   ·have:=N.size;have:=q.size;omega
 obtain⟨c7,c8,c9,d0,d1,d2,d3,d4,d5,G3,rfl,g,-⟩:=a2;refine cm (H_ H c7 c8 c9 d0 d1 d2 d3 d4 d5) ⟨rfl,PA.mk λj9 h4 k0 h5=>aC (kY H c7 c8 c9 d0 d1 d2 d3 d4 d5) h5 rfl λh6 d6 k1 i=>?_⟩;have C:ai B h6:=h4.new d6 λa P=>.inr (by have P:a=B.heap.size:=P;omega);have g:=g.af C;have k3:=g.len;obtain⟨a,b0,k4,k6,k7,rfl,k8,-,h7,-⟩:=my (i:=0) g oM;refine⟨_,ae i rfl,al.eD (λ_=>⟨_,_,_,ae i rfl,al.eD (λ_=>⟨_,_,_,ae i rfl,a,b0,rfl,oM,oM,_,h7,al.eD (λ_=>⟨_,ae i rfl,al.eD (λ_=>?_) (λh=>Zz d9 h)⟩) (λh=>Zz d8 h)⟩) (λh=>Zz oM h)⟩) (λh=>Zz e9 h)⟩;refine PC.ok (SQ ((a1.a.af c6).af C)) ?_;rintro _ l0 ⟨l3,l4,l5,l6,rfl,E,h8,i1⟩;rw[e0]at E;have i2:=E.len dC;refine⟨_,_,_,rfl,PA.mk λl7 d7 l8 h9=>PC.ok (lY (xs:=[1,0]) (ys:=[1,0]) ((E.af d7).row dC dC) (Row.lit h9 [1,0] rfl (λb1 hx=>by simp at hx;rcases hx with rfl|rfl<;>exact i10 rfl) dC)) ?_⟩;rintro _ l9 ⟨rfl,i0⟩;exact⟨_,rfl,Ok.mk ⟨sM,(((c.then C).then h8).then d7).then i0.keep⟩⟩
end
section
variable {w w' w0:World} {p q:Nat} {F G D E:ZN} {c e:cN} {self other:Int} {X Y:bM}
def Lz(c:cN)(self:Int):(cj c self).2.fV.asked=[]:=by
 have P:(Bq c).2.fV.asked=[]:=by unfold Bq;rw[xD]
 unfold cj;split
 ·exact P
 split<;>exact P
def bN.cl(P:bN w p F c self X):X.S.Cl/\X.S.n=c.bW.toNat:=by
 obtain⟨d,e,a,b⟩:=P;exact(b.at' 3).2
def bN.XI(d:bN w p F c self X):X.D.Ok:=by
 obtain⟨g,a,P,e⟩:=d;obtain⟨Fd,f,-⟩:=(show DL w (λb=>F b/\P b=2) a.dp a.lp X.D X.log from e.at' 2)
 exact f.ok
def Rb(c:eX w0)(d:Laid w0)(a:ai w0 w):PC ZP 10 #[] w (λP e=>∃b:Bool,P= .bool b/\Ok (λP w'=>P= .bool true/\ai w0 w') (.returned (.bool b)) e) a3:=by
 refine PC.ok (Jg c d a) ?_;rintro _ w' ⟨rfl,f⟩;exact⟨_,rfl,Ok.mk ⟨rfl,a.then f⟩⟩
def Ly{tn h e i:Nat}(j:eX w0)(k:Laid w0)(l:ai w0 w)(n:bj w D c.decl d tn r e)(o:aN c.bl)(q:aN c.every)(s:aN c.start)(t:∀u w',ai w w'->(cj c self).1≠0->m (.tuple #[.pointer u,ZH (cj c self).1]) w')(v:∀p F w',(cj c self).1=0->ai w w'->bN w' p F c self (cj c self).2->(∀P,F P->w.heap.size<=P)->(cj c self).2.S.l.length<=16777216->m (.tuple #[ZL p,ZH 0]) w'):
  PC ZP 12 #[od c d tn h r e i] w (λx w'=>Cx (fD ZP 29) λf=>x=f/\PC ZP 11 #[f,ZH self] w' m a3) e5:=by
 refine PC.ok (Gf n) ?_;rintro _ O ⟨y,z,A,B,C,E,Q,rfl,H,I,a⟩;refine cm (PZ c y z A B C E) ⟨rfl,PC.ok (Gz j k (l.then a) H (λP b=>(I P b).2) o q s) ?_⟩;rintro R S ⟨g,⟨J,rfl⟩|⟨K,p,F,rfl,L,M,N⟩⟩
 ·exact t _ _ (a.then g) J
 ·exact v p F _ K (a.then g) L (λP b=>by have:=M P b;have:=a.size;omega) N
end
section
variable {w w' w0:World} {D E:ZN} {l:List ah} {e:ah} {a ea:YQ} {n lc en ec:Nat}
def GW(h:Row ia 96 w D a n l)(B:Row aM 8 w E ea en e.aJ)(C:(l.map aX).Nodup)(F:e∈l):
  YX 21 #[.slice a n lc,.agg (aD e ea en ec).toArray] w (Ok λH w'=>H= .bool true/\ai w w'):=by
 have a0:=h.len;have I:=h.dO;unfold aO at I;obtain⟨d,j,k⟩:=List.mem_iff_getElem.1 F;have t:∀(i:Nat) (c:ah),l[i]? =some c->(aX c=aX e↔i=d):=λi c P=>by
  constructor
  ·intro b
   obtain⟨m,P⟩:=Qv.1 P;have:=(List.getElem?_inj (l:=l.map aX) (i:=i) (j:=d) (by simpa using m) C).1 (by simp[m,j,P,k,b]);exact this
  ·rintro rfl
   rw[Qq j,k]at P;rw[XJ P]
 refine Co (PA.mk λJ u s1 K=>?_);refine⟨λo L p w'=>∃i:Nat,p=i/\i<=n/\o=n-i/\L=(if d<i then 1 else 0)/\ai J w',⟨_,0,rfl,Qj _,rfl,rfl,aj.refl _⟩,?_⟩;rintro o _ _ _ v ⟨i,rfl,m,rfl,rfl,f⟩;refine al.dec (λa1=>?_) (λa2=>?_)
 ·have x:=u.then f
  obtain⟨q,y,c,es,rfl,M,-,P,r,N,O,Q,rfl,R,-⟩:=(h.af x).vQ (i:=i) oM;have s:=f.get K id;refine⟨q,y,rfl,oM,oM,_,_,by rw[Qx];exact r 0 dC,by rw[Qx];exact r 1 dC,_,_,ae s rfl,ae s rfl,_,λo=>EM,λS z=>al.mk (λb=>?_) (λb=>?_)⟩
  ·have A:i=d:=(t i c P).1 (by simp at b;unfold aX;rw[b.1,b.2])
   have T:c=e:=by
    rw[A,Qq j,k]at P;exact(XJ P).symm
   intro U V;have g:ai v U:=(show ai v S from z.keep).then V.keep;have W:=x.then g;refine⟨q,y,rfl,oM,oM,bB (es:=aD c N O Q) (k:=10) (bf _ _ _ _) rfl (λp X=>by rw[Qx];exact(g.cell (a:=⟨q,_,none⟩) M id).trans (r p X)) (ar (bf e ea en ec) (g.get s id) (PC.ok (lK (R.af g) (B.af W)) ?_))⟩;rintro _ w5 ⟨rfl,Y⟩;refine⟨_,rfl,al.not (al.dec (λ_=>⟨_,oM,i+1,an oM,oM,rfl,?_,(f.then g).then Y⟩) (λb=>Zz T b))⟩;rw[Zq oM,Zx oM];exact wrap_i64 bb
  ·have A:i≠d:=λZ=>by
    have:=(t i c P).2 Z;unfold aX at this;simp only[Prod.mk.injEq]at this;rw[this.1,this.2]at b;simp at b
   exact⟨_,oM,i+1,an oM,oM,rfl,by by_cases h4:d<i<;>simp only[h4,if_true,if_false]<;>(first|rw[Zx oM]|rw[Zq oM]),f.then z.keep⟩
 ·exact Ok.mk ⟨by rw[Zx oM];rfl,u.then f⟩
end
def pX{l:List ah}(a:∀P∈l,P.Ok/\P.aJ.length<=64):bG (az l)=(l,(az l).length):=by
 have:=xK a [];rw[List.append_nil,qJ]at this;simpa using this
def En(P:List ah)(a:Nat):(az P).take (az (P.take a)).length=az (P.take a):=by
 conv=>lhs;rw[<-ZX a P,fQ]
 rw[show(List.take a (List.take a P++List.drop a P))=P.take a by rw[ZX]];exact List.take_left
def wV(P:0<=e/\e<1000000000000):gB (ay e)=(e,true):=by
 unfold gB ay;rw[nn,ou P.1 P.2];simp;omega
def SI(P:Int)(a:ByteArray):P<=eC P a:=by unfold eC;split<;>omega
def Mv:∀(a:List ByteArray) (P:Int),P<=a.foldl eC P
 |[],P=>Int.le_refl P
 |s::a,P=>Int.le_trans (SI P s) (Mv a _)
def IC:∀(P:List ByteArray) (c:Int) {a:ByteArray},a∈P->(gB a).2=true->(gB a).1+1<=P.foldl eC c
 |e::P,c,a,b,d=>by
  rcases Q2.1 b with rfl|b
  ·refine Int.le_trans ?_ (Mv P _)
   unfold eC;rw[Zx d];omega
  ·exact IC P _ b d
def Ii{D:ak}(P:0<=e/\e<1000000000000)(b:(aq D.files (ay e)).isSome=true):e<gQ D:=by
 have a:=IC D.list 1 (Eo.2 b) (by rw[wV P]);rw[wV P]at a;unfold gQ sE;simp only at a;omega
section
variable {D E:ak} {A:oV} {no:Int} {l x:List ah} {k j n s:Nat} {V:dw}
def Ik(A:oV)(k:Nat):Nat:=((A.map (·.2)).flatten).length+k
def Vv(P:Int)(A:oV):Prop:=∀a∈A,P<=((az a.2).length:Nat)
def Il(i:cM D A no l k)(j:GU V A no l)(I:∀d∈x,d.Ok)(T:x.length<=20000000)(J:D.Ok)(n:Vv V.size A):
  ∃a b c e,cM (aF V D x).2.2 a b c e/\GU (aF V D x).2.1 a b c/\Ik A k<=Ik a e/\cu a c=(if(aF V D x).1=0 then cu A l++x else cu A l)/\(aF V D x).2.1.size=V.size/\Vv V.size a/\
   ((a=A/\b=no/\(aF V D x).2.1.next=V.next)\/(a=A++[(no,l)]/\b=V.next/\(aF V D x).2.1.next=V.next+1)):=by
 unfold aF
 by_cases u:x.any eK=true
 ·rw[Zx u]
  exact⟨A,no,l,k,i,j,Q4 _,rfl,rfl,n,.inl ⟨rfl,rfl,rfl⟩⟩
 rw[Zq u]
 by_cases v:x=[]
 ·rw[Zx v]
  exact⟨A,no,l,k,i,j,Q4 _,by rw[Zx rfl,v,List.append_nil],rfl,n,.inl ⟨rfl,rfl,rfl⟩⟩
 rw[Zq v];have B:∀d∈x,d.Ok/\d.aJ.length<=64:=λd o=>⟨I d o,by
  have:¬eK d=true:=λg=>u (List.any_eq_true.2 ⟨d,o,g⟩);unfold eK at this;simp at this;omega⟩
 have U:=HJ B;have K:(az l).length<=262144:=by
  obtain⟨s,w,_⟩:=i.last;exact J.len (cf w)
 have h:∀(P:Int×dw×ak) (a:oV) (b:Int) (c:List ah) (e:Nat),P.1=0->cM P.2.2 a b c e->GU P.2.1 a b c->(az c).length<=262144->Ik A k<=Ik a e->cu a c=cu A l->P.2.1.size=V.size->Vv V.size a->
   ((a=A/\b=no/\P.2.1.next=V.next)\/(a=A++[(no,l)]/\b=V.next/\P.2.1.next=V.next+1))->
   ∃a b c e,cM (if P.1≠0 then P else if(P.2.2.append P.2.1.last (az x)).1≠0 then((P.2.2.append P.2.1.last (az x)).1,P.2.1,(P.2.2.append P.2.1.last (az x)).2)else(0,⟨P.2.1.size,P.2.1.bd,ZG .i64 (P.2.1.bytes+((az x).length:Nat)),P.2.1.next⟩,(P.2.2.append P.2.1.last (az x)).2)).2.2 a b c e/\
    GU (if P.1≠0 then P else if(P.2.2.append P.2.1.last (az x)).1≠0 then((P.2.2.append P.2.1.last (az x)).1,P.2.1,(P.2.2.append P.2.1.last (az x)).2)else(0,⟨P.2.1.size,P.2.1.bd,ZG .i64 (P.2.1.bytes+((az x).length:Nat)),P.2.1.next⟩,(P.2.2.append P.2.1.last (az x)).2)).2.1 a b c/\Ik A k<=Ik a e/\
    cu a c=(if(if P.1≠0 then P else if(P.2.2.append P.2.1.last (az x)).1≠0 then((P.2.2.append P.2.1.last (az x)).1,P.2.1,(P.2.2.append P.2.1.last (az x)).2)else(0,⟨P.2.1.size,P.2.1.bd,ZG .i64 (P.2.1.bytes+((az x).length:Nat)),P.2.1.next⟩,(P.2.2.append P.2.1.last (az x)).2)).1=0 then cu A l++x else cu A l)/\
    (if P.1≠0 then P else if(P.2.2.append P.2.1.last (az x)).1≠0 then((P.2.2.append P.2.1.last (az x)).1,P.2.1,(P.2.2.append P.2.1.last (az x)).2)else(0,⟨P.2.1.size,P.2.1.bd,ZG .i64 (P.2.1.bytes+((az x).length:Nat)),P.2.1.next⟩,(P.2.2.append P.2.1.last (az x)).2)).2.1.size=V.size/\Vv V.size a/\
    ((a=A/\b=no/\(if P.1≠0 then P else if(P.2.2.append P.2.1.last (az x)).1≠0 then((P.2.2.append P.2.1.last (az x)).1,P.2.1,(P.2.2.append P.2.1.last (az x)).2)else(0,⟨P.2.1.size,P.2.1.bd,ZG .i64 (P.2.1.bytes+((az x).length:Nat)),P.2.1.next⟩,(P.2.2.append P.2.1.last (az x)).2)).2.1.next=V.next)\/
     (a=A++[(no,l)]/\b=V.next/\(if P.1≠0 then P else if(P.2.2.append P.2.1.last (az x)).1≠0 then((P.2.2.append P.2.1.last (az x)).1,P.2.1,(P.2.2.append P.2.1.last (az x)).2)else(0,⟨P.2.1.size,P.2.1.bd,ZG .i64 (P.2.1.bytes+((az x).length:Nat)),P.2.1.next⟩,(P.2.2.append P.2.1.last (az x)).2)).2.1.next=V.next+1)):=by
  intro P a b c e L m f W C o E F g;rw[Zq (by simpa using L)];rw[cM.KP f];rcases nI P.2.2 (ay b) (az x)with⟨r,y⟩|⟨r,X,p,y⟩
  ·rw[Zx r]
   exact⟨a,b,c,e,m.files y,f,C,by rw[Zq r];exact o,E,F,g⟩
  ·rw[Zq (by simpa using r)]
   obtain⟨s,w,M,Y⟩:=m.last;rw[w]at p;cases p
   refine⟨a,b,c++x,e,m.put (s:=s) (by rw[y,fQ]) (by have:=m.kl;simp;omega) ?_ (by rw[fQ];simp;omega) ?_,⟨f.bd,?_,f.next⟩,C,?_,E,F,g⟩
   ·rw[List.take_append_of_le_length m.kl];exact M
   ·intro d N
    rcases Q6.1 N with H|H
    ·exact m.VY d H
    ·exact B d H
   ·show ZG .i64 _=_
    rw[f.bytes,wrap_i64 bb,fQ];simp
   ·rw[Zx rfl,<-o];simp[cu]
 dsimp only
 by_cases g:V.size<=V.bytes
 ·rw[Zx g]
  rcases i.begin j with⟨t,q,z⟩|⟨t,q,z,O,Q⟩
  ·rw[Zx t]
   exact⟨A,no,l,k,z,by rw[q];exact j,Q4 _,by rw[Zq t],by rw[q],n,.inl ⟨rfl,rfl,by rw[q]⟩⟩
  ·refine h _ (A++[(no,l)]) V.next [] 0 t z O (by simp[az]) ?_ (by rw[BE,List.append_nil]) q ?_ (.inr ⟨rfl,rfl,Q⟩)
   ·have:=i.kl;unfold Ik;simp;omega
   ·intro R S
    rcases Q6.1 S with H|H
    ·exact n R H
    ·rw[List.mem_singleton]at H;subst H
     rw[j.bytes]at g;exact g
 ·rw[Zq g]
  exact h (0,V,D) A no l k rfl i j K (Q4 _) rfl rfl n (.inl ⟨rfl,rfl,rfl⟩)
def Gs(s:bV D)(t:Tidy D.files)(b:0<=V.next/\V.next<1000000000000)(c:aq D.files (ay V.next)=none):
  bV (bA V D).2.2/\((bA V D).1=0\/(bA V D).1=3\/(bA V D).1=12)/\((bA V D).1≠0->aq (bA V D).2.2.files (ay V.next)=none):=by
 obtain⟨x,nt⟩:=fj (n:=V.next) (.inr b);unfold bA;dsimp only;rw[show cF (ax V.next)=ay V.next from rfl];obtain⟨d,e⟩:=s.create (ay V.next);have e:=e ((s_ b.1).2 b.2) c;rcases kv D (ay V.next)with⟨f,l⟩|⟨f,l,y,m⟩
 ·rw[Zx f]
  exact⟨d,e.imp id .inr,λ_=>by show aq (D.create _).2.files _=none;rw[l];exact c⟩
 rw[Zq (show¬(D.create (ay V.next)).1≠0 by simpa using f)];have g:te (ay V.next) D (D.create (ay V.next)).2:=(te.refl t).put m;have n:aq (D.create (ay V.next)).2.files (ay V.next)=some ⟨[],0,false⟩:=by rw[m,bD];simp
 generalize(D.create (ay V.next)).2=a at g n d;unfold mj;dsimp only;rw[show cF (ax V.next)=ay V.next from rfl];obtain⟨o,h⟩:=d.sync (ay V.next);have h:=h _ n;rw[Zq (show¬(a.sync (ay V.next)).1≠0 by simpa using h)];have i:Tidy (a.sync (ay V.next)).2.files:=by
  rcases mL a (ay V.next)with⟨j,P⟩|⟨j,z,c,P⟩
  ·rw[P];exact g.1
  ·rw[P];exact g.1.aI _ _
 generalize(a.sync (ay V.next)).2=k at i o;obtain⟨p,u⟩:=o.bC i (V.bd++[V.next]);have mt:Tidy (bC k (V.bd++[V.next])).2.files:=by
  rcases JQ i (V.bd++[V.next])with⟨-,q,-⟩|⟨-,-,q,-⟩<;>exact q
 by_cases r:(bC k (V.bd++[V.next])).1=0
 ·rw[Zq (by simpa using r)]
  exact⟨p,.inl rfl,λv=>Zz rfl v⟩
 ·rw[Zx r]
  obtain⟨j,P⟩:=p.delete (ay V.next);refine⟨j,u,λ_=>?_⟩;show aq ((bC k (V.bd++[V.next])).2.delete (ay V.next)).2.files _=none;rcases P with P|⟨P,w⟩
  ·rw[P,fL mt];simp
  ·rw[w];exact P
def TG(V:dw)(D:ak):Prop:=∀P,V.next<=P->P<1000000000000->aq D.files (ay P)=none
end
section
variable {D E:ak} {A:oV} {no:Int} {l x:List ah} {k j n s:Nat} {V:dw}
def bV.read(P:bV D)(a:aq D.files w=some W):D.read w=(W.bytes,0):=by
 unfold ak.read;rw[P.dead,a];rfl
def bV.told(a:bV D){P:List Int}(b:aq D.files bS=some (dP (bO P)))(c:∀x∈P,aN x)(d:P.length<=64):told D=P:=by
 unfold Go.Proofs.YtblabbpipmodgaaGreatDoor.told dz;rw[a.read b,Zq sM,show(dP (bO P)).bytes=bO P from rfl,nJ c d];rfl
def xL(e:bV D):∀(A:oV) (P:List Int) (a:List ah) (V:dw),(∀x∈A,aq D.files (ay x.1)=some (dP (az x.2)))->(∀b∈(A.map (·.2)).flatten,b.Ok/\b.aJ.length<=64)->
  ∃c,cO (cX A++P) a V D=cO P (a++(A.map (·.2)).flatten) ⟨V.size,V.bd++cX A,c,V.next⟩ D
 |[],P,a,V,_,_=>⟨V.bytes,by simp[cX]⟩
 |y::A,P,a,V,f,g=>by
  have h:=e.read (f y (QV ..));have i:=pX (l:=y.2) λb d=>g b (by simp only[QY,List.flatten_cons];exact ZV _ d);obtain⟨c,j⟩:=xL e A P (a++y.2) ⟨V.size,V.bd++[y.1],((az y.2).length:Nat),V.next⟩ (λx k=>f x (QJ _ k)) λb d=>g b (by simp only[QY,List.flatten_cons];exact ZW _ d);refine⟨c,?_⟩;have l:cX (y::A)++P=y.1::(cX A++P):=rfl;rw[l]
  conv=>lhs;unfold cO
  have m:(dP (az y.2)).bytes=az y.2:=rfl;rw[h,Zq sM,m];dsimp only;rw[i,Zq sM];dsimp only;rw[j];simp[cX,XQ]
def NM{size:Int}(d:bV D)(r:Tidy D.files)(a:cM E A no l k)(m:∀x∈A,aq D.files (ay x.1)=some (dP (az x.2)))(o:aq D.files bS=some (dP (bO (cX A++[no]))))(g:aq D.files (ay no)=some ⟨(az l).take n,s,true⟩)(hs:s<=min n (az l).length)(M:(az (l.take k)).length<=s):
  ∃P,k<=P/\P<=l.length/\((az l).length<=n->P=l.length)/\(aT D size).no=0/\(aT D size).out=cu A (l.take P)/\GU (aT D size).V A no (l.take P)/\(aT D size).V.size=size/\(aT D size).V.next=gQ D/\
   cM (aT D size).D A no (l.take P) k/\bV (aT D size).D/\(s=min n (az l).length->cM (aT D size).D A no (l.take P) P)/\∀x,x≠ay no->aq (aT D size).D.files x=aq D.files x:=by
 have t:=a.VY;obtain⟨P,u,N,O,v⟩:=vC t n;have b3:=jm l P;have p:k<=P:=by
  refine Nat.le_of_not_lt λq=>?_;have Q:=v (by have:=a.kl;omega);have R:=BF (l:=l) (i:=P+1) (j:=k) q;omega
 have S:(az l).length<=n->P=l.length:=λhn=>by
  refine Nat.le_antisymm u (Nat.le_of_not_lt λq=>?_);have Q:=v q;have R:=jm l (P+1);omega
 have T:∀x∈cX A++[no],aN x:=λx e=>by have:=a.zf x e;unfold aN;omega
 have U:(cX A++[no]).length<=64:=by have:=a.many;simpa[cX]using this
 have w:=d.told o T U;obtain⟨y,V⟩:=xL d A [no] [] (dJ D size) m λb f=>a.evs b (ZV _ f);have z:=d.read g;simp only at z;have b4:((az l).take n).length=min n (az l).length:=Qy;have B:no<gQ D:=Ii (by have:=a.tf;omega) (by rw[g];rfl);have C:=rf D.list;have F:∀b∈l.take P,b.Ok/\b.aJ.length<=64:=λb f=>t b (List.mem_of_mem_take f);have W:cM ⟨D.most,aI D.files (ay no) ⟨az l,(az l).length,true⟩,D.iQ,D.left,D.dead⟩ A no l k:=by
  have X:=a.TF;have Y:=(fj (n:=no) (.inr (by have:=a.tf;omega))).1;exact⟨r.aI _ _,λx e=>by show aq (aI _ _ _) _=_;rw[bD,Zq (by simpa using X x e)];exact m x e,⟨_,by show aq (aI _ _ _) _=_;rw[bD];simp,by exact jm l k,Q4 _⟩,a.kl,by show aq (aI _ _ _) _=_;rw[bD,Zq (by simpa using Y.symm)];exact o,a.zf,a.ym,a.evs,a.many⟩
 have H:cO (told D) [] (dJ D size) D=cO [no] ((A.map (·.2)).flatten) ⟨size,cX A,y,gQ D⟩ D:=by
  rw[w,V];simp[dJ]
 have I:cO [no] ((A.map (·.2)).flatten) ⟨size,cX A,y,gQ D⟩ D=
   if(az (l.take P)).length<((az l).take n).length then⟨(D.mW (ay no) (az (l.take P)).length).1,cu A (l.take P),⟨size,cX A++[no],((az (l.take P)).length:Nat),gQ D⟩,(D.mW (ay no) (az (l.take P)).length).2⟩
   else⟨0,cu A (l.take P),⟨size,cX A++[no],((az (l.take P)).length:Nat),gQ D⟩,D⟩:=by
  unfold cO;rw[z,Zq sM];dsimp only;rw[N];dsimp only;split
  ·rfl
  ·unfold cO;rfl
 have J:∀(h:nY),h.no=0->h.V.bd=cX A++[no]->fM (told D).length h=h:=λh Z K=>by
  unfold fM;rw[Zq (by simpa using Z),Zq (by rw[K];simp),Zq (by rw[K,w];omega)]
 have a0:aT D size=cO (told D) [] (dJ D size) D:=by
  unfold aT;rw[H,I];split
  ·exact J _ (d.mW g _).1 rfl
  ·exact J _ rfl rfl
 rw[a0,H,I];refine⟨P,p,u,S,?_⟩;split
 ·rename_i b1
  obtain⟨c1,c2,c3⟩:=d.mW g ((az (l.take P)).length:Nat);have a6:gF ((az (l.take P)).length:Nat) ((az l).take n).length=(az (l.take P)).length:=by unfold gF;omega
  have a7:(⟨(az l).take n,s,true⟩:bP).cut ((az (l.take P)).length:Nat)=⟨az (l.take P),(az (l.take P)).length,true⟩:=by
   unfold bP.cut;simp only[a6];rw[List.take_take,X2 O,En]
  have L:(D.mW (ay no) ((az (l.take P)).length:Nat)).2.files=aI D.files (ay no) ⟨az (l.take P),(az (l.take P)).length,true⟩:=by
   rw[c2,a7];rfl
  have i:∀c,c<=P->cM (D.mW (ay no) ((az (l.take P)).length:Nat)).2 A no (l.take P) c:=λc j=>
   W.put (s:=(az (l.take P)).length) (by rw[L];show _=aI (aI _ _ _) _ _;rw[wQ]) bc (jm _ _) (Q4 _) F
  refine⟨c1,rfl,⟨rfl,rfl,B,C.2⟩,rfl,rfl,i k p,c3,λ_=>i P (Q4 _),λx e=>?_⟩;show aq (D.mW (ay no) ((az (l.take P)).length:Nat)).2.files x=_;rw[L,bD,Zq (by simpa using e)]
 ·rename_i b2
  have a8:(az (l.take P)).length=min n (az l).length:=oM
  have a9:(az l).take n=az (l.take P):=by
   rw[<-En l P,a8,List.take_eq_take_iff];omega
  have i:∀c,c<=P->(az (l.take c)).length<=s->cM D A no (l.take P) c:=λc j b0=>
   ⟨r,m,⟨s,by rw[g,a9],by rw[List.take_take,X2 j];exact b0,oM⟩,by simp;omega,o,a.zf,a.ym,λb f=>(Q6.1 f).elim (λh'=>a.evs b (ZV _ h')) (F b),a.many⟩
  exact⟨rfl,rfl,⟨rfl,rfl,B,C.2⟩,rfl,rfl,i k p M,d,λf=>i P (Q4 _) oM,λ_ _=>rfl⟩
def ID(a:Nat)(P:Int):aT (gq a) P=⟨(bA ⟨P,[],0,1⟩ (gq a)).1,[],(bA ⟨P,[],0,1⟩ (gq a)).2.1,(bA ⟨P,[],0,1⟩ (gq a)).2.2⟩:=by
 have b:gQ (gq a)=1:=by simp[gQ,sE,ak.list,gq,sq]
 have c:told (gq a)=[]:=by
  have:(gq a).read bS=([],14):=by simp[ak.read,gq,aq]
  unfold told dz;rw[this];rfl
 have d:(dJ (gq a) P)=⟨P,[],0,1⟩:=by unfold dJ;rw[b]
 unfold aT;rw[c,d];unfold cO fM;rw[Zq sM,Zx rfl];unfold aK;rw[Zx rfl]
def Qh(a:Nat)(P:Int):((aT (gq a) P).no=3\/(aT (gq a) P).no=12)\/
  ((aT (gq a) P).no=0/\(aT (gq a) P).out=[]/\cM (aT (gq a) P).D [] 1 [] 0/\GU (aT (gq a) P).V [] 1 []/\(aT (gq a) P).V.size=P/\(aT (gq a) P).V.next=2/\bV (aT (gq a) P).D/\TG (aT (gq a) P).V (aT (gq a) P).D):=by
 have f:bV (gq a):=⟨rfl,rfl⟩
 have d:Tidy (gq a).files:=by simp[Tidy,gq]
 rw[ID];obtain⟨g,h,s⟩:=Gs (V:=⟨P,[],0,1⟩) f d ⟨sM,sM⟩ (by simp[gq,aq]);rcases BG (D:=gq a) (V:=⟨P,[],0,1⟩) d sM with⟨c,i,j,k⟩|⟨c,i,j,k,b,l,m,n,o⟩
 ·exact .inl (h.resolve_left c)
 ·refine .inr ⟨c,rfl,⟨l,sM,⟨0,m,by simp[az],Qj _⟩,Q4 _,n,by simp[cX],by simp[cX],by simp[cu],sM⟩,⟨by rw[b];rfl,by rw[b];rfl,by rw[b];simp⟩,by rw[b],by rw[b];rfl,g,?_⟩
  show TG (bA ⟨P,[],0,1⟩ (gq a)).2.1 (bA ⟨P,[],0,1⟩ (gq a)).2.2;rw[b];intro p q t;simp only at q;have e:=fj (n:=p) (.inr oM);rw[o _ (λr=>by have:=qY (a:=1) oM r;omega) e.2 e.1];simp[gq,aq]
end
section
variable {D E:ak} {A:oV} {no:Int} {l x:List ah} {k:Nat} {V:dw} {b:List UInt8} {size:Int}
def Ak:∀(b:List Int) {D:ak},Tidy D.files->Tidy (i_ b D).files/\∀P,(∀n∈b,P≠ay n)->aq (i_ b D).files P=aq D.files P
 |[],D,c=>⟨c,λ_ _=>rfl⟩
 |n::b,D,c=>by
  have d:Tidy (D.delete (ay n)).2.files/\∀P,P≠ay n->aq (D.delete (ay n)).2.files P=aq D.files P:=by
   rcases iY D (ay n)with e|e
   ·rw[e];exact⟨c,λ_ _=>rfl⟩
   ·rw[e];exact⟨c.bL _,λP a=>by rw[fL c,Zq (by simpa using a)]⟩
  unfold i_;split
  ·exact⟨d.1,λP a=>d.2 P (a n (QV ..))⟩
  ·obtain⟨f,g⟩:=Ak b d.1
   exact⟨f,λP a=>(g P λh i=>a h (QJ _ i)).trans (d.2 P (a n (QV ..)))⟩
def Fq(s:Tidy D.files)(t:0<=no):((bE no b D).1≠0/\Tidy (bE no b D).2.files/\∀P,P≠ay no->P≠aQ->aq (bE no b D).2.files P=aq D.files P)\/
  ((bE no b D).1=0/\no<1000000000000/\aq D.files (ay no)=none/\Tidy (bE no b D).2.files/\aq (bE no b D).2.files (ay no)=some (dP b)/\
   aq (bE no b D).2.files bS=some (dP (bO [no]))/\∀P,P≠ay no->P≠aQ->P≠bS->aq (bE no b D).2.files P=aq D.files P):=by
 unfold bE;dsimp only;rw[show cF (ax no)=ay no from rfl];rcases kv D (ay no)with⟨l,m⟩|⟨l,m,B,u⟩
 ·rw[Zx l]
  exact .inl ⟨l,by show Tidy (D.create _).2.files;rw[m];exact s,λP _ _=>by show aq (D.create (ay no)).2.files P=_;rw[m]⟩
 have v:=(s_ t).1 m;obtain⟨C,nt⟩:=fj (n:=no) (.inr ⟨t,v⟩);rw[Zq (show¬(D.create (ay no)).1≠0 by simpa using l)];have n:te (ay no) D (D.create (ay no)).2:=(te.refl s).put u;have w:aq (D.create (ay no)).2.files (ay no)=some ⟨[],0,false⟩:=by rw[u,bD];simp
 generalize(D.create (ay no)).2=g at n w;have f:∀{F:ak},Tidy F.files->(∀P,P≠ay no->P≠aQ->aq F.files P=aq D.files P)->Tidy (F.delete (ay no)).2.files/\∀P,P≠ay no->P≠aQ->aq (F.delete (ay no)).2.files P=aq D.files P:=by
  intro F q x;rcases iY F (ay no)with e|e
  ·rw[e];exact⟨q,x⟩
  ·rw[e];exact⟨q.bL _,λP c i=>by rw[fL q,Zq (by simpa using c)];exact x P c i⟩
 rcases nI g (ay no) b with⟨d,a⟩|⟨d,E,j,a⟩
 ·rw[Zx d]
  have:=f (F:=(g.append (ay no) b).2) (by rw[a];exact n.1) λP c _=>by rw[a];exact n.2 P c
  exact .inl ⟨d,this⟩
 rw[w]at j;cases j
 rw[Zq (show¬(g.append (ay no) b).1≠0 by simpa using d)];have o:te (ay no) D (g.append (ay no) b).2:=n.put a;have y:aq (g.append (ay no) b).2.files (ay no)=some ⟨b,0,false⟩:=by rw[a,bD];simp
 generalize(g.append (ay no) b).2=h at o y;rcases mL h (ay no)with⟨d,a⟩|⟨d,E,j,a⟩
 ·rw[Zx d]
  have:=f (F:=(h.sync (ay no)).2) (by rw[a];exact o.1) λP c _=>by rw[a];exact o.2 P c
  exact .inl ⟨d,this⟩
 rw[y]at j;cases j
 have p:te (ay no) D (h.sync (ay no)).2:=o.put a;have z:aq (h.sync (ay no)).2.files (ay no)=some (dP b):=by rw[a,bD];simp
 rw[Zq (show¬(h.sync (ay no)).1≠0 by simpa using d)];generalize(h.sync (ay no)).2=H at p z;rcases JQ p.1 [no]with⟨k,r⟩|⟨k,r,I,J,A⟩
 ·rw[Zx k]
  have:=f (F:=(bC H [no]).2) r.1 λP c i=>(r.2 P i).trans (p.2 P c);exact .inl ⟨k,this⟩
 ·rw[Zq (by simpa using k)]
  exact .inr ⟨k,v,B,I,(A _ nt C).trans z,J,λP c i K=>(A P i K).trans (p.2 P c)⟩
def cM.lt_next(c:cM D A no l k)(d:GU V A no l):∀P∈cX A++[no],P<V.next:=λP e=>by
 have f:=d.next;rcases Q6.1 e with a|a
 ·have b:=c.ym
  rw[List.pairwise_append]at b;have:=b.2.2 P a no (List.mem_singleton.2 rfl);omega
 ·have:=List.mem_singleton.1 a;omega
def cM.ne_next(a:cM D A no l k)(c:GU V A no l):∀P∈cX A++[no],ay P≠ay V.next:=λP b d=>by
 have e:=a.zf P b;have f:=a.lt_next c P b;have:=qY (a:=P) ⟨oM,e.2⟩ d.symm;omega
def RW(b:0<=no):bS≠ay no:=λP=>by
 by_cases c:no<1000000000000
 ·exact(fj (n:=no) (.inr oM)).1 P.symm
 ·have a:ay no=cF []:=by unfold ay ax;rw[Zx (.inr oM)]
  rw[a]at P
  revert P;decide+kernel
def Pn(a:Tidy D.files)(b:1<=no/\no<1000000000000)(c:aq D.files (ay no)=some (dP (az x)))(d:aq D.files bS=some (dP (bO [no])))(e:∀P∈x,P.Ok/\P.aJ.length<=64):cM D [] no x x.length:=
 ⟨a,λg f=>(by cases f),⟨_,c,by rw[List.take_length];exact Q4 _,Q4 _⟩,Q4 _,d,by simpa[cX]using b,by simp[cX],by simpa[cu]using e,sM⟩
def cM.bE(P:cM D A no l k)(e:GU V A no l)(h:∀a∈x,a.Ok/\a.aJ.length<=64):
  ((bE V.next (az x) D).1≠0/\cM (bE V.next (az x) D).2 A no l k)\/((bE V.next (az x) D).1=0/\V.next<1000000000000/\cM (bE V.next (az x) D).2 [] V.next x x.length):=by
 have n:=P.tf;have o:=e.next;rcases Fq (b:=az x) P.tidy (show 0<=V.next by omega)with⟨b,c,d⟩|⟨b,c,d,i,j,m,p⟩
 ·exact .inl ⟨b,P.same c (λf g=>d _ (P.ne_next e f g) (fj (.inr (by have:=P.zf f g;omega))).2) (d _ (RW oM) λa=>zl a.symm)⟩
 ·exact .inr ⟨b,c,Pn i oM j m h⟩
def tg(P:D.dead=false)(a:aq D.files w=some W):D.read w=(W.bytes,0):=by
 unfold ak.read;rw[P,a];rfl
def uj(e:D.dead=false):∀(A:oV) (P:List Int) (a:List ah) (V:dw),(∀x∈A,aq D.files (ay x.1)=some (dP (az x.2)))->(∀c∈(A.map (·.2)).flatten,c.Ok/\c.aJ.length<=64)->
  ∃b,cO (cX A++P) a V D=cO P (a++(A.map (·.2)).flatten) ⟨V.size,V.bd++cX A,b,V.next⟩ D
 |[],P,a,V,_,_=>⟨V.bytes,by simp[cX]⟩
 |y::A,P,a,V,f,g=>by
  have h:=tg e (f y (QV ..));have i:=pX (l:=y.2) λc d=>g c (by simp only[QY,List.flatten_cons];exact ZV _ d);obtain⟨b,j⟩:=uj e A P (a++y.2) ⟨V.size,V.bd++[y.1],((az y.2).length:Nat),V.next⟩ (λx k=>f x (QJ _ k)) λc d=>g c (by simp only[QY,List.flatten_cons];exact ZW _ d);refine⟨b,?_⟩;have l:cX (y::A)++P=y.1::(cX A++P):=rfl;rw[l]
  conv=>lhs;unfold cO
  have m:(dP (az y.2)).bytes=az y.2:=rfl;rw[h,Zq sM,m];dsimp only;rw[i,Zq sM];dsimp only;rw[j];simp[cX,XQ]
def JR(P:cM D A no l k)(a:D.dead=false):aT D size=⟨0,cu A l,⟨size,cX A++[no],((az l).length:Nat),gQ D⟩,D⟩:=by
 obtain⟨o,d,p,q⟩:=P.last;have e:∀x∈cX A++[no],aN x:=λx f=>by have:=P.zf x f;unfold aN;omega
 have g:(cX A++[no]).length<=64:=by have:=P.many;simpa[cX]using this
 have c:told D=cX A++[no]:=by
  unfold told dz;rw[tg a P.UT,Zq sM,show(dP (bO (cX A++[no]))).bytes=bO (cX A++[no])from rfl,nJ e g];rfl
 obtain⟨b,h⟩:=uj a A [no] [] (dJ D size) P.full λi j=>P.evs i (ZV _ j);have m:=tg a d;have n:cO (told D) [] (dJ D size) D=⟨0,cu A l,⟨size,cX A++[no],((az l).length:Nat),gQ D⟩,D⟩:=by
  rw[c,h];unfold cO;rw[m,Zq sM];dsimp only;rw[pX P.VY,Zq sM];unfold cO;simp[dJ,cu]
 unfold aT;rw[n];unfold fM;rw[Zq sM,Zq sM,Zq (by rw[c];simp)]
def Ng(P:D.dead=true):(aT D size).no=15/\(aT D size).D.files=D.files:=by
 have a:told D=[]:=by
  have:D.read bS=([],15):=by unfold ak.read;rw[P];rfl
  unfold told dz;rw[this];rfl
 have b:∀V:dw,V.bd=[]->aK V D=(15,V,D.gone):=λV c=>by
  unfold aK;rw[Zx c];have d:D.create (cF (ax V.next))=(15,D.gone):=by
   unfold ak.create ak.op ak.dies;rw[P];rfl
  unfold bA;dsimp only;rw[d,Zx sM]
 unfold aT;rw[a];unfold cO fM;rw[Zq sM,Zx (show(dJ D size).bd=[]from rfl),show aK _ _=_ from b (dJ D size) rfl];exact⟨rfl,rfl⟩
end
section
variable {D E:ak} {A:oV} {no:Int} {l x:List ah} {k:Nat} {V:dw} {b:List UInt8} {size:Int} {L:List Int}
structure Jz (D:ak) (no:Int) (x:List ah):Prop where
 held:cM D [] no x x.length
 alive:bV D
 none:∀y,y≠ay no->y≠bS->aq D.files y=none
def Po:(gB bS).2=false:=by decide+kernel
end
section
variable {D E:ak} {A:oV} {no:Int} {l:List ah} {k:Nat}
def Ad:∀(P:List ByteArray) {D:ak},bV D->bV (JO D P)
 |[],D,a=>a
 |s::P,D,a=>Ad P (a.delete s).1
def Ae:∀(b:List ByteArray) {D:ak},bV D->Tidy D.files->∀P,aq (JO D b).files P=if P∈b then none else aq D.files P
 |[],D,_,_,P=>by simp[JO]
 |a::b,D,f,c,P=>by
  show aq (JO (D.delete a).2 b).files P=_;obtain⟨g,h⟩:=f.delete a;have i:Tidy (D.delete a).2.files:=by
   rcases iY D a with e|e
   ·rw[e];exact c
   ·rw[e];exact c.bL _
  have e:aq (D.delete a).2.files P=if P=a then none else aq D.files P:=by
   rcases h with e|⟨j,e⟩
   ·rw[e,fL c];simp
   ·rw[e];split
    ·rename_i k;rw[k,j]
    ·rfl
  rw[Ae b g i P,e]
  by_cases d:P∈b
  ·simp[d]
  ·by_cases l:P=a<;>simp[d,l]
def JP:bS≠aQ:=by decide+kernel
end
def lV:kf:=⟨[(10,[(13,ZH 0)]),(22,[(16,ZH 0)])],[],[],[],[]⟩
def lW{r s t u v w x y l A:Int}{B D e:YQ}{C E G F c H:Nat}(Z:PA b (.cells #[.ii r,.ii s,.ii t,.ii u,.ii v,.ii w,.ii x,.ii y,.slice B C E,.slice D G F] 29) λI=>(Ld 29 (ab_ b 0) I λa1=>PC_ 9 #[a1,.slice e c H] I (kB λa2 m=>al a2 (PC_ 10 #[] m (kB λa3 a4=>rt z ((.bool a3)) a4) (pE z)) ((Ld 29 (ab_ b 0) m λa5=>PC_ 12 #[a5] m (kX_ 29 λa6 a7=>PC_ 11 #[a6,.ii l] a7 (λa8 J=>∃P n,a8= .tuple #[.pointer P,.ii n]/\(Ld 29 (ab_ b 0) J λa9=>PC_ 12 #[a9] J (kX_ 29 λb0 b1=>PC_ 11 #[b0,.ii l] b1 (λb2 o=>∃f K,b2= .tuple #[.pointer f,.ii K]/\al (n !=K) (rt z ((.bool false)) o) (al (n !=0) (PC_ 10 #[] o (kB λb3 b4=>rt z ((.bool b3)) b4) (pE z)) ((∃p:Nat->Int->ZU,(∃g,p g 0 o)/\∀(g:Nat) (a:Int) (f4:Nat->Value) (h:World),p g a h->al (decide (a<(c:Int))) ((ix_ e a c λb5 b6=>(Ld 67 (ad b5 (b6+Int.toNat a*15)) h λb7=>PC_ 20 #[.pointer P,b7] h (kI_ λf5 L=>(ix_ e a c λb8 b9=>(Ld 67 (ad b8 (b9+Int.toNat a*15)) L λc0=>PC_ 20 #[.pointer f,c0] L (kI_ λf6 c1=>(∃M,M<g/\p M (ZG .i64 (a+1)) c1)) (pE z)))) (pE z)))) (PC_ 24 #[.pointer P] h (kI_ λf7 d0=>PC_ 14 #[.pointer P] d0 (kS_ λd1 d2 d3 d4=>PC_ 14 #[.pointer f] d4 (kS_ λd5 d6 d7 d8=>PC_ 18 #[.slice d1 d2 d3,.slice d5 d6 d7] d8 (kB λd9 i=>al (!d9) (rt z ((.bool false)) i) ((∃N O Q R S T,i.cell? (ab_ b (0+8))=some (.slice N O Q)/\i.cell? (ab_ b (0+8+1))=some (.slice R S T)/\PC_ 19 #[.pointer P,.pointer f,.agg #[.slice N O Q,.slice R S T]] i (kB λe0 U=>al (!e0) (rt z ((.bool false)) U) (PC_ 14 #[.pointer P] U (kS_ λe1 V f8 e2=>PC_ 25 #[.pointer P,.ii A] e2 (kI_ λe3 W=>al (e3 !=0) (rt z ((.bool false)) W) (PC_ 14 #[.pointer P] W (kS_ λe4 e5 e6 e7=>(∃q:Nat->Int->ZU,(∃j,q j 0 e7)/\∀(j:Nat) (d:Int) (f9:Nat->Value) (k:World),q j d k->al (decide (d<(V:Int))) ((ix_ e1 d V λe8 e9=>(Ld 55 (ad e8 (e9+Int.toNat d*10)) k λf0=>PC_ 21 #[.slice e4 e5 e6,f0] k (kB λf1 X=>al (!f1) (rt z ((.bool false)) X) ((∃Y,Y<j/\q Y (ZG .i64 (d+1)) X))) (pE z)))) (PC_ 10 #[] k (kB λf2 f3=>rt z ((.bool f2)) f3) (pE z)))) (pE z))) (pE z)) (pE z))) (pE z)))) (pE z)) (pE z)) (pE z)) (pE z)))))) (pE z)) (pE z))) (pE z)) (pE z)))) (pE z))):YX 7 #[.agg #[.ii r,.ii s,.ii t,.ii u,.ii v,.ii w,.ii x,.ii y,.slice B C E,.slice D G F],.ii l,.slice e c H,.ii A] b z:=DC lV Tryz.func7 rfl Z
def PB:Reads ZP ia 55:=λa5 t a6 a b cs c u v=>by
 obtain⟨w,n2,_,rfl,x,y,P⟩:=DataW.trod_struct (Tryz.underlying55) u;have z:Tryz.prog.cellsOf 55=10:=kR
 have A:cs.length=10:=x.trans z;have d:Tryz.prog.cellsOf 3=1:=kR
 have e:Tryz.prog.cellsOf 39=2:=kR
 have f:Tryz.prog.cellsOf 27=1:=kR
 match cs,A with
 |[v0,v1,v2,v3,v4,v5,v6,v7,v8,v9],_=>
 match w,y with
 |[y0,y1,B,y3,y4,y5,y6,y7,y8],_=>
  have g:=P 0 _ rfl;have h:=P 1 _ rfl;have i:=P 2 _ rfl;have j:=P 3 _ rfl;have k:=P 4 _ rfl;have l:=P 5 _ rfl;have m:=P 6 _ rfl;have n:=P 7 _ rfl;have o:=P 8 _ rfl;simp only[d,e,f,List.drop_zero,List.drop_succ_cons,Zw,List.take_zero,ZJ,ZZ]at g h i j k l m n o;obtain⟨C,n3,_,a7,a8,E,p⟩:=DataW.trod_struct (Tryz.underlying39) g
  match C,E with
  |[u0,u1],_=>
  have q:=p 0 _ rfl;have r:=p 1 _ rfl;simp only[d,e,f,List.drop_zero,List.drop_succ_cons,Zw,List.take_zero,ZJ,ZZ]at q r;obtain⟨F,H,-,I⟩:=DataW.trod_int Tryz.underlying3 q;obtain⟨z1,J,-,K⟩:=DataW.trod_int Tryz.underlying3 r;obtain⟨L,M,-,N⟩:=DataW.trod_int Tryz.underlying3 h;obtain⟨O,Q,-,R⟩:=DataW.trod_int Tryz.underlying3 j;obtain⟨S,T,-,U⟩:=DataW.trod_int Tryz.underlying3 k;obtain⟨V,W,-,X⟩:=DataW.trod_int Tryz.underlying3 l;obtain⟨Y,Z,-,w7⟩:=DataW.trod_int Tryz.underlying3 m;obtain⟨z8,e8,-,w8⟩:=DataW.trod_int Tryz.underlying3 n;obtain⟨z9,e9,-,w9⟩:=DataW.trod_int Tryz.underlying3 o;have a0:jw ZP 27 B.1:=by
   intro a1 hq;refine v a1 ?_;have hu:Tryz.prog.underlying 55=_:=Tryz.underlying55;simp only[DataW.weights,hu,QY,List.map_nil,DataW.weightsEach,Q6];right;right;left;exact hq
  obtain⟨a3,n4,c4,l4,e3,-,-,s⟩:=open_row (bytes:=8) Tryz.underlying27 kR dC kR (DU Tryz.underlying3) i a0
  cases H;cases J;cases M;cases e3;cases Q;cases T;cases W;cases Z;cases e8;cases e9
  exact⟨⟨F,z1,L,l4,O,S,V,Y,z8,z9⟩,a3,n4,c4,rfl,s,aP I,aP K,aP N,λc hx=>by
   obtain⟨a2,hi⟩:=List.mem_iff_getElem?.1 hx;obtain⟨a9,a4,es,-,-,-,-,hr⟩:=s.el a2 c hi;exact hr.2,aP R,aP U,aP X,aP w7,aP w8,aP w9⟩
end Go.Proofs.YtblabbpipmodgaaGreatDoor
namespace Go.aw
open Go Go.WideShapes
variable{J:Bool}{f8:List MemPlace}{a:Nat}{h:Program}{I j:Type}{g:TypeId}{u:Value}{b:World}
def PT{P:TypeId×Value->j}{i:Reach}{e:DataW j}{f:jU I}{k:Array Field}(l:h.underlying g=some (.struct k))(m:Reads h f g)(n:Value.okWide h b i a g u)(o:DataW.Trod P h b 0 (λ_=>true) J g u e f8)(p:jw h g e):∃d cs,u= .agg cs/\f.rep b (In b) d cs.toList:=by
 obtain⟨cs,rfl,-⟩:=okWide_struct l n;obtain⟨c,q⟩:=o;obtain⟨d,r⟩:=m j P b J c cs.toList _ q p;exact⟨d,cs,rfl,r⟩
end Go.aw
namespace Go.Proofs.YtblabbpipmodgaaGreatDoor
open Go.aw
structure Wx (c:cN):Prop where
 bW:aN c.bW
 tO:aN c.tO
 bl:aN c.bl
 chunk:aN c.chunk
 buffer:aN c.buffer
 df:aN c.df
 every:aN c.every
 start:aN c.start
def Vs:jU aS where
 k:=2
 rep:=λi D j cs=>∃P tn c a b d,cs=[.slice P tn c,.slice a b d]/\bj i D j P tn a b
 keep:=λ⟨P,tn,c,a,b,d,e,f⟩ k g=>⟨P,tn,c,a,b,d,e,f.keep k g⟩
 mono:=λ⟨P,tn,c,a,b,d,e,f⟩ g=>⟨P,tn,c,a,b,d,e,f.mono g⟩
 len:=λ⟨P,tn,c,a,b,d,e,_⟩=>by rw[e];rfl
 one:=λ⟨P,tn,c,a,b,d,e,_⟩ l h=>by rw[e]at h;simp at h;rcases h with rfl|rfl<;>rfl
def Wy:jU cN where
 k:=10
 rep:=λk D f cs=>∃P tn c a b d,cs=iw f P tn c a b d/\bj k D f.decl P tn a b/\Wx f
 keep:=λ⟨P,tn,c,a,b,d,e,g,h⟩ l i=>⟨P,tn,c,a,b,d,e,g.keep l i,h⟩
 mono:=λ⟨P,tn,c,a,b,d,e,g,h⟩ i=>⟨P,tn,c,a,b,d,e,g.mono i,h⟩
 len:=λ⟨P,tn,c,a,b,d,e,_,_⟩=>by rw[e];rfl
 one:=λ⟨P,tn,c,a,b,d,e,_,_⟩ m j=>by rw[e]at j;simp[iw]at j;rcases j with rfl|rfl|rfl|rfl|rfl|rfl|rfl|rfl|rfl|rfl<;>rfl
def Wz:jU lf:=flat 7 ij lf.Ok (λ_=>rfl) (λa b P=>by simp[ij]at P;rcases P with rfl|rfl|rfl|rfl|rfl|rfl|rfl<;>rfl)
def WA:jU dd where
 k:=5
 rep:=λl D h cs=>∃P a d b c e,cs=bZ h P a d b c e/\Row aM 8 l D P a h.vec/\Row ia 96 l D b c h.events
 keep:=λ⟨P,a,d,b,c,e,f,i,j⟩ m g=>⟨P,a,d,b,c,e,f,i.keep m g,j.keep m g⟩
 mono:=λ⟨P,a,d,b,c,e,f,i,j⟩ g=>⟨P,a,d,b,c,e,f,i.mono g,j.mono g⟩
 len:=λ⟨P,a,d,b,c,e,f,_,_⟩=>by rw[f];rfl
 one:=λ⟨P,a,d,b,c,e,f,_,_⟩ n k=>by rw[f]at k;simp[bZ]at k;rcases k with rfl|rfl|rfl|rfl|rfl<;>rfl
def KE:Reads ZP fU 125:=λz g A a b cs B h C=>by
 obtain⟨i,E,_,rfl,j,k,P⟩:=DataW.trod_struct (Tryz.underlying125) h;have l:Tryz.prog.cellsOf 125=4:=kR
 have m:cs.length=4:=j.trans l;have n:Tryz.prog.cellsOf 3=1:=kR
 match cs,m with
 |[F,H,I,J],_=>
 match i,k with
 |[K,L,M,N],_=>
  have c:=P 0 _ rfl;have d:=P 1 _ rfl;have e:=P 2 _ rfl;have f:=P 3 _ rfl;simp only[n,List.drop_zero,List.drop_succ_cons,Zw,List.take_zero,List.take_nil,ZJ,ZZ]at c d e f;obtain⟨o,p,-,q⟩:=DataW.trod_int Tryz.underlying3 c;obtain⟨z1,r,-,s⟩:=DataW.trod_int Tryz.underlying3 d;obtain⟨t,u,-,v⟩:=DataW.trod_int Tryz.underlying3 e;obtain⟨w,x,-,y⟩:=DataW.trod_int Tryz.underlying3 f
  cases p;cases r;cases u;cases x
  exact⟨⟨o,z1,t,w⟩,rfl,aP q,aP s,aP v,aP y⟩
def NA:Reads ZP oU 123:=λL g M a b cs N h i=>by
 obtain⟨j,O,_,rfl,k,l,P⟩:=DataW.trod_struct (Tryz.underlying123) h;have m:Tryz.prog.cellsOf 123=4:=kR
 have n:cs.length=4:=k.trans m;have o:Tryz.prog.cellsOf 3=1:=kR
 have p:Tryz.prog.cellsOf 4=1:=kR
 have q:Tryz.prog.cellsOf 121=1:=kR
 match cs,n with
 |[Q,R,S,T],_=>
 match j,l with
 |[U,V,W,r],_=>
  have c:=P 0 _ rfl;have d:=P 1 _ rfl;have e:=P 2 _ rfl;have f:=P 3 _ rfl;simp only[o,p,q,List.drop_zero,List.drop_succ_cons,Zw,List.take_zero,List.take_nil,ZJ,ZZ]at c d e f;obtain⟨s,t,-,u⟩:=DataW.trod_int Tryz.underlying3 c;obtain⟨z1,v,-,w⟩:=DataW.trod_int Tryz.underlying3 d;obtain⟨x,y,-⟩:=DataW.trod_bool Tryz.underlying4 e;have z:jw ZP 121 r.1:=by
   intro A B;refine i A ?_;have C:Tryz.prog.underlying 123=_:=Tryz.underlying123;simp only[DataW.weights,C,QY,List.map_nil,DataW.weightsEach,Q6];right;right;right;left;exact B
  obtain⟨E,F,H,I,J,-,-,K⟩:=open_row (bytes:=32) Tryz.underlying121 kR dC kR (KE) f z
  cases t;cases v;cases y;cases J
  exact⟨⟨s,z1,x,I⟩,E,F,H,rfl,K,aP u,aP w⟩
def NB:Reads ZP ks 130:=λx c y P a cs z d e=>by
 obtain⟨f,A,_,rfl,g,h,i⟩:=DataW.trod_struct (Tryz.underlying130) d;have j:Tryz.prog.cellsOf 130=1:=kR
 have k:cs.length=1:=g.trans j;have l:Tryz.prog.cellsOf 126=1:=kR
 match cs,k with
 |[B],_=>
 match f,h with
 |[m],_=>
  have b:=i 0 _ rfl;simp only[l,List.drop_zero,List.drop_succ_cons,Zw,List.take_zero,List.take_nil,ZJ,ZZ]at b;have n:jw ZP 126 m.1:=by
   intro o p;refine e o ?_;have q:Tryz.prog.underlying 130=_:=Tryz.underlying130;simp only[DataW.weights,q,QY,List.map_nil,DataW.weightsEach,Q6];left;exact p
  obtain⟨r,s,t,u,v,-,-,w⟩:=open_row (bytes:=48) Tryz.underlying126 kR dC kR (NA) b n
  cases v
  exact⟨u,r,s,t,rfl,w⟩
def KF:Reads ZP uY 128:=λE h F a b cs H i I=>by
 obtain⟨j,J,_,rfl,k,l,P⟩:=DataW.trod_struct (Tryz.underlying128) i;have m:Tryz.prog.cellsOf 128=5:=kR
 have n:cs.length=5:=k.trans m;have o:Tryz.prog.cellsOf 3=1:=kR
 match cs,n with
 |[K,L,M,N,O],_=>
 match j,l with
 |[Q,R,S,T,U],_=>
  have c:=P 0 _ rfl;have d:=P 1 _ rfl;have e:=P 2 _ rfl;have f:=P 3 _ rfl;have g:=P 4 _ rfl;simp only[o,List.drop_zero,List.drop_succ_cons,Zw,List.take_zero,List.take_nil,ZJ,ZZ]at c d e f g;obtain⟨p,q,-,r⟩:=DataW.trod_int Tryz.underlying3 c;obtain⟨z1,s,-,t⟩:=DataW.trod_int Tryz.underlying3 d;obtain⟨u,v,-,w⟩:=DataW.trod_int Tryz.underlying3 e;obtain⟨x,y,-,z⟩:=DataW.trod_int Tryz.underlying3 f;obtain⟨A,B,-,C⟩:=DataW.trod_int Tryz.underlying3 g
  cases q;cases s;cases v;cases y;cases B
  exact⟨⟨p,z1,u,x,A⟩,rfl,aP r,aP t,aP w,aP z,aP C⟩
def KG:Reads ZP Vs 25:=λI i J c d cs K j e=>by
 obtain⟨k,L,_,rfl,l,m,f⟩:=DataW.trod_struct (Tryz.underlying25) j;have n:Tryz.prog.cellsOf 25=2:=kR
 have o:cs.length=2:=l.trans n;have p:Tryz.prog.cellsOf 22=1:=kR
 have q:Tryz.prog.cellsOf 23=1:=kR
 match cs,o with
 |[M,N],_=>
 match k,m with
 |[r,s],_=>
  have g:=f 0 _ rfl;have h:=f 1 _ rfl;simp only[p,q,List.drop_zero,List.drop_succ_cons,Zw,List.take_zero,List.take_nil,ZJ,ZZ]at g h;have t:jw ZP 22 r.1:=by
   intro P a;refine e P ?_;have b:Tryz.prog.underlying 25=_:=Tryz.underlying25;simp only[DataW.weights,b,QY,List.map_nil,DataW.weightsEach,Q6];left;exact a
  obtain⟨u,v,w,x,y,-,-,z⟩:=open_row (bytes:=24) Tryz.underlying22 kR dC kR (NB) g t;have A:jw ZP 23 s.1:=by
   intro P a;refine e P ?_;have b:Tryz.prog.underlying 25=_:=Tryz.underlying25;simp only[DataW.weights,b,QY,List.map_nil,DataW.weightsEach,Q6];right;left;exact a
  obtain⟨B,C,E,z1,F,-,-,H⟩:=open_row (bytes:=40) Tryz.underlying23 kR dC kR (KF) h A
  cases y;cases F
  exact⟨⟨x,z1⟩,u,v,w,B,C,E,rfl,⟨z,H⟩⟩
def NC:Reads ZP Wy 29:=λm b n a c cs a0 o p=>by
 obtain⟨q,n2,_,rfl,r,s,P⟩:=DataW.trod_struct (Tryz.underlying29) o;have t:Tryz.prog.cellsOf 29=10:=kR
 have u:cs.length=10:=r.trans t;have v:Tryz.prog.cellsOf 3=1:=kR
 have w:Tryz.prog.cellsOf 25=2:=kR
 match cs,u with
 |[v0,v1,v2,v3,v4,v5,v6,v7,v8,v9],_=>
 match q,s with
 |[y0,y1,y2,y3,y4,y5,y6,y7,x],_=>
  have d:=P 0 _ rfl;have e:=P 1 _ rfl;have f:=P 2 _ rfl;have g:=P 3 _ rfl;have h:=P 4 _ rfl;have i:=P 5 _ rfl;have j:=P 6 _ rfl;have k:=P 7 _ rfl;have l:=P 8 _ rfl;simp only[v,w,List.drop_zero,List.drop_succ_cons,Zw,List.take_zero,List.take_nil,ZJ,ZZ]at d e f g h i j k l;obtain⟨y,z,-,A⟩:=DataW.trod_int Tryz.underlying3 d;obtain⟨z1,B,-,C⟩:=DataW.trod_int Tryz.underlying3 e;obtain⟨E,F,-,H⟩:=DataW.trod_int Tryz.underlying3 f;obtain⟨I,J,-,K⟩:=DataW.trod_int Tryz.underlying3 g;obtain⟨L,M,-,N⟩:=DataW.trod_int Tryz.underlying3 h;obtain⟨O,Q,-,R⟩:=DataW.trod_int Tryz.underlying3 i;obtain⟨S,T,-,U⟩:=DataW.trod_int Tryz.underlying3 j;obtain⟨V,W,-,X⟩:=DataW.trod_int Tryz.underlying3 k;have Y:jw ZP 25 x.1:=by
   intro Z hq;refine p Z ?_;have hu:Tryz.prog.underlying 29=_:=Tryz.underlying29;simp only[DataW.weights,hu,QY,List.map_nil,DataW.weightsEach,Q6];right;right;right;right;right;right;right;right;left;exact hq
  obtain⟨z8,r8⟩:=KG m b n a _ _ _ l Y
  cases z;cases B;cases F;cases J;cases M;cases Q;cases T;cases W
  obtain⟨ta,tn,tc,pa,pn,pc,he,hd⟩:=r8
  cases he
  exact⟨⟨y,z1,E,I,L,O,S,V,z8⟩,ta,tn,tc,pa,pn,pc,rfl,hd,aP A,aP C,aP H,aP K,aP N,aP R,aP U,aP X⟩
def ND:Reads ZP Wz 49:=λM j N a b cs O k Q=>by
 obtain⟨l,R,_,rfl,m,n,P⟩:=DataW.trod_struct (Tryz.underlying49) k;have o:Tryz.prog.cellsOf 49=7:=kR
 have p:cs.length=7:=m.trans o;have q:Tryz.prog.cellsOf 3=1:=kR
 match cs,p with
 |[S,T,U,V,W,X,Y],_=>
 match l,n with
 |[Z,y1,y2,y3,y4,y5,y6],_=>
  have c:=P 0 _ rfl;have d:=P 1 _ rfl;have e:=P 2 _ rfl;have f:=P 3 _ rfl;have g:=P 4 _ rfl;have h:=P 5 _ rfl;have i:=P 6 _ rfl;simp only[q,List.drop_zero,List.drop_succ_cons,Zw,List.take_zero,List.take_nil,ZJ,ZZ]at c d e f g h i;obtain⟨r,s,-,t⟩:=DataW.trod_int Tryz.underlying3 c;obtain⟨z1,u,-,v⟩:=DataW.trod_int Tryz.underlying3 d;obtain⟨w,x,-,y⟩:=DataW.trod_int Tryz.underlying3 e;obtain⟨z,A,-,B⟩:=DataW.trod_int Tryz.underlying3 f;obtain⟨C,E,-,F⟩:=DataW.trod_int Tryz.underlying3 g;obtain⟨H,I,-,w5⟩:=DataW.trod_int Tryz.underlying3 h;obtain⟨J,K,-,L⟩:=DataW.trod_int Tryz.underlying3 i
  cases s;cases u;cases x;cases A;cases E;cases I;cases K
  exact⟨⟨r,z1,w,z,C,H,J⟩,rfl,aP t,aP v,aP y,aP B,aP F,aP L⟩
def NF:Reads ZP WA 60:=λT l U d e cs V m f=>by
 obtain⟨n,W,_,rfl,o,p,P⟩:=DataW.trod_struct (Tryz.underlying60) m;have q:Tryz.prog.cellsOf 60=5:=kR
 have r:cs.length=5:=o.trans q;have s:Tryz.prog.cellsOf 3=1:=kR
 have t:Tryz.prog.cellsOf 27=1:=kR
 have u:Tryz.prog.cellsOf 50=1:=kR
 match cs,r with
 |[X,Y,Z,v3,v4],_=>
 match n,p with
 |[y0,y1,y2,v,w],_=>
  have g:=P 0 _ rfl;have h:=P 1 _ rfl;have i:=P 2 _ rfl;have j:=P 3 _ rfl;have k:=P 4 _ rfl;simp only[s,t,u,List.drop_zero,List.drop_succ_cons,Zw,List.take_zero,List.take_nil,ZJ,ZZ]at g h i j k;obtain⟨x,y,-,w0⟩:=DataW.trod_int Tryz.underlying3 g;obtain⟨z1,z,-,w1⟩:=DataW.trod_int Tryz.underlying3 h;obtain⟨A,B,-,w2⟩:=DataW.trod_int Tryz.underlying3 i;have C:jw ZP 27 v.1:=by
   intro a b;refine f a ?_;have c:Tryz.prog.underlying 60=_:=Tryz.underlying60;simp only[DataW.weights,c,QY,List.map_nil,DataW.weightsEach,Q6];right;right;right;left;exact b
  obtain⟨E,F,H,I,J,-,-,K⟩:=open_row (bytes:=8) Tryz.underlying27 kR dC kR (DU Tryz.underlying3) j C;have L:jw ZP 50 w.1:=by
   intro a b;refine f a ?_;have c:Tryz.prog.underlying 60=_:=Tryz.underlying60;simp only[DataW.weights,c,QY,List.map_nil,DataW.weightsEach,Q6];right;right;right;right;left;exact b
  obtain⟨M,N,O,Q,R,-,-,S⟩:=open_row (bytes:=96) Tryz.underlying50 kR dC kR (PB) k L
  cases y;cases z;cases B;cases J;cases R
  exact⟨⟨x,z1,A,I,Q⟩,E,F,H,M,N,O,rfl,K,S⟩
def HZ:Reads ZP Sp 67:=λf a g P h cs a0 q i=>by
 obtain⟨r,n2,_,rfl,s,t,b⟩:=DataW.trod_struct (Tryz.underlying67) q;have u:Tryz.prog.cellsOf 67=15:=kR
 have v:cs.length=15:=s.trans u;have w:Tryz.prog.cellsOf 3=1:=kR
 have x:Tryz.prog.cellsOf 49=7:=kR
 have y:Tryz.prog.cellsOf 60=5:=kR
 match cs,v with
 |[v0,v1,v2,v3,v4,v5,v6,v7,v8,v9,a1,a2,a3,a4,a5],_=>
 match r,t with
 |[y0,y1,y2,z,A],_=>
  have j:=b 0 _ rfl;have k:=b 1 _ rfl;have l:=b 2 _ rfl;have m:=b 3 _ rfl;have n:=b 4 _ rfl;simp only[w,x,y,List.drop_zero,List.drop_succ_cons,Zw,List.take_zero,List.take_nil,ZJ,ZZ]at j k l m n;obtain⟨B,C,-,E⟩:=DataW.trod_int Tryz.underlying3 j;obtain⟨z1,F,-,H⟩:=DataW.trod_int Tryz.underlying3 k;obtain⟨I,J,-,K⟩:=DataW.trod_int Tryz.underlying3 l;have L:jw ZP 49 z.1:=by
   intro c d;refine i c ?_;have e:Tryz.prog.underlying 67=_:=Tryz.underlying67;simp only[DataW.weights,e,QY,List.map_nil,DataW.weightsEach,Q6];right;right;right;left;exact d
  obtain⟨M,N⟩:=ND f a g P _ _ _ m L;have O:jw ZP 60 A.1:=by
   intro c d;refine i c ?_;have e:Tryz.prog.underlying 67=_:=Tryz.underlying67;simp only[DataW.weights,e,QY,List.map_nil,DataW.weightsEach,Q6];right;right;right;right;left;exact d
  obtain⟨Q,R⟩:=NF f a g P _ _ _ n O
  cases C;cases F;cases J
  obtain⟨o,S⟩:=N;obtain⟨T,U,V,W,X,Y,p,Z,he⟩:=R;simp only[ij,bZ,List.cons.injEq,and_true]at o p;obtain⟨rfl,rfl,rfl,rfl,rfl,rfl,rfl⟩:=o;obtain⟨rfl,rfl,rfl,rfl,rfl⟩:=p;exact⟨⟨B,z1,I,M,Q⟩,T,U,V,W,X,Y,rfl,Z,he,aP E,aP H,aP K,S⟩

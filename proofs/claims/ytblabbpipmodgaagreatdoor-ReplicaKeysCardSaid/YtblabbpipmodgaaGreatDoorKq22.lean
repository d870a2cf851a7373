import Derived.Test.YtblabbpipmodgaaGreatDoorKq18
import Derived.Test.YtblabbpipmodgaaGreatDoorYqQue
set_option maxHeartbeats 4000000
set_option linter.all false
set_option maxRecDepth 20000
namespace Go.Proofs.YtblabbpipmodgaaGreatDoor
open Go.aw
def rp(c:cy)(d:Int)(e:cy)(g i j:Int):Nat->bD->bD->List cN->Option (bD×bD)
 |0,P,a,h=>if h=[]then some (P,a)else none
 |f+1,P,a,[]=>some (P,a)
 |f+1,P,a,b::h=>
  if b.og=j then
   (if(bT e g a b).2.1≠0 then none else rp c d e g i j f P (bT e g a b).2.2 (h++(bT e g a b).1))
  else if b.og≠i then none else
   (if(bT c d P b).2.1≠0 then none else rp c d e g i j f (bT c d P b).2.2 a (h++(bT c d P b).1))
abbrev kJ(P:E_):List Value:=bH P.m P.va P.vn P.vc P.ea P.en P.ec
def eP(a:World)(d:XN)(e:Nat)(b:ZH)(f g:Nat)(h:List cN):Prop:=
 ∃(c:List E_) (D:XN),Jl a 60 5 b f g (c.flatMap kJ)/\c.map (·.m)=h/\(∀P∈c,P.In a D)/\(∀P,D P->P<a.heap.size/\aF b≠some P/\¬d P/\e<=P)/\∀P,aF b=some P->¬d P/\e<=P
def KD{a:World}{D:XN}:∀{P:List E_} {cs:List Value},bz Qf a D P cs->cs=P.flatMap kJ
 |[],_,c=>by cases c;rfl
 |b::P,_,⟨g,h,d,⟨e,_⟩,f⟩=>by rw[d,e,KD f];rfl
def Sj:∀(b:List E_),∀P∈b.flatMap kJ,P.oneCell'=true:=λb P a=>by
 obtain⟨c,-,a⟩:=List.mem_flatMap.1 a;exact Qf.one (D:=λ_=>False) (w:=default) ⟨rfl,trivial⟩ P a
def Sk(P:List E_):(P.flatMap kJ).length=P.length*5:=by
 induction P with
 |nil=>rfl
 |cons b P a=>rw[List.flatMap_cons,QX,a,Xq];show 5+_=_;omega
variable{f:XN}{d2:bD}{e6:cN}
section
variable {w w' w0 w1 w2:World} {p q:Nat} {F G Z:XN} {cA cB:cy} {sA sB i k:Int} {A B:bD} {a:ZH} {n c:Nat} {ms:List cN} {v:Value}
def ei.wG(h:ei w Z ms v w'){Y:XN}(f:∀P,Y P->Z P\/P<w.heap.size):∃a n c,v= .slice a n c/\eP w' Y w.heap.size a n c ms:=by
 obtain⟨a,n,c,i,D,rfl,j,k,l,d,g⟩:=h;obtain⟨cs,p,m,o,q⟩:=j.body;have:=KD o;subst this;refine⟨a,n,c,rfl,i,D,m.Vf,k,l,λP b=>⟨(d P b).2.1,(d P b).2.2.1,λe=>?_,(d P b).1⟩,λP b=>⟨λe=>?_,(g P b).1⟩⟩
 ·have:=d P b
  exact(f P e).elim this.2.2.2 oM
 ·have:=g P b
  exact(f P e).elim this.2 oM
def eP.len{P:Nat}(b:eP w Z P a n c ms):n=ms.length:=by
 obtain⟨f,D,d,e,-⟩:=b;have:=d.len;rw[Sk]at this;rw[<-e,Q8];omega
def eP.lt{b:Nat}(d:eP w Z b a n c ms):∀P,aF a=some P->P<w.heap.size:=by
 obtain⟨f,D,e,-⟩:=d;exact e.lt
def eP.af{h:Nat}(k:eP w Z h a n c ms)(d:ak f w w')(i:∀P,f P->Z P):eP w' Z h a n c ms:=by
 obtain⟨l,D,m,o,p,e,j⟩:=k;exact⟨l,D,m.af d λP b g=>(j P b).1 (i P g),o,λP b=>(p P b).af d λP b g=>(e P b).2.2.1 (i P g),λP b=>⟨Qk (e P b).1 d.size,(e P b).2⟩,j⟩
def eP.less{g h:Nat}(m:eP w Z g a n c ms)(i:∀P,f P->Z P\/w.heap.size<=P)(j:h<=g):eP w f h a n c ms:=by
 obtain⟨o,D,k,p,q,d,l⟩:=m;exact⟨o,D,k,p,q,λP b=>⟨(d P b).1,(d P b).2.1,λe=>(i P e).elim (d P b).2.2.1 (by have:=(d P b).1;omega),Xx j (d P b).2.2.2⟩,λP b=>⟨λe=>(i P e).elim (l P b).1 (by have:=k.lt P b;omega),Xx j (l P b).2⟩⟩
def eP.pop{l:Nat}(m:eP w Z l a n c (e6::ms)):∃f g o p t q r u D,a=some ⟨f,g,none⟩/\(∀d,d<5->w.cell? ⟨f,g+d,none⟩=(bH e6 o p t q r u)[d]?)/\Row aG 8 w D o p e6.vec/\Row fY 96 w D q r e6.events/\(∀b,D b->b<w.heap.size/\¬Z b)/\eP w Z l (cg a 1 c 5) (n-1) (c-1) ms:=by
 have v:=m.len;obtain⟨e,D,h,x,i,k,y⟩:=m;rw[Xq]at v
 match e,h,x,i with
 |b::e,h,j,i=>
  simp only[QY,List.cons.injEq]at j;obtain⟨rfl,j⟩:=j;obtain⟨f,g,rfl,z⟩:=h.cell oM;have s:=i b (QV ..);refine⟨f,g,b.va,b.vn,b.vc,b.ea,b.en,b.ec,D,rfl,λd A=>?_,s.1,s.2,λb P=>⟨(k b P).1,(k b P).2.2.1⟩,e,D,?_,j,λB C=>i B (QJ _ C),λb P=>by rw[GS];exact k b P,λb P=>by rw[GS]at P;exact y b P⟩
  ·rw[z d oM,List.flatMap_cons,XW (show d<5 from A)]
  ·have:=h.tail oM
   rw[List.flatMap_cons,show(kJ b++e.flatMap kJ).drop 5=e.flatMap kJ from List.drop_left' rfl]at this;exact this
def eP.app{q L:TypeId}{r g:Nat}(z:eP w Z r a n c ms)(M:iu XP q 60 5 72){s:ZH}{e t:Nat}{u:List cN}(A:eP w Z g s e t u)(B:∀b,aF a=some b->b<g)(a4:r<=g)(a5:g<=w.heap.size)(hl:ms.length+u.length<=100000)(N:∀b,Z b->b<w.heap.size){C O:XR}(v:∀h i w',eP w' Z r h (n+e) i (ms++u)->ak (λj=>aF a=some j) w w'->C (.slice h (n+e) i) w'):
  aE XP (Builtin.append_ #[q,q] L #[.slice a n c,.slice s e t]) w C O:=by
 have hn:=z.len;have hm:=A.len;obtain⟨Q,D,R,S,T,E,F⟩:=z;obtain⟨x,U,k,V,W,I,r5⟩:=A;have X:s=none->e=0/\t=0:=λd=>by
  rcases k.body with⟨_,Y,h3⟩|⟨a0,a1,a2,f,_⟩
  ·exact⟨Y,h3⟩
  ·rw[d]at f;cases f
 refine R.app M (news:=x.flatMap kJ) k.len X (λp hp j a6 J=>?_) (Sj x) ba (by unfold maxLen;omega) λh i w' y l m=>?_
 ·subst hp
  have a3:j<e*5:=by
   rw[<-k.len];exact(Qv.1 J).1
  obtain⟨a0,a1,f,hc⟩:=k.cell oM
  cases f
  rw[Addr.add_lit];exact(hc j a3).trans J
 ·rw[<-List.flatMap_append]at y
  have a7:=l.size;have a8:=y.lt;refine v h i w' ⟨Q++x,λb=>D b\/U b,y,by rw[Q3,S,V],λb P=>?_,λb P=>?_,λb P=>⟨λK=>?_,?_⟩⟩ l
  ·rcases Q6.1 P with P|P
   ·exact((T b P).af l λb P=>(E b P).2.1).mono λb P=>.inl P
   ·exact((W b P).af l λb P f=>by have:=B b f;have:=(I b P).2.2.2;omega).mono λb P=>.inr P
  ·rcases P with P|P
   ·have o:=E b P
    refine⟨oM,λd=>?_,o.2.2.1,oM⟩;rcases m with H|H
    ·rw[H]at d;exact o.2.1 d
    ·rw[H]at d;cases d;omega
   ·have o:=I b P
    refine⟨oM,λd=>?_,o.2.2.1,oM⟩;rcases m with H|H
    ·rw[H]at d;have:=B b d;omega
    ·rw[H]at d;cases d;omega
  ·rcases m with H|H
   ·rw[H]at P;exact(F b P).1 K
   ·rw[H]at P;cases P;have:=N _ K;omega
  ·rcases m with H|H
   ·rw[H]at P;exact(F b P).2
   ·rw[H]at P;cases P;omega
structure gG (w0 w:World) (p q:Nat) (F G:XN) (cA:cy) (sA:Int) (cB:cy) (sB:Int) (A B:bD):Prop where
 a:bu w p F cA sA A
 b:bu w q G cB sB B
 ea:Env w0 w F
 eb:Env w0 w G
 apart:∀b,F b->¬G b
def gG.ah(P:gG w0 w p q F G cA sA cB sB A B)(a:ai w w'):gG w0 w' p q F G cA sA cB sB A B:=⟨P.a.ah a,P.b.ah a,P.ea.ah a,P.eb.ah a,P.apart⟩
def gG.af(a:gG w0 w p q F G cA sA cB sB A B)(c:ak f w w')(d:∀P,F P\/G P->¬f P)(e:∀P,f P->w0.heap.size<=P):gG w0 w' p q F G cA sA cB sB A B:=
 ⟨a.a.af c λP b=>d P (.inl b),a.b.af c λP b=>d P (.inr b),⟨a.ea.mI,a.ea.laid,a.ea.gr.new c λP b=>.inr (e P b),a.ea.aC⟩,⟨a.eb.mI,a.eb.laid,a.eb.gr.new c λP b=>.inr (e P b),a.eb.aC⟩,a.apart⟩
def gG.Aq(P:gG w0 w p q F G cA sA cB sB A B)(g:bu w' p f cA sA d2)(c:cz F w f w'):gG w0 w' p q f G cA sA cB sB d2 B:=
 ⟨g,P.b.af c.af λa b d=>P.apart a d b,P.ea.AY c,⟨P.eb.mI,P.eb.laid,P.ea.gr.new c.af λa b=>.inr (P.ea.aC a b),P.eb.aC⟩,λa b e=>(c.new a b).elim (λd=>P.apart a d e) λh=>by have:=P.b.aC a e;omega⟩
def gG.swap(P:gG w0 w p q F G cA sA cB sB A B):gG w0 w q p G F cB sB cA sA B A:=⟨P.b,P.a,P.eb,P.ea,λa b c=>P.apart a c b⟩
def gG.Ro(P:gG w0 w p q F G cA sA cB sB A B)(a:bu w' q f cB sB d2)(b:cz G w f w'):gG w0 w' p q F f cA sA cB sB A d2:=(P.swap.Aq a b).swap
abbrev jS(F G:XN):XN:=λP=>F P\/G P
end
def Vn:iu XP 56 60 5 72:=⟨kR,kR,dC⟩
def Jm(a:au)(P:Int)(b:cN)(c:Int):(kK a P b c).length<=2:=by
 unfold kK;split
 ·simp
 dsimp only;split<;>split<;>simp[List.isEmpty]
def wH(a:cy)(P:Int)(b:bD)(c:cN):(bT a P b c).1.length<=2:=by
 unfold bT;split
 ·simp
 dsimp only;split
 ·simp
 split
 ·simp
 split
 ·unfold nj
  dsimp only;split
  ·simp
  split<;>simp
 split
 ·exact Jm _ _ _ _
 split<;>simp
section
variable {w w' w0 w1 w2:World} {p q:Nat} {F G Z:XN} {cA cB:cy} {sA sB i k:Int} {A B:bD}
def Jn(a:gG w0 w p q F G cA sA cB sB A B)(hk:aK k){most:Nat}(g0:most<=1000)(hA:A.S.l.length<=17000000)(hB:B.S.l.length<=17000000)(h1:(fO cA sA A k 0).1.length=1){H I:bD}(hm:rp cA sA cB sB i k most (fO cA sA A k 0).2 B (fO cA sA A k 0).1=some (H,I)):
  ZG 31 #[XL p,XL q,XH i,XH k,XH (most:Int)] w (Ok λJ w'=>J= .bool true/\∃O Q,gG w0 w' p q O Q cA sA cB sB H I/\cz (jS F G) w (jS O Q) w'):=by
 refine DM (PC.ok (tU a.a hk) ?_);rintro _ w7 ⟨F7,T,d7,b6⟩;have d8:=a.Aq d7 b6;have c8:=a.a.aC;have b8:=a.b.aC;obtain⟨g1,n7,g2,rfl,U⟩:=T.wG (Y:=jS F7 G) λP a=>a.imp id λh=>b8 P h;have g3:=U.len;have d9:=z_ cA sA A k 0;refine⟨_,_,_,rfl,an.df (λe0=>Zz oM e0) (λ_=>?_)⟩;refine⟨λb7 fa V o b1 w'=>∃(c:Nat) (e f:XN) (j l:bD) (d:List cN),b1=c/\c<=most/\b7=most-c/\gG w0 w' p q e f cA sA cB sB j l/\cz (jS F G) w (jS e f) w'/\eP w' (jS e f) w.heap.size fa V o d/\d.length<=1+2*c/\
   rp cA sA cB sB i k (most-c) j l d=some (H,I)/\j.S.l.length<=17000300+300*c/\l.S.l.length<=17000300+300*c,
  ⟨_,0,F7,G,_,B,_,rfl,Qj _,rfl,d8,b6.left,U.less (λP a=>.inl a) (Q4 _),oM,hm,by rcases d9.evs with h|h<;>omega,oM⟩,?_⟩
 rintro b7 fa V o _ _ b9 ⟨c,e,f,j,l,d,rfl,hj,rfl,W,a4,X,b2,b,g4,g5⟩;have K:=X.len;have c8:=W.a.aC;have b8:=W.b.aC;have z:∀{w':World} {e f:XN} {Y:Nat} {d:List cN} {j l:bD},gG w0 w' p q e f cA sA cB sB j l->cz (jS F G) w (jS e f) w'->Y=d.length->d=[]->some (j,l)=some (H,I)->
   Ok (λJ w'=>J= .bool true/\∃O Q,gG w0 w' p q O Q cA sA cB sB H I/\cz (jS F G) w (jS O Q) w') (.returned (.bool ((Y:Int)==0))) w':=λa e1 hn c0 Z=>by
  cases Z
  subst c0;subst hn;exact Ok.mk ⟨rfl,_,_,a,e1⟩
 refine an.dec (λc9=>?_) (λg6=>?_)
 rotate_left
 ·have:most-c=0:=oM
  rw[this]at b;unfold rp at b;split at b
  ·rename_i c0;exact z W a4 K c0 b
  ·cases b
 obtain⟨a5,r⟩:∃a5,most-c=a5+1:=⟨most-c-1,oM⟩
 rw[r]at b
 match d,X,K,b2,b with
 |[],X,K,b2,b=>exact an.dec (λh0=>by simp at K;omega) (λ_=>z W a4 K rfl b)
 |x::d,X,K,b2,b=>
  rw[Xq]at K b2;refine an.dec (λ_=>?_) (λh0=>oM);obtain⟨a0,a1,va,vn,vc,ea,en,ec,D,rfl,hc,hv,Z,hD,e2⟩:=X.pop;refine⟨a0,a1,rfl,oM,oM,bl (es:=bH x va vn vc ea en ec) (k:=5) (iF _ _ _ _ _ _ _) rfl (λb1 ht=>hc b1 ht) (PA.mk λg7 e3 g8 e4=>az (iF x va vn vc ea en ec) e4 rfl λL e5 g9 c1=>⟨oM,oM,?_⟩)⟩;have R:ai b9 L:=e3.new e5 λP a=>.inr (by have a:P=b9.heap.size:=a;omega);have h6:=R.size;have m:=W.ah R;have a7:eP L (jS e f) w.heap.size (cg (some ⟨a0,a1,none⟩) 1 o 5) (V-1) (o-1) d:=e2.af R λP a=>a.elim;have c2:cz (jS F G) w (jS e f) L:=⟨a4.af.ah R,a4.new⟩
  have e6:=a.ea.gr.size;have a2:∀{n:World} {C E:XN} {a6 a8:bD} {ms:List cN} {J:Value},gG w0 n p q C E cA sA cB sB a6 a8->cz (jS e f) L (jS C E) n->(∃s t u,J= .slice s t u/\eP n (jS C E) L.heap.size s t u ms)->ms.length<=2->
    rp cA sA cB sB i k a5 a6 a8 (d++ms)=some (H,I)->a6.S.l.length<=17000300+300*(c+1)->a8.S.l.length<=17000300+300*(c+1)->n.heap[b9.heap.size]? =some (.cells (bH x va vn vc ea en ec).toArray 60 (0,0))/\∃s t u,J= .slice s t u/\
    ∀ε:XR,aE XP (Builtin.append_ #[56,56] 56 #[.slice (cg (some ⟨a0,a1,none⟩) (Int.toNat 1) o 5) (V-Int.toNat 1) (o-Int.toNat 1),.slice s t u]) n (λe7 b3=>∃(c7:ZH) (Y d0:Nat),e7= .slice c7 Y d0/\∃d1,d1<most-c/\
     ∃(M:Nat) (e f:XN) (j l:bD) (d:List cN),IntKind.wrap .i64 ((c:Int)+1)=M/\M<=most/\d1=most-M/\gG w0 b3 p q e f cA sA cB sB j l/\cz (jS F G) w (jS e f) b3/\eP b3 (jS e f) w.heap.size c7 Y d0 d/\d.length<=1+2*M/\
      rp cA sA cB sB i k (most-M) j l d=some (H,I)/\j.S.l.length<=17000300+300*M/\l.S.l.length<=17000300+300*M) ε:=λ{n C E a6 a8 ms J} c3 v e8 h7 e9 f0 f1=>by
   refine⟨v.af.get c1 λh=>h.elim (λh=>by have:=c8 _ h;omega) λh=>by have:=b8 _ h;omega,?_⟩;obtain⟨s,t,u,rfl,f2⟩:=e8;refine⟨s,t,u,rfl,λε=>?_⟩;have d2:eP n (jS C E) w.heap.size (cg (some ⟨a0,a1,none⟩) 1 o 5) (V-1) (o-1) d:=by
    obtain⟨f3,D,h1,h2,h3,h4,h5⟩:=a7.af v.af λP a=>a;have c9:=a7.lt;obtain⟨L',D',f4,f5,f6,S,c4⟩:=a7;refine⟨L',D',f4.af v.af λP a=>(c4 P a).1,f5,λP a=>(f6 P a).af v.af λP a=>(S P a).2.2.1,λP a=>⟨Qk (S P a).1 v.af.size,(S P a).2.1,λhz=>(v.new P hz).elim (S P a).2.2.1 (by have:=(S P a).1;omega),(S P a).2.2.2⟩,λP a=>⟨λhz=>(v.new P hz).elim (c4 P a).1 (by have:=c9 P a;omega),(c4 P a).2⟩⟩
   have f7:∀P,jS C E P->P<n.heap.size:=λP a=>a.elim (c3.a.aC P) (c3.b.aC P);refine eP.app d2 Vn f2 (λP a=>a7.lt P a) c2.af.size v.af.size oM f7 λa' c' b3 f8 d3=>?_;have b4:∀P,aF (cg (some ⟨a0,a1,none⟩) 1 o 5)=some P->¬jS C E P/\w.heap.size<=P:=λP a=>by
    obtain⟨f3,D,h1,h2,h3,h4,h5⟩:=d2;exact h5 P a
   have f9:=c3.af d3 (λP a Z=>(b4 P Z).1 a) λP a=>by have:=(b4 P a).2;have:=e6;omega
   refine⟨_,_,_,rfl,_,oM,c+1,C,E,a6,a8,d++ms,aq oM,oM,rfl,f9,?_,f8,by rw[QX];omega,by rw[show most-(c+1)=a5 by omega];exact e9,f0,f1⟩;have h9:=c2.trans v;exact⟨h9.af.new d3 λP a=>.inr (b4 P a).2,h9.new⟩
  refine⟨λd4 w'=>d4=(if x.og=k then XM q else XM p)/\L=w',⟨x.og,ae c1 rfl,an.dJ (λh=>⟨by rw[Zx h],rfl⟩) (λh=>⟨by rw[Zq h],rfl⟩)⟩,?_⟩;rintro d4 _ _ ⟨rfl,rfl⟩;refine ar (iF x va vn vc ea en ec) c1 ?_;have d5:=hv.ah R;have d6:=Z.ah R;have a9:∀P,D P->P<L.heap.size:=λP a=>by have:=(hD P a).1;omega
  unfold rp at b
  by_cases b0:x.og=k
  ·rw[Zx b0]
   rw[Zx b0]at b;split at b
   ·cases b
   rename_i N;have N:(bT cB sB l x).2.1=0:=Classical.not_not.1 N;refine PC.ok (pA m.b m.eb d5 (λP a=>⟨a9 P a,λr=>(hD P a).2 (.inr r)⟩) d6 (λP a=>⟨a9 P a,λr=>(hD P a).2 (.inr r)⟩) oM) ?_;rintro _ n ⟨v1,Q,rfl,T,b5,a3⟩;have c5:=lq cB sB l x m.b.waits m.b.ok.Ep.2;rw[N];obtain⟨y,s,t,u,rfl,g⟩:=a2 (m.Ro b5 a3) a3.right (T.wG λP a=>a.elim (λh=>.inr (by have:=m.a.aC P h;omega)) .inl) (wH ..) b oM (by rcases c5.evs with h|h<;>omega);refine⟨_,_,_,_,rfl,an.df (λh=>Zz rfl h) (λ_=>⟨_,ae y rfl,an.df (λh=>⟨_,ae y rfl,an.df (λh2=>Zz b0 h2) (λ_=>g _)⟩) (λ_=>g _)⟩)⟩
  ·rw[Zq b0]
   rw[Zq b0]at b;split at b
   ·cases b
   rename_i c6;have c6:x.og=i:=Classical.not_not.1 c6;split at b
   ·cases b
   rename_i N;have N:(bT cA sA j x).2.1=0:=Classical.not_not.1 N;refine PC.ok (pA m.a m.ea d5 (λP a=>⟨a9 P a,λr=>(hD P a).2 (.inl r)⟩) d6 (λP a=>⟨a9 P a,λr=>(hD P a).2 (.inl r)⟩) oM) ?_;rintro _ n ⟨v1,O,rfl,T,b5,a3⟩;have c5:=lq cA sA j x m.a.waits m.a.ok.Ep.2;rw[N];obtain⟨y,s,t,u,rfl,g⟩:=a2 (m.Aq b5 a3) a3.left (T.wG λP a=>a.elim .inl (λh=>.inr (by have:=m.b.aC P h;omega))) (wH ..) b (by rcases c5.evs with h|h<;>omega) oM;refine⟨_,_,_,_,rfl,an.df (λh=>Zz rfl h) (λ_=>⟨_,ae y rfl,an.df (λh=>Zz c6 h) (λ_=>g _)⟩)⟩
end
def mq:aM:=⟨[[⟨1,1,true,[]⟩,⟨2,3,false,[]⟩,⟨3,2,false,[]⟩,⟨4,2,false,[⟨0,1,0,2⟩,⟨1,0,-1,0⟩,⟨0,2,-1,0⟩]⟩,⟨2,2,false,[]⟩,⟨1,1,false,[]⟩]],[⟨0,0,1,0,2⟩,⟨0,2,2,0,1⟩,⟨0,5,3,4,4⟩]⟩
def bX(P:Int):cy:=⟨P,131072,400,3,20,5,4,0,mq⟩
def OZ:Bool:=
 (dd (bX 2) 0).1==0&&((dd (bX 2) 1).1==0&&((bI (bX 2) 0 (dd (bX 2) 0).2 ⟨0,0,0,1,3,-1,0⟩).1==0&&((bI (bX 2) 0 (dd (bX 2) 0).2 ⟨0,0,0,1,3,-1,0⟩).2.1==((0:Int),(1:Int))&&((BN mq (dd (bX 2) 1).2.S.l 0 0).code==14&&((fO (bX 2) 1 (dd (bX 2) 1).2 0 0).1.length==1&&
  (match rp (bX 2) 1 (bX 2) 0 1 0 100 (fO (bX 2) 1 (dd (bX 2) 1).2 0 0).2 (bI (bX 2) 0 (dd (bX 2) 0).2 ⟨0,0,0,1,3,-1,0⟩).2.2 (fO (bX 2) 1 (dd (bX 2) 1).2 0 0).1 with
  |none=>false
  |some (P,a)=>(BN mq P.S.l 0 0).code==0&&((BN mq P.S.l 0 0).st.cells.length==6&&(((BN mq P.S.l 0 0).st.cells.getD 0 ⟨0,[]⟩).n==3&&((BN mq P.S.l 0 0).st.version==1&&P.S.vec==[1,0])))))))))
def JV:OZ=true:=by decide+kernel
variable{p:Array Value}{e q:Int}{g8:List BL}{a4:List PanicEntry->XU}{a c:Nat}{C:Nat×Nat}{c2 d r:ZH}{j:Type}{g:TypeId}{b:World}
def Row.ym{c:jh j}{bytes P:Nat}{D:XN}(e:b.heap[P]? =some (.cells p g C)){xs:List j}(l:bz c b D xs p.toList)(q:0<c.k)(a:xs.length*bytes<=aI):Row c bytes b (λd=>d=P\/D d) (XM P) xs.length xs:=
 ⟨rfl,a,λr s m=>by
  obtain⟨f,n,h⟩:=l.at m;have t:=c.len h;refine⟨P,0,f,rfl,ay e,.inl rfl,λi o=>?_,c.mono h λd a=>.inr a⟩;have k:=n i o;rw[Qq (show i<f.length by omega)]at k⊢;rw[Xz];exact ae e (by simpa using k)⟩
def i10(P:(decide (-1000000<=e)&&decide (e<=1000000))=true):aK e:=by
 simp only[QK,Zk]at P;unfold aK;omega
section
variable {w w' w0:World}
def JW:ZG 26 #[] w (Ok λu w'=>∃n tn v o p x G,u= .agg #[.slice n tn v,.slice o p x]/\aW w' G mq n tn o p/\(∀P,G P->w.heap.size<=P/\P<w'.heap.size)/\ai w w'):=by
 refine DO (PA.mk λc y V z=>PA.mk λe A W B=>PA.mk λg q X C=>PA.mk λh l Y E=>PA.mk λr i Z F=>?_);have s:=((A.then q).then l).then i;refine PS.mk (s.get z id) sM λw6 H s6 I=>PS.mk I sM λd J s7 t=>⟨_,_,_,_,_,_,ae t rfl,ae t rfl,?_⟩
 have f:ak (λP=>P=w.heap.size) r d:=H.then J;have K:=f.get (i.get (l.get (q.get B id) id) id) (λa=>by have a:c.heap.size=w.heap.size:=a;omega);have L:=f.get (i.get (l.get C id) id) (λa=>by have a:e.heap.size=w.heap.size:=a;omega);have M:=f.get (i.get E id) (λa=>by have a:g.heap.size=w.heap.size:=a;omega);have N:=f.get F (λa=>by have a:h.heap.size=w.heap.size:=a;omega);have O:Row fm 32 d (λP=>P=c.heap.size\/False) (XM c.heap.size) 3 [⟨0,1,0,2⟩,⟨1,0,-1,0⟩,⟨0,2,-1,0⟩]:=
  Row.ym (c:=fm) (xs:=[⟨0,1,0,2⟩,⟨1,0,-1,0⟩,⟨0,2,-1,0⟩]) (D:=λ_=>False) K ⟨_,_,rfl,⟨rfl,i10 rfl,i10 rfl,i10 rfl,i10 rfl⟩,_,_,rfl,⟨rfl,i10 rfl,i10 rfl,i10 rfl,i10 rfl⟩,_,_,rfl,⟨rfl,i10 rfl,i10 rfl,i10 rfl,i10 rfl⟩,rfl⟩ dC dC
 have Q:Row nJ 48 d (λP=>P=e.heap.size\/P=c.heap.size\/False) (XM e.heap.size) 6 [⟨1,1,true,[]⟩,⟨2,3,false,[]⟩,⟨3,2,false,[]⟩,⟨4,2,false,[⟨0,1,0,2⟩,⟨1,0,-1,0⟩,⟨0,2,-1,0⟩]⟩,⟨2,2,false,[]⟩,⟨1,1,false,[]⟩]:=by
  have no:∀(j k:Int) (m:Bool),aK j->aK k->nJ.rep d (λP=>P=c.heap.size\/False) ⟨j,k,m,[]⟩ [XH j,XH k,.bool m,.slice none 0 0]:=λj k m R S=>⟨none,0,0,rfl,dy _ _,R,S⟩
  exact Row.ym (c:=nJ) (xs:=[⟨1,1,true,[]⟩,⟨2,3,false,[]⟩,⟨3,2,false,[]⟩,⟨4,2,false,[⟨0,1,0,2⟩,⟨1,0,-1,0⟩,⟨0,2,-1,0⟩]⟩,⟨2,2,false,[]⟩,⟨1,1,false,[]⟩]) (D:=λP=>P=c.heap.size\/False) L ⟨_,_,rfl,no 1 1 true (i10 rfl) (i10 rfl),_,_,rfl,no 2 3 false (i10 rfl) (i10 rfl),_,_,rfl,no 3 2 false (i10 rfl) (i10 rfl),_,_,rfl,⟨_,_,_,rfl,O,i10 rfl,i10 rfl⟩,_,_,rfl,no 2 2 false (i10 rfl) (i10 rfl),_,_,rfl,no 1 1 false (i10 rfl) (i10 rfl),rfl⟩ dC dC
 have T:Row tL 40 d (λP=>P=g.heap.size\/False) (XM g.heap.size) 3 mq.projs:=
  Row.ym (c:=tL) (xs:=[⟨0,0,1,0,2⟩,⟨0,2,2,0,1⟩,⟨0,5,3,4,4⟩]) (D:=λ_=>False) M ⟨_,_,rfl,⟨rfl,i10 rfl,i10 rfl,i10 rfl,i10 rfl,i10 rfl⟩,_,_,rfl,⟨rfl,i10 rfl,i10 rfl,i10 rfl,i10 rfl,i10 rfl⟩,_,_,rfl,⟨rfl,i10 rfl,i10 rfl,i10 rfl,i10 rfl,i10 rfl⟩,rfl⟩ dC dC
 have U:Row jC 24 d (λP=>P=h.heap.size\/P=e.heap.size\/P=c.heap.size\/False) (XM h.heap.size) 1 mq.types:=
  Row.ym (c:=jC) (xs:=[[⟨1,1,true,[]⟩,⟨2,3,false,[]⟩,⟨3,2,false,[]⟩,⟨4,2,false,[⟨0,1,0,2⟩,⟨1,0,-1,0⟩,⟨0,2,-1,0⟩]⟩,⟨2,2,false,[]⟩,⟨1,1,false,[]⟩]]) (D:=λP=>P=e.heap.size\/P=c.heap.size\/False) N ⟨_,_,rfl,⟨_,_,_,rfl,Q⟩,rfl⟩ dC dC
 refine Ok.mk ⟨_,_,_,_,_,_,λP=>(P=h.heap.size\/P=e.heap.size\/P=c.heap.size\/False)\/P=g.heap.size\/False,rfl,⟨U.mono λP b=>.inl b,T.mono λP b=>.inr b⟩,λP b=>?_,?_⟩
 ·have z7:d.heap.size=r.heap.size:=oM
  rcases b with(rfl|rfl|rfl|b)|rfl|b<;>first|omega|exact b.elim
 ·exact(y.then s).new f λP b=>.inr (by have b:P=w.heap.size:=b;omega)
def wX:ZG 8 #[XH e] w (Ok λl w'=>∃a tn f b c g G,l=py (bX e) a tn f b c g/\aW w' G mq a tn b c/\(∀P,G P->w.heap.size<=P/\P<w'.heap.size)/\ai w w'):=by
 refine Bj (PA.mk λq m r n=>PC.ok JW ?_);rintro _ s ⟨a,tn,f,b,c,g,G,rfl,o,h,i⟩;refine⟨_,_,_,_,_,_,rfl,az (tT (bX e) a tn f b c g) (i.get n id) rfl λt j u p=>ar (tT (bX e) a tn f b c g) p (Ok.mk ⟨a,tn,f,b,c,g,G,rfl,o.af j λP d k=>by have k:P=w.heap.size:=k;have:=h P d;omega,λP d=>by have:=h P d;omega,(m.then i).new j λP d=>.inr (by have d:P=w.heap.size:=d;omega)⟩)⟩
def TN(P:iQ):Pd (fp XP 49) (oF P)=true:=kR
def MJ{P arg:Int}:ZG 29 #[XH P,XH arg] w (Ok λb w'=>b=oF ⟨0,P,0,1,arg,-1,0⟩/\ai w w'):=
 FR (PA.mk λh c i d=>az (vX ⟨0,P,0,1,arg,-1,0⟩) d rfl λj e k f=>ar (vX ⟨0,P,0,1,arg,-1,0⟩) f (Ok.mk ⟨rfl,c.new e λg a=>.inr (by have a:g=w.heap.size:=a;omega)⟩))
def gG.made{g G:XN}{j k:cy}{l m:bD}(n:et w0)(o:Laid w0)(f:ai w0 w)(p:bu b a g j e l)(s:∀P,g P->w.heap.size<=P)(h:ai w b)(i:ai b w')(d:bu w' c G k q m)(r:∀P,G P->b.heap.size<=P):gG w0 w' a c g G j e k q l m:=
 ⟨p.ah i,d,⟨n,o,f.then (h.then i),λP d=>by have:=s P d;have:=f.size;omega⟩,⟨n,o,f.then (h.then i),λP d=>by have:=r P d;have:=f.size;have:=h.size;omega⟩,λP t u=>by have:=p.aC P t;have:=r P u;omega⟩
def HP:∃(f P g a d:bD) (h b:px),dd (bX 2) 0=(0,f)/\dd (bX 2) 1=(0,P)/\bI (bX 2) 0 f ⟨0,0,0,1,3,-1,0⟩=(0,(0,1),g)/\BN mq P.S.l 0 0=h/\h.code=14/\(fO (bX 2) 1 P 0 0).1.length=1/\
  rp (bX 2) 1 (bX 2) 0 1 0 100 (fO (bX 2) 1 P 0 0).2 g (fO (bX 2) 1 P 0 0).1=some (a,d)/\BN mq a.S.l 0 0=b/\b.code=0/\b.st.cells.length=6/\(b.st.cells.getD 0 ⟨0,[]⟩).n=3/\b.st.version=1/\a.S.vec=[1,0]:=by
 have e:=JV;unfold OZ at e;simp only[QK,beq_iff_eq]at e;obtain⟨i,j,k,l,m,n,c⟩:=e;split at c
 ·cases c
 ·rename_i a d o
  simp only[QK,beq_iff_eq]at c;obtain⟨p,q,r,s,t⟩:=c;exact⟨_,_,_,a,d,_,_,Prod.ext i rfl,Prod.ext j rfl,Prod.ext k (Prod.ext l rfl),rfl,m,n,o,rfl,p,q,r,s,t⟩
def Hu(j:et w0)(k:Laid w0)(l:ai w0 w):ZG 10 #[] w (Ok λa3 w'=>a3= .bool true/\ai w w'):=by
 obtain⟨F,XB,i3,YB,YA,i4,H,e1,e2,e3,e4,e5,e6,e7,e8,e9,i5,d8,d9,e0⟩:=HP;have I:(bX 2).decl=mq:=rfl;refine Bh (PC.ok wX ?_);rintro _ w2 ⟨ta,tn,tc,pa,pn,pc,G2,rfl,f2,f3,m⟩;refine bE (Kp (bX 2) ta tn tc pa pn pc) ⟨rfl,PC.ok (yi (c:=bX 2) j k (l.then m) f2 (λa P=>(f3 a P).2) (i10 rfl) (i10 rfl) (i10 rfl)) ?_⟩;rintro v5 w5 b;unfold AB at b;rw[e1]at b;obtain⟨k5,⟨n,-⟩|⟨-,a4,a5,rfl,J,o,f4⟩⟩:=b
 ·exact Zz rfl n
 dsimp only at J f4;have d:=m.then k5;refine⟨_,_,rfl,PC.ok wX ?_⟩;rintro _ w9 ⟨tb,tm,td,pb,pm,pd,G9,rfl,f5,f7,e⟩;refine bE (Kp (bX 2) tb tm td pb pm pd) ⟨rfl,PC.ok (yi (c:=bX 2) j k ((l.then d).then e) f5 (λa P=>(f7 a P).2) (i10 rfl) (i10 rfl) (i10 rfl)) ?_⟩;rintro i6 g0 b;unfold AB at b;rw[e2]at b;obtain⟨K,⟨n,-⟩|⟨-,a6,G,rfl,L,M,g1⟩⟩:=b
 ·exact Zz rfl n
 dsimp only at L g1;have z5:=d.size;have z9:=e.size;have z2:=m.size;generalize i7:bX 2=p at*;have g2:gG w0 g0 a4 a6 a5 G p 0 p 1 F XB:=gG.made (w:=w) j k l J (λa P=>by have:=o a P;omega) d (e.then K) L λa P=>by have:=M a P;omega
 have N:=(d.then e).then K;refine⟨_,_,rfl,an.df (λh=>Zz rfl h) (λ_=>an.df (λh=>Zz rfl h) (λ_=>fE Tryz.underlying33 ⟨_,rfl,an.ff rfl (fE Tryz.underlying33 ⟨_,rfl,an.ff rfl (PC.ok MJ ?_)⟩)⟩))⟩;rintro _ i8 ⟨rfl,q⟩;have r:=g2.ah q;have g3:iQ.Ok ⟨0,0,0,1,3,-1,0⟩:=⟨i10 rfl,i10 rfl,i10 rfl,i10 rfl,i10 rfl,i10 rfl⟩
 refine bE (TN _) ⟨rfl,PC.ok (kC r.a r.ea g3 oM) ?_⟩;have s:=sw p 0 F ⟨0,0,0,1,3,-1,0⟩;rintro _ t ⟨i9,f,u,v⟩;rw[e3]at s f u;dsimp only at s f u;have a7:=r.Aq u v;rw[Zq sM]at f;obtain⟨O,Q,R,S,T,U,V,W,X,-,rfl,-⟩:=f;refine bE (zW _ O Q R S T U V W X) ⟨rfl,PA.mk λj0 g4 j1 g5=>az (iM _ O Q R S T U V W X) g5 rfl λg6 b2 j2 g7=>?_⟩;have Y:ai t g6:=g4.new b2 λa P=>.inr (by have P:a=t.heap.size:=P;omega);have Z:=a7.ah Y;refine PC.ok (yd Z.b) ?_;rintro _ b4 ⟨a0,x⟩;rw[I,e4]at a0;obtain⟨b5,b6,b7,b8,b9,c0,c1,c3,c4,-,rfl,-⟩:=a0;refine bE (zW _ b5 b6 b7 b8 b9 c0 c1 c3 c4) ⟨rfl,PA.mk λj3 g8 j4 g9=>az (iM _ b5 b6 b7 b8 b9 c0 c1 c3 c4) g9 rfl λc5 y j5 h2=>?_⟩;have z:ai b4 c5:=g8.new y λa P=>.inr (by have P:a=b4.heap.size:=P;omega);have A:=z.get (x.get g7 id) id;refine⟨_,ae A rfl,an.df (λh=>Zz rfl h) (λ_=>⟨_,_,ae A rfl,ae A rfl,aE.mk zU ⟨_,rfl,an.ff rfl ⟨_,ae h2 rfl,an.df (λh=>Zz e5 h) (λ_=>?_)⟩⟩⟩)⟩;have a8:=(Z.ah x).ah z;refine PC.ok (Jn (most:=100) a8.swap (i10 rfl) dC oM (by rcases s.evs with h|h<;>omega) e6 e7) ?_;rintro _ j6 ⟨rfl,j7,j8,a1,a9⟩;refine⟨_,rfl,an.not (an.tt rfl (PC.ok (yd a1.a) ?_))⟩;rintro _ B ⟨a2,c6⟩;rw[I,e8]at a2;have c:ai w B:=by
  have h3:ai w t:=(N.then q).new v.af λa P=>.inr (by have:=o a P;omega);have y:ai w c5:=((h3.then Y).then x).then z;refine(y.new a9.af λa P=>.inr ?_).then c6;rcases P with P|P
  ·have:=M a P;omega
  ·rcases v.new a P with h|h
   ·have:=o a h;omega
   ·have:=N.size;have:=q.size;omega
 obtain⟨c7,c8,c9,d0,d1,d2,d3,d4,d5,G3,rfl,g,-⟩:=a2;refine bE (zW H c7 c8 c9 d0 d1 d2 d3 d4 d5) ⟨rfl,PA.mk λj9 h4 k0 h5=>az (iM H c7 c8 c9 d0 d1 d2 d3 d4 d5) h5 rfl λh6 d6 k1 i=>?_⟩;have C:ai B h6:=h4.new d6 λa P=>.inr (by have P:a=B.heap.size:=P;omega);have g:=g.ah C;have k3:=g.len;obtain⟨a,b0,k4,k6,k7,rfl,k8,-,h7,-⟩:=lC (i:=0) g oM;refine⟨_,ae i rfl,an.dJ (λ_=>⟨_,_,_,ae i rfl,an.dJ (λ_=>⟨_,_,_,ae i rfl,a,b0,rfl,oM,oM,_,h7,an.dJ (λ_=>⟨_,ae i rfl,an.dJ (λ_=>?_) (λh=>Zz d9 h)⟩) (λh=>Zz d8 h)⟩) (λh=>Zz oM h)⟩) (λh=>Zz e9 h)⟩;refine PC.ok (KL ((a1.a.ah c6).ah C)) ?_;rintro _ l0 ⟨l3,l4,l5,l6,rfl,E,h8,i1⟩;rw[e0]at E;have i2:=E.len dC;refine⟨_,_,_,rfl,PA.mk λl7 d7 l8 h9=>PC.ok (lk (xs:=[1,0]) (ys:=[1,0]) ((E.ah d7).row dC dC) (Row.lit h9 [1,0] rfl (λb1 hx=>by simp at hx;rcases hx with rfl|rfl<;>exact i10 rfl) dC)) ?_⟩;rintro _ l9 ⟨rfl,i0⟩;exact⟨_,rfl,Ok.mk ⟨sM,(((c.then C).then h8).then d7).then i0.af⟩⟩
end
section
variable {w w' w0:World} {p q:Nat} {F G D E:XN} {c e:cy} {self other:Int} {X Y:bD}
def JH(c:cy)(self:Int):(dd c self).2.fr.asked=[]:=by
 have P:(EG c).2.fr.asked=[]:=by unfold EG;rw[wx]
 unfold dd;split
 ·exact P
 split<;>exact P
def bu.cl(P:bu w p F c self X):X.S.Cl/\X.S.n=c.bR.toNat:=by
 obtain⟨d,e,a,b⟩:=P;exact(b.at' 3).2
def bu.len(b:bu w p F c self X):X.S.l.length<=20000000:=by
 obtain⟨g,d,P,e⟩:=b;have f:cJ w d.bp (λa=>F a/\P a=4) c.decl c.every.toNat X.S.l:=e.at' 4;exact f.1.2.2.2
def CW(c:et w0)(d:Laid w0)(a:ai w0 w):PC XP 10 #[] w (λP e=>∃b:Bool,P= .bool b/\Ok (λP w'=>P= .bool true/\ai w0 w') (.returned (.bool b)) e) a4:=by
 refine PC.ok (Hu c d a) ?_;rintro _ w' ⟨rfl,f⟩;exact⟨_,rfl,Ok.mk ⟨rfl,a.then f⟩⟩
def uC{x:iQ}{tn tc O pc Q lc:Nat}(l:et w)(m:Laid w)(hd:aW w D c.decl d tn r O)(hD:∀P,D P->P<w.heap.size)(hl:Row PL 152 w E c2 Q g8)(hE:∀P,E P->P<w.heap.size)(hx:x.Ok)(hs:aK c.bN)(g4:aK c.every)(g5:aK c.start):
  ZG 6 #[py c d tn tc r O pc,XH self,.slice c2 Q lc,oF x] w (Ok λf6 w'=>f6= .bool true/\ai w w'):=by
 have u2:=hl.len;have n4:=hl.dq;unfold aI at n4;refine qx (PA.mk λw1 k1 s1 g1=>PA.mk λi k2 s2 g2=>?_);have R:=k1.then k2;have g6:=k2.get g1 id;refine ar (tT c d tn tc r O pc) g6 (PC.ok (Jc (hd.ah R) (hl.ah R)) ?_);rintro _ w3 ⟨⟨k6,rfl,n8⟩,o⟩;have S:=R.then o;have g7:=o.get g6 id;have n9:=o.get g2 id;refine⟨_,rfl,an.mk (λ_=>CW l m S) (λo0=>?_)⟩;obtain⟨o3,o4⟩:=n8 o0;refine ar (tT c d tn tc r O pc) g7 (PC.ok (tS (hd.ah S)) ?_);rintro _ w4 ⟨ua,un,uc,va,vn,vc,G4,rfl,o5,o6,s⟩;refine bE (Kp c ua un uc va vn vc) ⟨rfl,PC.ok (yi l m (S.then s) o5 (λP a=>(o6 P a).2) hs g4 g5) ?_⟩;rintro v5 w5 C;obtain⟨t,hR⟩:∃t,dd c self=t:=⟨_,rfl⟩
 unfold AB at C;rw[hR]at C;obtain⟨A,C⟩:=C;have a2:=(S.then s).then A;have c3:=A.get (s.get g7 id) id;have o7:=A.get (s.get n9 id) id;have o8:∃e5:ZH,v5= .tuple #[.pointer e5,XH t.1]:=by
  rcases C with⟨-,h⟩|⟨H,p,F,h,-⟩
  ·exact⟨_,h⟩
  ·exact⟨_,by rw[h,H]⟩
 obtain⟨e5,rfl⟩:=o8;refine⟨_,_,rfl,ar (tT c d tn tc r O pc) c3 (PC.ok (tS (hd.ah a2)) ?_)⟩;rintro _ w6 ⟨a7,a8,a9,b0,b1,b2,G6,rfl,o9,p0,u⟩;refine bE (Kp c a7 a8 a9 b0 b1 b2) ⟨rfl,PC.ok (yi l m (a2.then u) o9 (λP a=>(p0 P a).2) hs g4 g5) ?_⟩;rintro v7 w7 I;unfold AB at I;rw[hR]at I;obtain⟨J,I⟩:=I;have g9:=(a2.then u).then J;have p1:=J.get (u.get c3 id) id;have p2:=J.get (u.get o7 id) id;have p3:∃e6:ZH,v7= .tuple #[.pointer e6,XH t.1]:=by
  rcases I with⟨-,h⟩|⟨H,p,F,h,-⟩
  ·exact⟨_,h⟩
  ·exact⟨_,by rw[h,H]⟩
 obtain⟨e6,rfl⟩:=p3;refine⟨_,_,rfl,an.df (λh=>Zz rfl h) (λ_=>an.df (λ_=>CW l m g9) (λH=>?_))⟩;obtain⟨-,p,F,h2,hA,hF,f8⟩:=C.resolve_left λh=>h.1 H;obtain⟨-,q,G,h3,hB,hG,f9⟩:=I.resolve_left λh=>h.1 H;obtain rfl:e5=XM p:=by simp at h2;exact h2.1
 obtain rfl:e6=XM q:=by simp at h3;exact h3.1
 have u3:=R.size;have u4:=S.size;have z4:=s.size;have u5:=a2.size;have z6:=u.size;have u6:w.heap.size+2=i.heap.size:=oM
 have h4:∀P,F P->i.heap.size<=P:=λP a=>by have:=hF P a;have:=o.size;omega
 have p4:∀P,G P->i.heap.size<=P:=λP a=>by have:=hG P a;have:=o.size;have:=A.size;omega
 have p5:gG w w7 p q F G c self c self t.2 t.2:=gG.made (w0:=w) (w:=i) l m R hA h4 ((o.then s).then A) (u.then J) hB (λP a=>by have:=hG P a;omega);have h0:t.2.fr.asked=[]:=by rw[<-hR];exact JH c self
 generalize u7:t.2=X0 at*;refine⟨λc6 T w'=>∃(n:Nat) (U GG:XN) (f:bD),T=n/\n<=Q/\c6=Q-n/\gG w w' p q U GG c self c self f f/\ak (λP=>i.heap.size<=P) w7 w'/\(∀P,jS U GG P->i.heap.size<=P)/\f.S.l.length<=16777216+300*n/\f.fr.asked.length<=n,
  ⟨_,0,F,G,X0,rfl,Qj _,rfl,p5,ak.refl _,λP a=>a.elim (h4 P) (p4 P),oM,by rw[h0];exact Qj _⟩,?_⟩
 rintro c6 _ _ w8 ⟨n,U,GG,f,rfl,hj,rfl,b,K,v,u9,v0⟩;have kE:ak (λP=>i.heap.size<=P) w w8:=(ai.af g9).then K;have p6:=K.get p1 oM;have p7:=K.get p2 oM;refine an.dec (λv1=>?_) (λv2=>?_)
 ·have p8:=hl.af kE λP a h=>by have:=hE P a;omega
  obtain⟨P,y,b3,es,rfl,p9,h5,q0,h6,va,vn,vc,ea,en,ec,rfl,hv,he,c8⟩:=p8.vy (i:=n) oM;have t8:=hE P h5;have c9:=o4 b3 (QZ q0);refine⟨P,y,rfl,oM,oM,bl (es:=lZ b3 va vn vc ea en ec) (k:=15) (Rj _ _ _ _ _ _ _) rfl (λT ht=>by rw[Qx];exact h6 T ht) (PC.ok (zZ b.a b.ea c8 hv he c9 oM oM) ?_)⟩;rintro _ w9 ⟨F9,rfl,q4,B,h7⟩;have e7:=b.Aq q4 B;have e8:∀P,E P->¬U P:=λP a g=>by have:=hE P a;have:=v P (.inl g);omega
  have t9:∀P,E P->¬GG P:=λP a g=>by have:=hE P a;have:=v P (.inr g);omega
  refine⟨_,rfl,P,y,rfl,oM,oM,bl (es:=lZ b3 va vn vc ea en ec) (k:=15) (Rj _ _ _ _ _ _ _) rfl (λT ht=>by rw[Qx];exact(B.af.cell (a:=⟨P,_,none⟩) p9 (e8 P h5)).trans (h6 T ht)) (PC.ok (zZ e7.b e7.eb c8 (hv.af B.af e8) (he.af B.af e8) c9 oM oM) ?_)⟩;rintro _ v3 ⟨h8,rfl,i0,b4,-⟩;have i1:=e7.Ro i0 b4;have z8:=kE.size;have v4:i.heap.size<=w8.heap.size:=Xx o.size (Xx (s.then A).size (Xx (u.then J).size K.size));have q5:∀P,F9 P->i.heap.size<=P:=λP a=>(B.new P a).elim (λh=>v P (.inl h)) λh=>by omega
  have i2:∀P,h8 P->i.heap.size<=P:=λP a=>(b4.new P a).elim (λh=>v P (.inr h)) λh=>by have:=B.af.size;omega
  exact⟨_,rfl,_,oM,n+1,F9,h8,_,aq oM,oM,rfl,i1,(K.then (B.af.mono λP _ a=>v P (.inl a))).then (b4.af.mono λP _ a=>v P (.inr a)),λP a=>a.elim (q5 P) (i2 P),by rcases h7.evs with h|h<;>omega,by have:=h7.asked;omega⟩
 ·have v6:n=Q:=oM
  obtain⟨V,z,iw⟩:=PR (x:=x) b.a.ok b.a.cl.1 b.a.cl.2 b.a.len;generalize hr:bI c self f x=j at V z iw;refine PC.ok (sH b.a oM) ?_;rintro _ v8 ⟨q6,W,v9,q7,rfl,d0,X,i3⟩;have q8:=d0.aC;have d1:=b.ah X;refine⟨_,_,_,rfl,PC.ok (KL d1.a) ?_⟩;rintro _ x0 ⟨q9,i4,x1,r0,rfl,d2,Y,i5⟩;have r3:=d2.aC;have b5:=d1.ah Y;have d3:=Y.get (X.get p7 id) id;have i6:=Y.get (X.get p6 id) id;refine⟨_,_,_,rfl,ar (vX x) d3 (PC.ok (kC b5.a b5.ea hx oM) ?_)⟩;rintro _ e9 ⟨i7,b6,d4,L⟩;rw[hr]at b6 d4;have d5:=b5.Aq d4 L;have i8:=b.a.aC;have nF:∀P,P<i.heap.size->¬U P:=λP a g=>by have:=v P (.inl g);omega
  have i9:=L.af.get d3 (nF _ oM);have j0:=L.af.get i6 (nF _ oM);have j1:=(d0.ah Y).af L.af λP a g=>by have:=i3 P a;have:=i8 P g;omega
  have j2:=d2.af L.af λP a g=>by have:=i5 P a;have:=i8 P g;have:=X.size;omega
  have j3:=sw c self f x;rw[hr]at j3;have hY:j.2.2.S.l.length<=17000000:=by rcases j3.evs with h|h<;>omega
  obtain⟨M,hy⟩:∃M:px,(if j.1≠0 then kM j.1 else AF j.2.1)=M:=⟨_,rfl⟩
  rw[hy]at b6;have j4:M.code=j.1:=by
   rw[<-hy];split
   ·rfl
   ·rename_i h9;exact(Classical.not_not.1 h9).symm
  obtain⟨sa,sn,sc,xa,xn,xc,ra,rn,rc,-,rfl,-⟩:=b6;refine bE (zW M sa sn sc xa xn xc ra rn rc) ⟨rfl,PA.mk λx2 r4 x3 r5=>az (iM M sa sn sc xa xn xc ra rn rc) r5 rfl λr6 j5 x4 r7=>?_⟩;have Z:ai e9 r6:=r4.new j5 λP a=>.inr (by have a:P=e9.heap.size:=a;omega);have d6:=d5.ah Z;refine PC.ok (sH d6.a oM) ?_;rintro _ c4 ⟨j6,j7,x5,j8,rfl,d7,N,u0⟩;have b8:=d6.ah N;have j9:=N.get r7 id;have d8:=N.get (Z.get i9 id) id;have d9:=N.get (Z.get j0 id) id;have a3:Row fY 96 c4 q7 q6 W f.S.l:=((j1.ah Z).ah N).row dC ba;have a0:Row fY 96 c4 j8 j6 j7 j.2.2.S.l:=d7.row dC ba;have c7:Row aG 8 c4 r0 q9 i4 f.S.vec:=((j2.ah Z).ah N).row dC (by rw[au.bq];have:=b.a.cl.1.ok.n;unfold aI;omega);have a4:=a3.len;have e0:=a0.len;have k0:=c7.len;have n3:=d7.jB;have b9:=b8.ea.gr;refine⟨_,_,_,rfl,_,ae j9 rfl,an.df (λhc=>?_) (λhc=>?_)⟩
  ·have hS:=V (by rw[<-j4];exact hc)
   refine PC.ok (jP a0 a3) ?_;rintro _ c5 ⟨rfl,k⟩;refine⟨_,rfl,an.dec (λ_=>⟨_,_,_,_,_,_,ae (k.get d9 id) rfl,ae (k.get d9 id) rfl,?_⟩) (λh=>Zz (by rw[hS]) h)⟩;have e2:=b8.ah k;refine PC.ok (GB e2.a e2.b rfl (by rw[hS]) (hd.af ((ai.af b9).then (ai.af k)) λP a h=>h)) ?_;rintro _ r8 ⟨rfl,f2⟩;exact⟨_,rfl,an.tt rfl (CW l m ((b9.then k).then f2))⟩
  have f3:j.1=0:=by rw[<-j4];exact hc
  refine an.dJ (λr9=>?_) (λr9=>?_)
  ·obtain⟨s0,hS⟩:=z f3 oM
   refine⟨_,ae d8 rfl,an.df (λ_=>?_) (λh=>Zz h s0)⟩;refine PC.ok (jP a0 a3) ?_;rintro _ c5 ⟨rfl,k⟩;exact⟨_,rfl,an.dec (λ_=>CW l m (b9.then k)) (λh=>Zz (by rw[hS]) h)⟩
  obtain⟨e,f4,k8,s3,h1⟩:=iw f3 oM;obtain⟨x6,x7⟩:=b.a.ok.NS;obtain⟨x8,x9,y0⟩:=b.a.ok.bR;have y1:=b.a.cl.2;have y3:i4=f.S.n:=by rw[k0,au.bq]
  have c0:M.id=aR e:=by rw[<-hy,Zq (by rw[f3];simp),k8]
  intro c5 s4;have k:ai c4 c5:=s4.af;have k3:j7=W+1:=by rw[e0,f4,QX,a4];rfl
  refine an.dec (λh=>oM) (λ_=>an.df (λh=>Zz (by rw[wrap_i64 bb,k3];omega) h) (λ_=>⟨oM,oM,?_⟩));have s5:Row fY 96 c5 j8 j6 W f.S.l:=by
   have:=(a0.ah k).take (m:=W) oM;rw[f4,a4,List.take_left]at this;rw[a4];exact this
  rw[Qx];refine PC.ok (jP s5 (a3.ah k)) ?_;rintro _ r8 ⟨rfl,f2⟩;refine⟨_,rfl,an.not (an.dec (λ_=>?_) (λh=>Zz rfl h))⟩;have a1:=k.then f2;have c1:=a1.get j9 id;obtain⟨k4,o1,e1,y4,s6,-,-,f5,k9,q1,q2,q3,rfl,-,-⟩:=(a0.ah a1).vy (i:=W) oM;have s7:e1=e:=by
   rw[f4,a4,X8 (Q4 _)]at f5;simp at f5;exact f5.symm
  subst s7;refine⟨k4,o1,s6,oM,oM,_,_,k9 0 dC,k9 1 dC,_,_,ae c1 rfl,ae c1 rfl,_,λw'=>zU,an.mk (λh=>?_) (λ_=>?_)⟩
  ·rw[c0]at h;simp[aR]at h
  obtain⟨y,ho⟩:∃y:Nat,self=y:=⟨self.toNat,oM⟩
  obtain⟨k5,o2,e3,s8,hz,-,s9⟩:=(c7.ah a1).ko (i:=y) oM;have t0:e3=(f.S.sK y:Int):=by
   rw[au.jt _ oM]at hz;exact(XJ hz).symm
  have y5:=f.S.El y;refine⟨_,_,ae c1 rfl,ae c1 rfl,k5,o2,s8,oM,oM,e3,by rw[ho,Qx];exact s9,_,λw'=>zU,an.mk (λh=>?_) (λ_=>?_)⟩
  ·rw[c0,s3,t0,ho,Qx,wrap_i64 bb]at h;simp at h
  have a5:=b8.ah a1;have e4:=a1.get d8 id;refine ar (vX x) e4 (PC.ok (kC a5.a a5.ea hx oM) ?_);rintro _ l0 ⟨y6,f0,l3,b7⟩;have l4:=a5.Aq l3 b7;have t1:=a5.a.aC;have l5:∀P,i7 P->i.heap.size<=P:=λP a=>(L.new P a).elim (λh=>v P (.inl h)) λh=>by have:=kE.size;have:=X.size;have:=Y.size;have:=K.size;have:=o.size;have:=(s.then A).size;have:=(u.then J).size;omega
  have l6:=b7.af.get e4 (λg=>by have:=l5 _ g;omega);have l7:¬i7 e9.heap.size:=λg=>by have:=d5.a.aC _ g;omega
  have t2:=b7.af.get c1 l7;obtain⟨y2,f7⟩:∃y2:px,(if(bI c self j.2.2 x).1≠0 then kM (bI c self j.2.2 x).1 else AF (bI c self j.2.2 x).2.1)=y2:=⟨_,rfl⟩
  rw[f7]at f0;obtain⟨l8,l9,m0,m1,m2,m3,m4,m5,m6,-,rfl,-⟩:=f0;refine bE (zW y2 l8 l9 m0 m1 m2 m3 m4 m5 m6) ⟨rfl,PA.mk λy7 t3 y8 t4=>az (iM y2 l8 l9 m0 m1 m2 m3 m4 m5 m6) t4 rfl λt5 m7 y9 g0=>?_⟩;have g3:ai l0 t5:=t3.new m7 λP a=>.inr (by have a:P=l0.heap.size:=a;omega);have a6:=l4.ah g3;have m8:=g3.get l6 id;have f1:=g3.get t2 id;refine⟨_,ae m8 rfl,an.df (λm9=>?_) (λ_=>CW l m a6.ea.gr)⟩;have t6:=h1 m9;rw[t6]at f7 a6;have n0:y2=AF (aR e1):=by rw[<-f7];rfl
  subst n0;refine⟨_,ae g0 rfl,an.df (λh=>Zz rfl h) (λ_=>⟨_,_,ae g0 rfl,ae g0 rfl,_,_,ae f1 rfl,ae f1 rfl,aE.mk zU ⟨_,rfl,an.mk (λh=>?_) (λ_=>?_)⟩⟩)⟩
  ·rw[c0]at h;simp at h
  refine PC.ok (sH a6.a (by show j.2.2.S.l.length<=_;omega)) ?_;rintro _ z0 ⟨z2,z3,z5,z7,rfl,n1,t7,u1⟩;have n2:=n1.len dC;refine⟨_,_,_,rfl,an.df (λh=>Zz (by rw[n2,e0]) h) (λ_=>CW l m (a6.ea.gr.then t7))⟩

import Derived.Test.YtblabbpipmodgaaGreatDoorKn18
import Derived.Test.YtblabbpipmodgaaGreatDoorYnQue
import Derived.Test.YtblabbpipmodgaaGreatDoorKn21
set_option maxHeartbeats 4000000
set_option linter.all false
set_option maxRecDepth 20000
namespace Go.Proofs.YtblabbpipmodgaaGreatDoor
open Go.aw
def qL(c:cI)(d:Int)(e:cI)(g i j:Int):Nat->bP->bP->List di->Option (bP×bP)
 |0,P,a,h=>if h=[]then some (P,a)else none
 |f+1,P,a,[]=>some (P,a)
 |f+1,P,a,b::h=>
  if b.nP=j then
   (if(bE e g a b).2.1≠0 then none else qL c d e g i j f P (bE e g a b).2.2 (h++(bE e g a b).1))
  else if b.nP≠i then none else
   (if(bE c d P b).2.1≠0 then none else qL c d e g i j f (bE c d P b).2.2 a (h++(bE c d P b).1))
abbrev km(P:DG):List Value:=cM P.m P.va P.vn P.vc P.ea P.en P.ec
def eO(a:World)(d:XN)(e:Nat)(b:ZH)(f g:Nat)(h:List di):Prop:=
 ∃(c:List DG) (D:XN),HZ a 60 5 b f g (c.flatMap km)/\c.map (·.m)=h/\(∀P∈c,P.In a D)/\(∀P,D P->P<a.heap.size/\aE b≠some P/\¬d P/\e<=P)/\∀P,aE b=some P->¬d P/\e<=P
def Js{a:World}{D:XN}:∀{P:List DG} {cs:List Value},bA OT a D P cs->cs=P.flatMap km
 |[],_,c=>by cases c;rfl
 |b::P,_,⟨g,h,d,⟨e,_⟩,f⟩=>by rw[d,e,Js f];rfl
def QP:∀(b:List DG),∀P∈b.flatMap km,P.oneCell'=true:=λb P a=>by
 obtain⟨c,-,a⟩:=List.mem_flatMap.1 a;exact OT.one (D:=λ_=>False) (w:=default) ⟨rfl,trivial⟩ P a
def QR(P:List DG):(P.flatMap km).length=P.length*5:=by
 induction P with
 |nil=>rfl
 |cons b P a=>rw[List.flatMap_cons,QX,a,Xq];show 5+_=_;omega
variable{f:XN}{d0:bP}
section
variable {w w' w0 w1 w2:World} {p q:Nat} {F G Z:XN} {cA cB:cI} {sA sB i k:Int} {A B:bP} {a:ZH} {n c:Nat} {ms:List di} {v:Value}
def eP.vI(h:eP w Z ms v w'){Y:XN}(f:∀P,Y P->Z P\/P<w.heap.size):∃a n c,v= .slice a n c/\eO w' Y w.heap.size a n c ms:=by
 obtain⟨a,n,c,i,D,rfl,j,k,l,d,g⟩:=h;obtain⟨cs,p,m,o,q⟩:=j.body;have:=Js o;subst this;refine⟨a,n,c,rfl,i,D,m.TV,k,l,λP b=>⟨(d P b).2.1,(d P b).2.2.1,λe=>?_,(d P b).1⟩,λP b=>⟨λe=>?_,(g P b).1⟩⟩
 ·have:=d P b
  exact(f P e).elim this.2.2.2 oM
 ·have:=g P b
  exact(f P e).elim this.2 oM
def eO.len{P:Nat}(b:eO w Z P a n c ms):n=ms.length:=by
 obtain⟨f,D,d,e,-⟩:=b;have:=d.len;rw[QR]at this;rw[<-e,Q8];omega
def eO.lt{b:Nat}(d:eO w Z b a n c ms):∀P,aE a=some P->P<w.heap.size:=by
 obtain⟨f,D,e,-⟩:=d;exact e.lt
def eO.af{h:Nat}(k:eO w Z h a n c ms)(d:ak f w w')(i:∀P,f P->Z P):eO w' Z h a n c ms:=by
 obtain⟨l,D,m,o,p,e,j⟩:=k;exact⟨l,D,m.af d λP b g=>(j P b).1 (i P g),o,λP b=>(p P b).af d λP b g=>(e P b).2.2.1 (i P g),λP b=>⟨Qk (e P b).1 d.size,(e P b).2⟩,j⟩
def eO.less{g h:Nat}(m:eO w Z g a n c ms)(i:∀P,f P->Z P\/w.heap.size<=P)(j:h<=g):eO w f h a n c ms:=by
 obtain⟨o,D,k,p,q,d,l⟩:=m;exact⟨o,D,k,p,q,λP b=>⟨(d P b).1,(d P b).2.1,λe=>(i P e).elim (d P b).2.2.1 (by have:=(d P b).1;omega),Xx j (d P b).2.2.2⟩,λP b=>⟨λe=>(i P e).elim (l P b).1 (by have:=k.lt P b;omega),Xx j (l P b).2⟩⟩
def eO.pop{m:Nat}{f:di}(o:eO w Z m a n c (f::ms)):∃g h p q u r s v D,a=some ⟨g,h,none⟩/\(∀d,d<5->w.cell? ⟨g,h+d,none⟩=(cM f p q u r s v)[d]?)/\Row aJ 8 w D p q f.vec/\Row gO 96 w D r s f.events/\(∀b,D b->b<w.heap.size/\¬Z b)/\eO w Z m (bY a 1 c 5) (n-1) (c-1) ms:=by
 have x:=o.len;obtain⟨e,D,i,y,j,l,z⟩:=o;rw[Xq]at x
 match e,i,y,j with
 |b::e,i,k,j=>
  simp only[QY,List.cons.injEq]at k;obtain⟨rfl,k⟩:=k;obtain⟨g,h,rfl,A⟩:=i.cell oM;have t:=j b (QV ..);refine⟨g,h,b.va,b.vn,b.vc,b.ea,b.en,b.ec,D,rfl,λd B=>?_,t.1,t.2,λb P=>⟨(l b P).1,(l b P).2.2.1⟩,e,D,?_,k,λC E=>j C (QJ _ E),λb P=>by rw[Fk];exact l b P,λb P=>by rw[Fk]at P;exact z b P⟩
  ·rw[A d oM,List.flatMap_cons,XW (show d<5 from B)]
  ·have:=i.tail oM
   rw[List.flatMap_cons,show(km b++e.flatMap km).drop 5=e.flatMap km from List.drop_left' rfl]at this;exact this
def eO.app{q L:TypeId}{r g:Nat}(z:eO w Z r a n c ms)(M:il XP q 60 5 72){s:ZH}{e t:Nat}{u:List di}(A:eO w Z g s e t u)(B:∀b,aE a=some b->b<g)(a4:r<=g)(a5:g<=w.heap.size)(hl:ms.length+u.length<=100000)(N:∀b,Z b->b<w.heap.size){C O:XR}(v:∀h i w',eO w' Z r h (n+e) i (ms++u)->ak (λj=>aE a=some j) w w'->C (.slice h (n+e) i) w'):
  aD XP (Builtin.append_ #[q,q] L #[.slice a n c,.slice s e t]) w C O:=by
 have hn:=z.len;have hm:=A.len;obtain⟨Q,D,R,S,T,E,F⟩:=z;obtain⟨x,U,k,V,W,I,r5⟩:=A;have X:s=none->e=0/\t=0:=λd=>by
  rcases k.body with⟨_,Y,h3⟩|⟨a0,a1,a2,f,_⟩
  ·exact⟨Y,h3⟩
  ·rw[d]at f;cases f
 refine R.app M (news:=x.flatMap km) k.len X (λp hp j a6 J=>?_) (QP x) ba (by unfold maxLen;omega) λh i w' y l m=>?_
 ·subst hp
  have a3:j<e*5:=by
   rw[<-k.len];exact(Qv.1 J).1
  obtain⟨a0,a1,f,hc⟩:=k.cell oM
  cases f
  rw[Addr.add_lit];exact(hc j a3).trans J
 ·rw[<-List.flatMap_append]at y
  have a7:=l.size;have a8:=y.lt;refine v h i w' ⟨Q++x,λb=>D b\/U b,y,by rw[Q3,S,V],λb P=>?_,λb P=>?_,λb P=>⟨λK=>?_,?_⟩⟩ l
  ·rcases Q6.1 P with P|P
   ·exact((T b P).af l λb P=>(E b P).2.1).mono λb P=>.inl P
   ·exact((W b P).af l λb P f=>by have:=B b f;have:=(I b P).2.2.2;omega).mono λb P=>.inr P
  ·rcases P with P|P
   ·have o:=E b P
    refine⟨oM,λd=>?_,o.2.2.1,oM⟩;rcases m with H|H
    ·rw[H]at d;exact o.2.1 d
    ·rw[H]at d;cases d;omega
   ·have o:=I b P
    refine⟨oM,λd=>?_,o.2.2.1,oM⟩;rcases m with H|H
    ·rw[H]at d;have:=B b d;omega
    ·rw[H]at d;cases d;omega
  ·rcases m with H|H
   ·rw[H]at P;exact(F b P).1 K
   ·rw[H]at P;cases P;have:=N _ K;omega
  ·rcases m with H|H
   ·rw[H]at P;exact(F b P).2
   ·rw[H]at P;cases P;omega
structure fZ (w0 w:World) (p q:Nat) (F G:XN) (cA:cI) (sA:Int) (cB:cI) (sB:Int) (A B:bP):Prop where
 a:bU w p F cA sA A
 b:bU w q G cB sB B
 ea:Env w0 w F
 eb:Env w0 w G
 apart:∀b,F b->¬G b
def fZ.ah(P:fZ w0 w p q F G cA sA cB sB A B)(a:ai w w'):fZ w0 w' p q F G cA sA cB sB A B:=⟨P.a.ah a,P.b.ah a,P.ea.ah a,P.eb.ah a,P.apart⟩
def fZ.af(a:fZ w0 w p q F G cA sA cB sB A B)(c:ak f w w')(d:∀P,F P\/G P->¬f P)(e:∀P,f P->w0.heap.size<=P):fZ w0 w' p q F G cA sA cB sB A B:=
 ⟨a.a.af c λP b=>d P (.inl b),a.b.af c λP b=>d P (.inr b),⟨a.ea.oX,a.ea.laid,a.ea.gr.new c λP b=>.inr (e P b),a.ea.aC⟩,⟨a.eb.oX,a.eb.laid,a.eb.gr.new c λP b=>.inr (e P b),a.eb.aC⟩,a.apart⟩
def fZ.Fl(P:fZ w0 w p q F G cA sA cB sB A B)(g:bU w' p f cA sA d0)(c:du F w f w'):fZ w0 w' p q f G cA sA cB sB d0 B:=
 ⟨g,P.b.af c.af λa b d=>P.apart a d b,P.ea.GD c,⟨P.eb.oX,P.eb.laid,P.ea.gr.new c.af λa b=>.inr (P.ea.aC a b),P.eb.aC⟩,λa b e=>(c.new a b).elim (λd=>P.apart a d e) λh=>by have:=P.b.aC a e;omega⟩
def fZ.swap(P:fZ w0 w p q F G cA sA cB sB A B):fZ w0 w q p G F cB sB cA sA B A:=⟨P.b,P.a,P.eb,P.ea,λa b c=>P.apart a c b⟩
def fZ.PU(P:fZ w0 w p q F G cA sA cB sB A B)(a:bU w' q f cB sB d0)(b:du G w f w'):fZ w0 w' p q F f cA sA cB sB A d0:=(P.swap.Fl a b).swap
abbrev jT(F G:XN):XN:=λP=>F P\/G P
end
def Uf:il XP 56 60 5 72:=⟨kR,kR,dC⟩
def H_(a:ar)(P:Int)(b:di)(c:Int):(ko a P b c).length<=2:=by
 unfold ko;split
 ·simp
 dsimp only;split<;>split<;>simp[List.isEmpty]
def vJ(a:cI)(P:Int)(b:bP)(c:di):(bE a P b c).1.length<=2:=by
 unfold bE;split
 ·simp
 dsimp only;split
 ·simp
 split
 ·simp
 split
 ·unfold jG
  dsimp only;split
  ·simp
  split<;>simp
 split
 ·exact H_ _ _ _ _
 split<;>simp
section
variable {w w' w0 w1 w2:World} {p q:Nat} {F G Z:XN} {cA cB:cI} {sA sB i k:Int} {A B:bP}
def Ia(a:fZ w0 w p q F G cA sA cB sB A B)(hk:aP k){most:Nat}(g0:most<=1000)(hA:A.S.l.length<=17000000)(hB:B.S.l.length<=17000000)(h1:(gG cA sA A k 0).1.length=1){H I:bP}(hm:qL cA sA cB sB i k most (gG cA sA A k 0).2 B (gG cA sA A k 0).1=some (H,I)):
  ZG 31 #[XL p,XL q,XH i,XH k,XH (most:Int)] w (Ok λJ w'=>J= .bool true/\∃O Q,fZ w0 w' p q O Q cA sA cB sB H I/\du (jT F G) w (jT O Q) w'):=by
 refine Cp (PC.ok (Dd a.a hk) ?_);rintro _ w7 ⟨F7,T,d7,b6⟩;have d8:=a.Fl d7 b6;have c8:=a.a.aC;have b8:=a.b.aC;obtain⟨g1,n7,g2,rfl,U⟩:=T.vI (Y:=jT F7 G) λP a=>a.imp id λh=>b8 P h;have g3:=U.len;have d9:=Ib cA sA A k 0;refine⟨_,_,_,rfl,an.dR (λe0=>Zz oM e0) (λ_=>?_)⟩;refine⟨λb7 fa V o b1 w'=>∃(c:Nat) (e f:XN) (j l:bP) (d:List di),b1=c/\c<=most/\b7=most-c/\fZ w0 w' p q e f cA sA cB sB j l/\du (jT F G) w (jT e f) w'/\eO w' (jT e f) w.heap.size fa V o d/\d.length<=1+2*c/\
   qL cA sA cB sB i k (most-c) j l d=some (H,I)/\j.S.l.length<=17000300+300*c/\l.S.l.length<=17000300+300*c,
  ⟨_,0,F7,G,_,B,_,rfl,Qj _,rfl,d8,b6.left,U.less (λP a=>.inl a) (Q4 _),oM,hm,by rcases d9.evs with h|h<;>omega,oM⟩,?_⟩
 rintro b7 fa V o _ _ b9 ⟨c,e,f,j,l,d,rfl,hj,rfl,W,a4,X,b2,b,g4,g5⟩;have K:=X.len;have c8:=W.a.aC;have b8:=W.b.aC;have z:∀{w':World} {e f:XN} {Y:Nat} {d:List di} {j l:bP},fZ w0 w' p q e f cA sA cB sB j l->du (jT F G) w (jT e f) w'->Y=d.length->d=[]->some (j,l)=some (H,I)->
   Ok (λJ w'=>J= .bool true/\∃O Q,fZ w0 w' p q O Q cA sA cB sB H I/\du (jT F G) w (jT O Q) w') (.returned (.bool ((Y:Int)==0))) w':=λa e1 hn c0 Z=>by
  cases Z
  subst c0;subst hn;exact Ok.mk ⟨rfl,_,_,a,e1⟩
 refine an.dec (λc9=>?_) (λg6=>?_)
 rotate_left
 ·have:most-c=0:=oM
  rw[this]at b;unfold qL at b;split at b
  ·rename_i c0;exact z W a4 K c0 b
  ·cases b
 obtain⟨a5,r⟩:∃a5,most-c=a5+1:=⟨most-c-1,oM⟩
 rw[r]at b
 match d,X,K,b2,b with
 |[],X,K,b2,b=>exact an.dec (λh0=>by simp at K;omega) (λ_=>z W a4 K rfl b)
 |x::d,X,K,b2,b=>
  rw[Xq]at K b2;refine an.dec (λ_=>?_) (λh0=>oM);obtain⟨a0,a1,va,vn,vc,ea,en,ec,D,rfl,hc,hv,Z,hD,e2⟩:=X.pop;refine⟨a0,a1,rfl,oM,oM,bq (es:=cM x va vn vc ea en ec) (k:=5) (lI _ _ _ _ _ _ _) rfl (λb1 ht=>hc b1 ht) (PA.mk λg7 e3 g8 e4=>aA (lI x va vn vc ea en ec) e4 rfl λL e5 g9 c1=>⟨oM,oM,?_⟩)⟩;have R:ai b9 L:=e3.new e5 λP a=>.inr (by have a:P=b9.heap.size:=a;omega);have h6:=R.size;have m:=W.ah R;have a7:eO L (jT e f) w.heap.size (bY (some ⟨a0,a1,none⟩) 1 o 5) (V-1) (o-1) d:=e2.af R λP a=>a.elim;have c2:du (jT F G) w (jT e f) L:=⟨a4.af.ah R,a4.new⟩
  have e6:=a.ea.gr.size;have a2:∀{n:World} {C E:XN} {a6 a8:bP} {ms:List di} {J:Value},fZ w0 n p q C E cA sA cB sB a6 a8->du (jT e f) L (jT C E) n->(∃s t u,J= .slice s t u/\eO n (jT C E) L.heap.size s t u ms)->ms.length<=2->
    qL cA sA cB sB i k a5 a6 a8 (d++ms)=some (H,I)->a6.S.l.length<=17000300+300*(c+1)->a8.S.l.length<=17000300+300*(c+1)->n.heap[b9.heap.size]? =some (.cells (cM x va vn vc ea en ec).toArray 60 (0,0))/\∃s t u,J= .slice s t u/\
    ∀ε:XR,aD XP (Builtin.append_ #[56,56] 56 #[.slice (bY (some ⟨a0,a1,none⟩) (Int.toNat 1) o 5) (V-Int.toNat 1) (o-Int.toNat 1),.slice s t u]) n (λe7 b3=>∃(c7:ZH) (Y d0:Nat),e7= .slice c7 Y d0/\∃d1,d1<most-c/\
     ∃(M:Nat) (e f:XN) (j l:bP) (d:List di),IntKind.wrap .i64 ((c:Int)+1)=M/\M<=most/\d1=most-M/\fZ w0 b3 p q e f cA sA cB sB j l/\du (jT F G) w (jT e f) b3/\eO b3 (jT e f) w.heap.size c7 Y d0 d/\d.length<=1+2*M/\
      qL cA sA cB sB i k (most-M) j l d=some (H,I)/\j.S.l.length<=17000300+300*M/\l.S.l.length<=17000300+300*M) ε:=λ{n C E a6 a8 ms J} c3 v e8 h7 e9 f0 f1=>by
   refine⟨v.af.get c1 λh=>h.elim (λh=>by have:=c8 _ h;omega) λh=>by have:=b8 _ h;omega,?_⟩;obtain⟨s,t,u,rfl,f2⟩:=e8;refine⟨s,t,u,rfl,λε=>?_⟩;have d2:eO n (jT C E) w.heap.size (bY (some ⟨a0,a1,none⟩) 1 o 5) (V-1) (o-1) d:=by
    obtain⟨f3,D,h1,h2,h3,h4,h5⟩:=a7.af v.af λP a=>a;have c9:=a7.lt;obtain⟨L',D',f4,f5,f6,S,c4⟩:=a7;refine⟨L',D',f4.af v.af λP a=>(c4 P a).1,f5,λP a=>(f6 P a).af v.af λP a=>(S P a).2.2.1,λP a=>⟨Qk (S P a).1 v.af.size,(S P a).2.1,λhz=>(v.new P hz).elim (S P a).2.2.1 (by have:=(S P a).1;omega),(S P a).2.2.2⟩,λP a=>⟨λhz=>(v.new P hz).elim (c4 P a).1 (by have:=c9 P a;omega),(c4 P a).2⟩⟩
   have f7:∀P,jT C E P->P<n.heap.size:=λP a=>a.elim (c3.a.aC P) (c3.b.aC P);refine eO.app d2 Uf f2 (λP a=>a7.lt P a) c2.af.size v.af.size oM f7 λa' c' b3 f8 d3=>?_;have b4:∀P,aE (bY (some ⟨a0,a1,none⟩) 1 o 5)=some P->¬jT C E P/\w.heap.size<=P:=λP a=>by
    obtain⟨f3,D,h1,h2,h3,h4,h5⟩:=d2;exact h5 P a
   have f9:=c3.af d3 (λP a Z=>(b4 P Z).1 a) λP a=>by have:=(b4 P a).2;have:=e6;omega
   refine⟨_,_,_,rfl,_,oM,c+1,C,E,a6,a8,d++ms,aq oM,oM,rfl,f9,?_,f8,by rw[QX];omega,by rw[show most-(c+1)=a5 by omega];exact e9,f0,f1⟩;have h9:=c2.trans v;exact⟨h9.af.new d3 λP a=>.inr (b4 P a).2,h9.new⟩
  refine⟨λd4 w'=>d4=(if x.nP=k then XM q else XM p)/\L=w',⟨x.nP,ae c1 rfl,an.eB (λh=>⟨by rw[Zx h],rfl⟩) (λh=>⟨by rw[Zq h],rfl⟩)⟩,?_⟩;rintro d4 _ _ ⟨rfl,rfl⟩;refine au (lI x va vn vc ea en ec) c1 ?_;have d5:=hv.ah R;have d6:=Z.ah R;have a9:∀P,D P->P<L.heap.size:=λP a=>by have:=(hD P a).1;omega
  unfold qL at b
  by_cases b0:x.nP=k
  ·rw[Zx b0]
   rw[Zx b0]at b;split at b
   ·cases b
   rename_i N;have N:(bE cB sB l x).2.1=0:=Classical.not_not.1 N;refine PC.ok (oZ m.b m.eb d5 (λP a=>⟨a9 P a,λr=>(hD P a).2 (.inr r)⟩) d6 (λP a=>⟨a9 P a,λr=>(hD P a).2 (.inr r)⟩) oM) ?_;rintro _ n ⟨v1,Q,rfl,T,b5,a3⟩;have c5:=qM cB sB l x m.b.waits m.b.ok.Ic.2;rw[N];obtain⟨y,s,t,u,rfl,g⟩:=a2 (m.PU b5 a3) a3.right (T.vI λP a=>a.elim (λh=>.inr (by have:=m.a.aC P h;omega)) .inl) (vJ ..) b oM (by rcases c5.evs with h|h<;>omega);refine⟨_,_,_,_,rfl,an.dR (λh=>Zz rfl h) (λ_=>⟨_,ae y rfl,an.dR (λh=>⟨_,ae y rfl,an.dR (λh2=>Zz b0 h2) (λ_=>g _)⟩) (λ_=>g _)⟩)⟩
  ·rw[Zq b0]
   rw[Zq b0]at b;split at b
   ·cases b
   rename_i c6;have c6:x.nP=i:=Classical.not_not.1 c6;split at b
   ·cases b
   rename_i N;have N:(bE cA sA j x).2.1=0:=Classical.not_not.1 N;refine PC.ok (oZ m.a m.ea d5 (λP a=>⟨a9 P a,λr=>(hD P a).2 (.inl r)⟩) d6 (λP a=>⟨a9 P a,λr=>(hD P a).2 (.inl r)⟩) oM) ?_;rintro _ n ⟨v1,O,rfl,T,b5,a3⟩;have c5:=qM cA sA j x m.a.waits m.a.ok.Ic.2;rw[N];obtain⟨y,s,t,u,rfl,g⟩:=a2 (m.Fl b5 a3) a3.left (T.vI λP a=>a.elim .inl (λh=>.inr (by have:=m.b.aC P h;omega))) (vJ ..) b (by rcases c5.evs with h|h<;>omega) oM;refine⟨_,_,_,_,rfl,an.dR (λh=>Zz rfl h) (λ_=>⟨_,ae y rfl,an.dR (λh=>Zz c6 h) (λ_=>g _)⟩)⟩
end
variable{n:Array Value}{v:ByteArray}{e o:Int}{t:List Int}{a2 e6:List PanicEntry->XU}{a c:Nat}{a6:XN}{H:Nat×Nat}{d r:ZH}{j:Type}{g:TypeId}{m:XR}{b:World}{B:aH}{l:aj}{A:ar}{W:cD}{d8:cI}
def ar.Cl.step(a:A.Cl){k:Nat}(b:k<A.l.length):ar.add ⟨A.n,A.l.take k⟩ A.l[k]=(0,⟨A.n,A.l.take (k+1)⟩):=by
 have c:=(a.take (k:=k) oM).1;have g:=(a.take (k:=k+1) oM).1;rw[Qw,Qq b,Option.toList_some,ar.lk,c]at g;rcases ar.fQ ⟨A.n,A.l.take k⟩ A.l[k]with⟨-,P⟩|⟨P,-⟩
 ·rw[P]at g
  have:=Zj (λd:ar=>d.l.length) g;simp at this;omega
 ·rw[P]at g
  simp only at g;rw[P,g,Qw,Qq b,Option.toList_some]
def Nc(P:A.Cl)(b:A.n=d8.bM.toNat)(d:a+c<=A.l.length):dL d8 ⟨A.n,A.l.take a⟩ ((A.l.drop a).take c)=⟨A.n,A.l.take (a+c)⟩:=by
 rw[<-(P.take d).1];unfold dL;rw[<-b];dsimp only;rw[List.take_add]
def Jw{a:Type}{b:a->Int}:∀{P:List a},(∀x∈P,b x=0)->bW b P=0
 |[],_=>rfl
 |x::P,c=>by
  unfold bW
  rw[c x (QV ..),Jw λd e=>c d (QJ _ e)];rfl
def lT:aH:=⟨[[⟨1,1,true,[]⟩,⟨2,3,false,[]⟩,⟨3,2,false,[]⟩,⟨4,2,false,[⟨0,1,0,2⟩,⟨1,0,-1,0⟩,⟨0,2,-1,0⟩]⟩,⟨2,2,false,[]⟩,⟨1,1,false,[]⟩]],[⟨0,0,1,0,2⟩,⟨0,2,2,0,1⟩,⟨0,5,3,4,4⟩]⟩
def bz(P:Int):cI:=⟨P,131072,400,3,20,5,4,0,lT⟩
def NJ:Bool:=
 (bK (bz 2) 0).1==0&&((bK (bz 2) 1).1==0&&((bR (bz 2) 0 (bK (bz 2) 0).2 ⟨0,0,0,1,3,-1,0⟩).1==0&&((bR (bz 2) 0 (bK (bz 2) 0).2 ⟨0,0,0,1,3,-1,0⟩).2.1==((0:Int),(1:Int))&&((AF lT (bK (bz 2) 1).2.S.l 0 0).code==14&&((gG (bz 2) 1 (bK (bz 2) 1).2 0 0).1.length==1&&
  (match qL (bz 2) 1 (bz 2) 0 1 0 100 (gG (bz 2) 1 (bK (bz 2) 1).2 0 0).2 (bR (bz 2) 0 (bK (bz 2) 0).2 ⟨0,0,0,1,3,-1,0⟩).2.2 (gG (bz 2) 1 (bK (bz 2) 1).2 0 0).1 with
  |none=>false
  |some (P,a)=>(AF lT P.S.l 0 0).code==0&&((AF lT P.S.l 0 0).st.cells.length==6&&(((AF lT P.S.l 0 0).st.cells.getD 0 ⟨0,[]⟩).n==3&&((AF lT P.S.l 0 0).st.version==1&&P.S.vec==[1,0])))))))))
def IM:NJ=true:=by decide+kernel
def Row.xk{c:jf j}{bytes P:Nat}{D:XN}(e:b.heap[P]? =some (.cells n g H)){xs:List j}(l:bA c b D xs n.toList)(q:0<c.k)(a:xs.length*bytes<=aN):Row c bytes b (λd=>d=P\/D d) (XM P) xs.length xs:=
 ⟨rfl,a,λr s m=>by
  obtain⟨f,o,h⟩:=l.at m;have t:=c.len h;refine⟨P,0,f,rfl,ay e,.inl rfl,λi p=>?_,c.mono h λd a=>.inr a⟩;have k:=o i p;rw[Qq (show i<f.length by omega)]at k⊢;rw[Xz];exact ae e (by simpa using k)⟩
def i10(P:(decide (-1000000<=e)&&decide (e<=1000000))=true):aP e:=by
 simp only[QK,Zk]at P;unfold aP;omega
section
variable {w w' w0:World}
def IN:ZG 26 #[] w (Ok λu w'=>∃n tn v o p x G,u= .agg #[.slice n tn v,.slice o p x]/\aW w' G lT n tn o p/\(∀P,G P->w.heap.size<=P/\P<w'.heap.size)/\ai w w'):=by
 refine Cr (PA.mk λc y V z=>PA.mk λe A W B=>PA.mk λg q X C=>PA.mk λh l Y E=>PA.mk λr i Z F=>?_);have s:=((A.then q).then l).then i;refine PS.mk (s.get z id) sM λw6 H s6 I=>PS.mk I sM λd J s7 t=>⟨_,_,_,_,_,_,ae t rfl,ae t rfl,?_⟩
 have f:ak (λP=>P=w.heap.size) r d:=H.then J;have K:=f.get (i.get (l.get (q.get B id) id) id) (λa=>by have a:c.heap.size=w.heap.size:=a;omega);have L:=f.get (i.get (l.get C id) id) (λa=>by have a:e.heap.size=w.heap.size:=a;omega);have M:=f.get (i.get E id) (λa=>by have a:g.heap.size=w.heap.size:=a;omega);have N:=f.get F (λa=>by have a:h.heap.size=w.heap.size:=a;omega);have O:Row fm 32 d (λP=>P=c.heap.size\/False) (XM c.heap.size) 3 [⟨0,1,0,2⟩,⟨1,0,-1,0⟩,⟨0,2,-1,0⟩]:=
  Row.xk (c:=fm) (xs:=[⟨0,1,0,2⟩,⟨1,0,-1,0⟩,⟨0,2,-1,0⟩]) (D:=λ_=>False) K ⟨_,_,rfl,⟨rfl,i10 rfl,i10 rfl,i10 rfl,i10 rfl⟩,_,_,rfl,⟨rfl,i10 rfl,i10 rfl,i10 rfl,i10 rfl⟩,_,_,rfl,⟨rfl,i10 rfl,i10 rfl,i10 rfl,i10 rfl⟩,rfl⟩ dC dC
 have Q:Row nq 48 d (λP=>P=e.heap.size\/P=c.heap.size\/False) (XM e.heap.size) 6 [⟨1,1,true,[]⟩,⟨2,3,false,[]⟩,⟨3,2,false,[]⟩,⟨4,2,false,[⟨0,1,0,2⟩,⟨1,0,-1,0⟩,⟨0,2,-1,0⟩]⟩,⟨2,2,false,[]⟩,⟨1,1,false,[]⟩]:=by
  have no:∀(j k:Int) (m:Bool),aP j->aP k->nq.rep d (λP=>P=c.heap.size\/False) ⟨j,k,m,[]⟩ [XH j,XH k,.bool m,.slice none 0 0]:=λj k m R S=>⟨none,0,0,rfl,dO _ _,R,S⟩
  exact Row.xk (c:=nq) (xs:=[⟨1,1,true,[]⟩,⟨2,3,false,[]⟩,⟨3,2,false,[]⟩,⟨4,2,false,[⟨0,1,0,2⟩,⟨1,0,-1,0⟩,⟨0,2,-1,0⟩]⟩,⟨2,2,false,[]⟩,⟨1,1,false,[]⟩]) (D:=λP=>P=c.heap.size\/False) L ⟨_,_,rfl,no 1 1 true (i10 rfl) (i10 rfl),_,_,rfl,no 2 3 false (i10 rfl) (i10 rfl),_,_,rfl,no 3 2 false (i10 rfl) (i10 rfl),_,_,rfl,⟨_,_,_,rfl,O,i10 rfl,i10 rfl⟩,_,_,rfl,no 2 2 false (i10 rfl) (i10 rfl),_,_,rfl,no 1 1 false (i10 rfl) (i10 rfl),rfl⟩ dC dC
 have T:Row tg 40 d (λP=>P=g.heap.size\/False) (XM g.heap.size) 3 lT.projs:=
  Row.xk (c:=tg) (xs:=[⟨0,0,1,0,2⟩,⟨0,2,2,0,1⟩,⟨0,5,3,4,4⟩]) (D:=λ_=>False) M ⟨_,_,rfl,⟨rfl,i10 rfl,i10 rfl,i10 rfl,i10 rfl,i10 rfl⟩,_,_,rfl,⟨rfl,i10 rfl,i10 rfl,i10 rfl,i10 rfl,i10 rfl⟩,_,_,rfl,⟨rfl,i10 rfl,i10 rfl,i10 rfl,i10 rfl,i10 rfl⟩,rfl⟩ dC dC
 have U:Row jk 24 d (λP=>P=h.heap.size\/P=e.heap.size\/P=c.heap.size\/False) (XM h.heap.size) 1 lT.types:=
  Row.xk (c:=jk) (xs:=[[⟨1,1,true,[]⟩,⟨2,3,false,[]⟩,⟨3,2,false,[]⟩,⟨4,2,false,[⟨0,1,0,2⟩,⟨1,0,-1,0⟩,⟨0,2,-1,0⟩]⟩,⟨2,2,false,[]⟩,⟨1,1,false,[]⟩]]) (D:=λP=>P=e.heap.size\/P=c.heap.size\/False) N ⟨_,_,rfl,⟨_,_,_,rfl,Q⟩,rfl⟩ dC dC
 refine Ok.mk ⟨_,_,_,_,_,_,λP=>(P=h.heap.size\/P=e.heap.size\/P=c.heap.size\/False)\/P=g.heap.size\/False,rfl,⟨U.mono λP b=>.inl b,T.mono λP b=>.inr b⟩,λP b=>?_,?_⟩
 ·have z7:d.heap.size=r.heap.size:=oM
  rcases b with(rfl|rfl|rfl|b)|rfl|b<;>first|omega|exact b.elim
 ·exact(y.then s).new f λP b=>.inr (by have b:P=w.heap.size:=b;omega)
def py:ZG 8 #[XH e] w (Ok λl w'=>∃a tn f b c g G,l=oK (bz e) a tn f b c g/\aW w' G lT a tn b c/\(∀P,G P->w.heap.size<=P/\P<w'.heap.size)/\ai w w'):=by
 refine Ab (PA.mk λq m r n=>PC.ok IN ?_);rintro _ s ⟨a,tn,f,b,c,g,G,rfl,o,h,i⟩;refine⟨_,_,_,_,_,_,rfl,aA (oL (bz e) a tn f b c g) (i.get n id) rfl λt j u p=>au (oL (bz e) a tn f b c g) p (Ok.mk ⟨a,tn,f,b,c,g,G,rfl,o.af j λP d k=>by have k:P=w.heap.size:=k;have:=h P d;omega,λP d=>by have:=h P d;omega,(m.then i).new j λP d=>.inr (by have d:P=w.heap.size:=d;omega)⟩)⟩
def SB(P:ir):OC (fp XP 49) (qY P)=true:=kR
def Lr{P arg:Int}:ZG 29 #[XH P,XH arg] w (Ok λb w'=>b=qY ⟨0,P,0,1,arg,-1,0⟩/\ai w w'):=
 Ej (PA.mk λh c i d=>aA (AZ ⟨0,P,0,1,arg,-1,0⟩) d rfl λj e k f=>au (AZ ⟨0,P,0,1,arg,-1,0⟩) f (Ok.mk ⟨rfl,c.new e λg a=>.inr (by have a:g=w.heap.size:=a;omega)⟩))
def fZ.made{g G:XN}{j k:cI}{l m:bP}(n:eh w0)(p:Laid w0)(f:ai w0 w)(q:bU b a g j e l)(s:∀P,g P->w.heap.size<=P)(h:ai w b)(i:ai b w')(d:bU w' c G k o m)(r:∀P,G P->b.heap.size<=P):fZ w0 w' a c g G j e k o l m:=
 ⟨q.ah i,d,⟨n,p,f.then (h.then i),λP d=>by have:=s P d;have:=f.size;omega⟩,⟨n,p,f.then (h.then i),λP d=>by have:=r P d;have:=f.size;have:=h.size;omega⟩,λP t u=>by have:=q.aC P t;have:=r P u;omega⟩
def GC:∃(f P g a d:bP) (h b:rL),bK (bz 2) 0=(0,f)/\bK (bz 2) 1=(0,P)/\bR (bz 2) 0 f ⟨0,0,0,1,3,-1,0⟩=(0,(0,1),g)/\AF lT P.S.l 0 0=h/\h.code=14/\(gG (bz 2) 1 P 0 0).1.length=1/\
  qL (bz 2) 1 (bz 2) 0 1 0 100 (gG (bz 2) 1 P 0 0).2 g (gG (bz 2) 1 P 0 0).1=some (a,d)/\AF lT a.S.l 0 0=b/\b.code=0/\b.st.cells.length=6/\(b.st.cells.getD 0 ⟨0,[]⟩).n=3/\b.st.version=1/\a.S.vec=[1,0]:=by
 have e:=IM;unfold NJ at e;simp only[QK,beq_iff_eq]at e;obtain⟨i,j,k,l,m,n,c⟩:=e;split at c
 ·cases c
 ·rename_i a d o
  simp only[QK,beq_iff_eq]at c;obtain⟨p,q,r,s,t⟩:=c;exact⟨_,_,_,a,d,_,_,Prod.ext i rfl,Prod.ext j rfl,Prod.ext k (Prod.ext l rfl),rfl,m,n,o,rfl,p,q,r,s,t⟩
def F_(j:eh w0)(k:Laid w0)(l:ai w0 w):ZG 10 #[] w (Ok λa3 w'=>a3= .bool true/\ai w w'):=by
 obtain⟨F,XB,i3,YB,YA,i4,H,e1,e2,e3,e4,e5,e6,e7,e8,e9,i5,d8,d9,e0⟩:=GC;have I:(bz 2).decl=lT:=rfl;refine z_ (PC.ok py ?_);rintro _ w2 ⟨ta,tn,tc,pa,pn,pc,G2,rfl,f2,f4,m⟩;refine bN (Jf (bz 2) ta tn tc pa pn pc) ⟨rfl,PC.ok (Dj (c:=bz 2) j k (l.then m) f2 (λa P=>(f4 a P).2) (i10 rfl) (i10 rfl) (i10 rfl)) ?_⟩;rintro v5 w5 b;unfold Ir at b;rw[e1]at b;obtain⟨k5,⟨n,-⟩|⟨-,a4,a5,rfl,J,o,f5⟩⟩:=b
 ·exact Zz rfl n
 dsimp only at J f5;have d:=m.then k5;refine⟨_,_,rfl,PC.ok py ?_⟩;rintro _ w9 ⟨tb,tm,td,pb,pm,pd,G9,rfl,f6,f7,e⟩;refine bN (Jf (bz 2) tb tm td pb pm pd) ⟨rfl,PC.ok (Dj (c:=bz 2) j k ((l.then d).then e) f6 (λa P=>(f7 a P).2) (i10 rfl) (i10 rfl) (i10 rfl)) ?_⟩;rintro i6 g0 b;unfold Ir at b;rw[e2]at b;obtain⟨K,⟨n,-⟩|⟨-,a6,G,rfl,L,M,g1⟩⟩:=b
 ·exact Zz rfl n
 dsimp only at L g1;have z5:=d.size;have z9:=e.size;have z2:=m.size;generalize i7:bz 2=p at*;have g2:fZ w0 g0 a4 a6 a5 G p 0 p 1 F XB:=fZ.made (w:=w) j k l J (λa P=>by have:=o a P;omega) d (e.then K) L λa P=>by have:=M a P;omega
 have N:=(d.then e).then K;refine⟨_,_,rfl,an.dR (λh=>Zz rfl h) (λ_=>an.dR (λh=>Zz rfl h) (λ_=>gW Tryz.underlying33 ⟨_,rfl,an.ff rfl (gW Tryz.underlying33 ⟨_,rfl,an.ff rfl (PC.ok Lr ?_)⟩)⟩))⟩;rintro _ i8 ⟨rfl,q⟩;have r:=g2.ah q;have g3:ir.Ok ⟨0,0,0,1,3,-1,0⟩:=⟨i10 rfl,i10 rfl,i10 rfl,i10 rfl,i10 rfl,i10 rfl⟩
 refine bN (SB _) ⟨rfl,PC.ok (vP r.a r.ea g3 oM) ?_⟩;have s:=Iw p 0 F ⟨0,0,0,1,3,-1,0⟩;rintro _ t ⟨i9,f,u,v⟩;rw[e3]at s f u;dsimp only at s f u;have a7:=r.Fl u v;rw[Zq sM]at f;obtain⟨O,Q,R,S,T,U,V,W,X,-,rfl,-⟩:=f;refine bN (Bm _ O Q R S T U V W X) ⟨rfl,PA.mk λj0 g4 j1 g5=>aA (jL _ O Q R S T U V W X) g5 rfl λg6 b2 j2 g7=>?_⟩;have Y:ai t g6:=g4.new b2 λa P=>.inr (by have P:a=t.heap.size:=P;omega);have Z:=a7.ah Y;refine PC.ok (wZ Z.b) ?_;rintro _ b4 ⟨a0,x⟩;rw[I,e4]at a0;obtain⟨b5,b6,b7,b8,b9,c0,c1,c3,c4,-,rfl,-⟩:=a0;refine bN (Bm _ b5 b6 b7 b8 b9 c0 c1 c3 c4) ⟨rfl,PA.mk λj3 g8 j4 g9=>aA (jL _ b5 b6 b7 b8 b9 c0 c1 c3 c4) g9 rfl λc5 y j5 h2=>?_⟩;have z:ai b4 c5:=g8.new y λa P=>.inr (by have P:a=b4.heap.size:=P;omega);have A:=z.get (x.get g7 id) id;refine⟨_,ae A rfl,an.dR (λh=>Zz rfl h) (λ_=>⟨_,_,ae A rfl,ae A rfl,aD.mk MA ⟨_,rfl,an.ff rfl ⟨_,ae h2 rfl,an.dR (λh=>Zz e5 h) (λ_=>?_)⟩⟩⟩)⟩;have a8:=(Z.ah x).ah z;refine PC.ok (Ia (most:=100) a8.swap (i10 rfl) dC oM (by rcases s.evs with h|h<;>omega) e6 e7) ?_;rintro _ j6 ⟨rfl,j7,j8,a1,a9⟩;refine⟨_,rfl,an.not (an.tt rfl (PC.ok (wZ a1.a) ?_))⟩;rintro _ B ⟨a2,c6⟩;rw[I,e8]at a2;have c:ai w B:=by
  have h3:ai w t:=(N.then q).new v.af λa P=>.inr (by have:=o a P;omega);have y:ai w c5:=((h3.then Y).then x).then z;refine(y.new a9.af λa P=>.inr ?_).then c6;rcases P with P|P
  ·have:=M a P;omega
  ·rcases v.new a P with h|h
   ·have:=o a h;omega
   ·have:=N.size;have:=q.size;omega
 obtain⟨c7,c8,c9,d0,d1,d2,d3,d4,d5,G3,rfl,g,-⟩:=a2;refine bN (Bm H c7 c8 c9 d0 d1 d2 d3 d4 d5) ⟨rfl,PA.mk λj9 h4 k0 h5=>aA (jL H c7 c8 c9 d0 d1 d2 d3 d4 d5) h5 rfl λh6 d6 k1 i=>?_⟩;have C:ai B h6:=h4.new d6 λa P=>.inr (by have P:a=B.heap.size:=P;omega);have g:=g.ah C;have k3:=g.len;obtain⟨a,b0,k4,k6,k7,rfl,k8,-,h7,-⟩:=k_ (i:=0) g oM;refine⟨_,ae i rfl,an.eB (λ_=>⟨_,_,_,ae i rfl,an.eB (λ_=>⟨_,_,_,ae i rfl,a,b0,rfl,oM,oM,_,h7,an.eB (λ_=>⟨_,ae i rfl,an.eB (λ_=>?_) (λh=>Zz d9 h)⟩) (λh=>Zz d8 h)⟩) (λh=>Zz oM h)⟩) (λh=>Zz e9 h)⟩;refine PC.ok (O_ ((a1.a.ah c6).ah C)) ?_;rintro _ l0 ⟨l3,l4,l5,l6,rfl,E,h8,i1⟩;rw[e0]at E;have i2:=E.len dC;refine⟨_,_,_,rfl,PA.mk λl7 d7 l8 h9=>PC.ok (kM (xs:=[1,0]) (ys:=[1,0]) ((E.ah d7).row dC dC) (Row.lit h9 [1,0] rfl (λb1 hx=>by simp at hx;rcases hx with rfl|rfl<;>exact i10 rfl) dC)) ?_⟩;rintro _ l9 ⟨rfl,i0⟩;exact⟨_,rfl,Ok.mk ⟨sM,(((c.then C).then h8).then d7).then i0.af⟩⟩
end
def JE{P:Type}[DecidableEq P]:∀{l m:List P},l.Nodup->(∀x∈l,x∈m)->l.length<=m.length
 |[],m,_,_=>Qj _
 |x::l,m,g,a=>by
  have b:=a x (QV ..);have c:=List.nodup_cons.1 g;have h:=JE (l:=l) (m:=m.erase x) c.2 λd f=>(List.mem_erase_of_ne λe:d=x=>c.1 (e▸f)).2 (a d (QJ _ f));have i:=List.length_erase_of_mem b;have j:=List.length_pos_of_mem b;rw[Xq];omega
section
variable {w w' w0:World} {p q:Nat} {F G D E:XN} {c e:cI} {self other:Int} {X Y:bP}
def bU.cl(P:bU w p F c self X):X.S.Cl/\X.S.n=c.bM.toNat:=by
 obtain⟨d,e,a,b⟩:=P;exact(b.at' 3).2
def FZ(c:eh w0)(d:Laid w0)(a:ai w0 w):PC XP 10 #[] w (λP e=>∃b:Bool,P= .bool b/\Ok (λP w'=>P= .bool true/\ai w0 w') (.returned (.bool b)) e) a2:=by
 refine PC.ok (F_ c d a) ?_;rintro _ w' ⟨rfl,f⟩;exact⟨_,rfl,Ok.mk ⟨rfl,a.then f⟩⟩
def IB{tn h e i:Nat}(j:eh w0)(k:Laid w0)(l:ai w0 w)(n:aW w D c.decl d tn r e)(o:aP c.dq)(q:aP c.every)(s:aP c.start)(t:∀u w',ai w w'->(bK c self).1≠0->m (.tuple #[.pointer u,XH (bK c self).1]) w')(v:∀p F w',(bK c self).1=0->ai w w'->bU w' p F c self (bK c self).2->(∀P,F P->w.heap.size<=P)->(bK c self).2.S.l.length<=16777216->m (.tuple #[XL p,XH 0]) w'):
  PC XP 12 #[oK c d tn h r e i] w (λx w'=>zZ (fp XP 29) λf=>x=f/\PC XP 11 #[f,XH self] w' m a2) e6:=by
 refine PC.ok (CP n) ?_;rintro _ O ⟨y,z,A,B,C,E,Q,rfl,H,I,a⟩;refine bN (Jf c y z A B C E) ⟨rfl,PC.ok (Dj j k (l.then a) H (λP b=>(I P b).2) o q s) ?_⟩;rintro R S ⟨g,⟨J,rfl⟩|⟨K,p,F,rfl,L,M,N⟩⟩
 ·exact t _ _ (a.then g) J
 ·exact v p F _ K (a.then g) L (λP b=>by have:=M P b;have:=a.size;omega) N
def Pb{a P:Int}(b:P≠0)(c d:Operand):(do eqGuard .rem 3 c d (XH a) (XH P);binOp .rem 3 (XH a) (XH P):Sem Value).run XP w= .ok (XH (a.tmod P)) w:=by
 simp[eqGuard,binOp,Op.intDiv,b]
end
section
variable {S:ar} {D:al} {d:cI} {Y:bP} {k m j n:Nat} {T:XN}
def Gx(P:cG D){b:List UInt8}(a:az D.files v=some W)(c:b.length+D.used<=D.most):D.append v b=(0,D.ef v {W with bytes:=W.bytes++b}):=by
 unfold al.append;rw[P.on a,Zq];unfold al.room;omega
def Gy(a:az D.files v=some W)(P:cD):(D.ef v P).used+W.bytes.length=D.used+P.bytes.length:=by
 have:=oz (l:=D.files) (k:=v) (f:=P);rw[a]at this;simp only[Option.map_some,Option.getD_some]at this;show eJ (aG D.files v P)+_=eJ D.files+_;omega
structure Rj (S:ar) (m:Nat) (Y:bP):Prop where
 set:Y.S=⟨S.n,S.l.take m⟩
 log:∃V,Y.log=some V/\i_ Y.D [] 1 (S.l.take m) m/\SG V [] 1 (S.l.take m)/\cG Y.D/\V.size=65536/\Y.D.most=262144/\Y.D.used<=1000+675*m
def Rj.take(f:S.Cl)(A:S.n=d.bM.toNat)(T:S.l.length<=20)(B:Rj S m Y)(U:1<=j)(p:m+j<=S.l.length):
  ∃h,cK d Y ((S.l.drop m).take j)=(0,h)/\Rj S (m+j) h/\h.waits=Y.waits:=by
 obtain⟨C,P,E,q,e,r,s,F,V⟩:=B;have g:∀a∈S.l,a.Ok/\a.aK.length<=64:=λa b=>⟨f.ok.ok a b,by
  obtain⟨-,-,-,-,-,-,H,-⟩:=gZ (f.ok.Pw a b);rw[H];exact f.ok.n⟩
 have i:((S.l.drop m).take j).length=j:=by rw[Qy,XZ];omega
 have k:S.l.take m++(S.l.drop m).take j=S.l.take (m+j):=(List.take_add ..).symm;have W:(bk ((S.l.drop m).take j)).length<=675*j:=by
  have:=Gl (l:=(S.l.drop m).take j) λa b=>g a (List.mem_of_mem_drop (List.mem_of_mem_take b))
  rwa [i]at this
 have X:(bk (S.l.take m)).length<=675*m:=by
  have:=Gl (l:=S.l.take m) λa b=>g a (List.mem_of_mem_take b)
  rwa [Qy,X2 oM]at this
 have I:(S.l.drop m).take j≠[]:=λa=>by rw[a]at i;simp at i;omega
 have J:((S.l.drop m).take j).any mL=false:=by
  rw[List.any_eq_false];intro a b;have:=(g a (List.mem_of_mem_drop (List.mem_of_mem_take b))).2;unfold mL;simp;omega
 obtain⟨c,t,K,Z⟩:=q.last;have L:=Gx r (b:=bk ((S.l.drop m).take j)) t oM;have M:=Gy t {bytes:=bk (S.l.take m)++bk ((S.l.drop m).take j),synced:=c,Au:=true};have u:i_ (D:=Y.D.ef (aF 1) ⟨bk (S.l.take m)++bk ((S.l.drop m).take j),c,true⟩) [] 1 (S.l.take (m+j)) m:=q.put (l':=S.l.take (m+j)) (s:=c) (by rw[<-k,mU];rfl) (by rw[Qy];omega)
  (by rw[List.take_take,X2 oM];rwa [Qz (by rw[Qy];omega)]at K) (by rw[<-k,mU];simp;omega) λa b=>g a (List.mem_of_mem_take b)
 have v:cG (Y.D.ef (aF 1) ⟨bk (S.l.take m)++bk ((S.l.drop m).take j),c,true⟩):=r.same rfl rfl;have N:bd P Y.D ((S.l.drop m).take j)=(0,⟨P.size,P.bD,P.bytes+((bk ((S.l.drop m).take j)).length:Nat),P.next⟩,Y.D.ef (aF 1) ⟨bk (S.l.take m)++bk ((S.l.drop m).take j),c,true⟩):=by
  unfold bd;rw[Zq (by rw[J];simp),Zq I];dsimp only;rw[Zq (show¬P.size<=P.bytes by rw[s,e.bytes];omega)];dsimp only;rw[Zq sM,i_.MV e,L];dsimp only;rw[Zq sM,wrap_i64 (by rw[e.bytes];unfold aP;omega)]
 have w:SG (⟨P.size,P.bD,P.bytes+((bk ((S.l.drop m).take j)).length:Nat),P.next⟩:dS) [] 1 (S.l.take (m+j)):=⟨e.bD,by show P.bytes+_=_;rw[e.bytes,<-k,mU];simp,e.next⟩
 obtain⟨x,y⟩:=v.sync (aF 1);obtain⟨s',l,-,-⟩:=u.last;have y:=y _ l;have z:=Gy l (iw (bk (S.l.take (m+j))));have n:(Y.D.ef (aF 1) ⟨bk (S.l.take m)++bk ((S.l.drop m).take j),c,true⟩).sync (aF 1)=(0,(Y.D.ef (aF 1) ⟨bk (S.l.take m)++bk ((S.l.drop m).take j),c,true⟩).ef (aF 1) (iw (bk (S.l.take (m+j))))):=by
  unfold al.sync;rw[v.on l,Ey]
 have O:=Nc f A p;refine⟨{Y with log:=some ⟨P.size,P.bD,P.bytes+((bk ((S.l.drop m).take j)).length:Nat),P.next⟩,D:=(Y.D.ef (aF 1) ⟨bk (S.l.take m)++bk ((S.l.drop m).take j),c,true⟩).ef (aF 1) (iw (bk (S.l.take (m+j)))),S:=⟨S.n,S.l.take (m+j)⟩},?_,?_⟩
 ·unfold cK
  rw[E];dsimp only;rw[N];dsimp only;rw[Zq sM,show dS.last ⟨P.size,P.bD,P.bytes+((bk ((S.l.drop m).take j)).length:Nat),P.next⟩=aF 1 from i_.MV w,n];dsimp only;rw[Zq sM,C,O]
 refine⟨⟨rfl,_,rfl,?_,w,?_,s,F,?_⟩,rfl⟩
 ·have:=KI u
  rw[n]at this;rcases this with o|o
  ·have Q:=o.2;rwa [Qy,X2 p]at Q
  ·exact Zz rfl o.1
 ·rw[n]at x;exact x
 ·dsimp only
  have R:(iw (bk (S.l.take (m+j)))).bytes.length=(bk (S.l.take (m+j))).length:=rfl;rw[R]at z;simp only[QX]at M;dsimp only at z;omega
def zq(S:ar):Prop:=∀(a:Nat) (P:aj),S.l[a]? =some P->P.origin=0/\P.seq=(a:Int)+1
def zq.inj(b:zq S){a j:Nat}{P:aj}(c:S.l[a]? =some P)(d:S.l[j]? =some P):a=j:=by
 have:=(b a P c).2;have:=(b j P d).2;omega
def NI(c:S.Cl)(p:0<S.n)(a:zq S)(g:m<=S.l.length)(b:S.l[k]? =some l):
  (k=m->ar.add ⟨S.n,S.l.take m⟩ l=(0,⟨S.n,S.l.take (m+1)⟩))/\(k<m->ar.add ⟨S.n,S.l.take m⟩ l=(16,⟨S.n,S.l.take m⟩))/\(m<k->ar.add ⟨S.n,S.l.take m⟩ l=(9,⟨S.n,S.l.take m⟩)):=by
 obtain⟨h,i⟩:=Qv.1 b;have q:l∈S.l:=i▸XY h;have j:=c.ok.Pw l q;have r:=(c.take g).2;refine⟨λs=>?_,λn=>?_,λn=>?_⟩
 ·subst s;rw[<-i];exact c.step h
 ·have:l∈S.l.take m:=QZ (i:=k) (by rw[Xw,Zx n];exact b)
  rw[ar.add_def,Zq (by dsimp only;rw[j];simp),Zx (by rw[r.ok.get this];rfl)]
 ·have t:ar.get ⟨S.n,S.l.take m⟩ (aI l)=none:=by
   cases d:ar.get ⟨S.n,S.l.take m⟩ (aI l)with
   |none=>rfl
   |some e=>
    obtain⟨u,o⟩:=ar.get_some d;obtain⟨f,P⟩:=List.mem_iff_getElem?.1 u;rw[Xw]at P;split at P
    ·have y:=(a f e P).2;have z:=(a k l b).2
     unfold aI at o;simp only[Prod.mk.injEq]at o;omega
    ·cases P
  have v:ar.pU ⟨S.n,S.l.take m⟩ 0=m:=by
   unfold ar.pU;rw[List.countP_eq_length.2,Qy,X2 g];intro e d;obtain⟨f,P⟩:=List.mem_iff_getElem?.1 (List.mem_of_mem_take d);simp[(a f e P).1]
  obtain⟨w,x⟩:=a k l b;rw[ar.add_def,Zq (by dsimp only;rw[j];simp),Zq (by rw[t];simp),Zx];rw[w,x];show(k:Int)+1≠(ar.vec ⟨S.n,S.l.take m⟩).getD 0 0+1;rw[ar.gi (⟨S.n,S.l.take m⟩:ar) p,v];omega
def Sx(k:S.Cl)(l:0<S.n)(e:zq S)(n:m<=S.l.length):∀(a:List aj),(∀x∈a,∃b:Nat,S.l[b]? =some x)->
  (cV ⟨S.n,S.l.take m⟩ a=none/\∀x∈a,S.l[m]? ≠some x)\/∃P c d,S.l[m]? =some P/\a=c++P::d/\cV ⟨S.n,S.l.take m⟩ a=some (P,⟨S.n,S.l.take (m+1)⟩,c++d)
 |[],_=>.inl ⟨rfl,sM⟩
 |x::o,p=>by
  obtain⟨b,f⟩:=p x (QV ..);obtain⟨s,t,u⟩:=NI k l e n f
  by_cases g:b=m
  ·refine .inr ⟨x,[],o,g▸f,rfl,?_⟩
   unfold cV;rw[s g,Zx rfl];rfl
  have q:(ar.add ⟨S.n,S.l.take m⟩ x).1≠0:=by
   rcases Nat.lt_or_ge b m with r|r
   ·rw[t r];simp
   ·rw[u oM];simp
  rcases Sx k l e n o λh B=>p h (QJ _ B)with⟨i,j⟩|⟨P,c,d,i,j,v⟩
  ·refine .inl ⟨by unfold cV;rw[Zq q,i];rfl,λh B=>?_⟩
   rcases Q2.1 B with rfl|B
   ·exact λP=>g (e.inj f P)
   ·exact j h B
  ·exact .inr ⟨P,x::c,d,i,by rw[j];rfl,by unfold cV;rw[Zq q,v];rfl⟩
def Sy(h:S.Cl)(n:0<S.n)(o:zq S):∀(f m:Nat) (b c:List aj),m<=S.l.length->b.length<f->(∀P∈b,∃d:Nat,S.l[d]? =some P)->
  ∃j e,dh f ⟨S.n,S.l.take m⟩ b c=(c++(S.l.drop m).take j,e)/\m+j<=S.l.length/\e.length+j=b.length/\(∀P∈e,P∈b/\S.l[m+j]? ≠some P)/\∀P∈b,P∈e\/∃d,d<m+j/\S.l[d]? =some P
 |0,m,b,c,_,i,_=>(Nat.not_lt_zero _ i).elim
 |f+1,m,b,c,p,i,q=>by
  unfold dh;rcases Sx h n o p b q with⟨k,g⟩|⟨w,r,s,k,g,x⟩
  ·rw[k]
   exact⟨0,b,sM,p,rfl,λP a=>⟨a,g P a⟩,λP a=>.inl a⟩
  ·rw[x]
   obtain⟨y,z⟩:=Qv.1 k;have t:∀P∈r++s,P∈b:=λP a=>by rw[g];simp at a⊢;rcases a with h|h<;>simp[h]
   obtain⟨j,e,A,E,B,u,v⟩:=Sy h n o f (m+1) (r++s) (c++[w]) oM (by rw[g]at i;simp at i⊢;omega) λP a=>q P (t P a);refine⟨j+1,e,?_,oM,by rw[g];simp at B⊢;omega,λP a=>⟨t P (u P a).1,by rw[show m+(j+1)=m+1+j by omega];exact(u P a).2⟩,λP a=>?_⟩
   ·dsimp only
    rw[A,X4 y,Zw,z];simp
   ·rw[g]at a
    rcases Q6.1 a with a|a
    ·exact(v P (ZV _ a)).imp id λ⟨d,C,l⟩=>⟨d,oM,l⟩
    ·rcases Q2.1 a with rfl|a
     ·exact .inr ⟨m,oM,k⟩
     ·exact(v P (ZW _ a)).imp id λ⟨d,C,l⟩=>⟨d,oM,l⟩
def Gz(b:S.Cl):∀(j m:Nat) (P:List aj),m+j<=S.l.length->dB ((S.l.drop m).take j) ⟨S.n,S.l.take m⟩ P=(⟨S.n,S.l.take (m+j)⟩,P++(S.l.drop m).take j)
 |0,m,P,_=>by simp[dB]
 |j+1,m,P,c=>by
  have a:m<S.l.length:=oM
  rw[X4 a,Zw];unfold dB;rw[b.step a,Zx rfl];dsimp only;rw[Gz b j (m+1) _ oM,XQ,show m+1+j=m+(j+1) by omega]
  rfl
def Sz(o:S.Cl)(t:0<S.n)(p:zq S)(c:Nat):∀(f m:Nat) (b:List aj),c<=m->m<=S.l.length->b.length<f->(∀P∈b,∃a:Nat,S.l[a]? =some P)->
  ∃i h,pq f ⟨S.n,S.l.take m⟩ ((S.l.drop c).take (m-c)) b=((S.l.drop c).take (i-c),h)/\m<=i/\i<=S.l.length/\h.length<=b.length/\(∀P∈h,∃a,i<a/\S.l[a]? =some P)/\∀P∈b,P∈h\/∃a,a<i/\S.l[a]? =some P
 |0,m,b,_,_,u,_=>(Nat.not_lt_zero _ u).elim
 |f+1,m,b,V,s,u,q=>by
  have W:(b.filter λe=>(ar.get ⟨S.n,S.l.take m⟩ (aI e)).isNone).length<=b.length:=List.length_filter_le ..;obtain⟨j,h,B,v,X,w,x⟩:=Sy o t p ((b.filter λe=>(ar.get ⟨S.n,S.l.take m⟩ (aI e)).isNone).length+1) m (b.filter λe=>(ar.get ⟨S.n,S.l.take m⟩ (aI e)).isNone) [] s oM λP d=>q P (List.mem_filter.1 d).1;have C:bl ⟨S.n,S.l.take m⟩ b=((S.l.drop m).take j,h):=by
   show dh _ _ _ _=_;rw[B];rfl
  have y:∀P∈b,P∉(b.filter λe=>(ar.get ⟨S.n,S.l.take m⟩ (aI e)).isNone)->∃a,a<m/\S.l[a]? =some P:=λP d k=>by
   obtain⟨a,g⟩:=q P d;refine⟨a,Classical.byContradiction λY=>k (List.mem_filter.2 ⟨d,?_⟩),g⟩
   cases E:ar.get ⟨S.n,S.l.take m⟩ (aI P)with
   |none=>rfl
   |some F=>
    obtain⟨H,z⟩:=ar.get_some E;obtain⟨I,r⟩:=List.mem_iff_getElem?.1 H;rw[Xw]at r;split at r
    ·have Z:=(p I F r).2;have g4:=(p a P g).2
     unfold aI at z;simp only[Prod.mk.injEq]at z;omega
    ·cases r
  have J:∀P∈(b.filter λe=>(ar.get ⟨S.n,S.l.take m⟩ (aI e)).isNone),∀a,S.l[a]? =some P->m<=a:=λP d a g=>Classical.byContradiction λa2=>by
   have:=(o.take s).2.ok.get (e:=P) (QZ (i:=a) (by show(S.l.take m)[a]? =some P;rw[Xw,Zx oM];exact g));have l:=(List.mem_filter.1 d).2;rw[this]at l;simp at l
  unfold pq;rw[C];dsimp only
  by_cases K:j=0
  ·subst K
   rw[Zx sM];refine⟨m,h,rfl,Q4 _,s,oM,λP d=>?_,λP d=>?_⟩
   ·obtain⟨A,L⟩:=w P d
    obtain⟨a,g⟩:=q P (List.mem_filter.1 A).1;have:=J P A a g;refine⟨a,?_,g⟩;rcases Nat.lt_or_ge m a with n|n
    ·exact n
    ·rw[show a=m+0 by omega]at g;exact Zz g L
   ·by_cases k:P∈(b.filter λe=>(ar.get ⟨S.n,S.l.take m⟩ (aI e)).isNone)
    ·exact x P k
    ·exact .inr (y P d k)
  ·have M:(S.l.drop m).take j≠[]:=λe=>by
    have:=Zj List.length e;rw[Qy,XZ]at this;simp at this;omega
   rw[Zq M,Gz o j m _ v];dsimp only;have N:(S.l.drop c).take (m-c)++(S.l.drop m).take j=(S.l.drop c).take (m+j-c):=by
    rw[show m+j-c=(m-c)+j by omega,List.take_add,List.drop_drop,show c+(m-c)=m by omega]
   rw[N];obtain⟨i,O,Q,f2,R,f4,T,U⟩:=Sz o t p c f (m+j) h oM v oM λP d=>q P (List.mem_filter.1 (w P d).1).1;refine⟨i,O,Q,oM,R,oM,T,λP d=>?_⟩
   by_cases k:P∈(b.filter λe=>(ar.get ⟨S.n,S.l.take m⟩ (aI e)).isNone)
   ·rcases x P k with n|⟨a,n,l⟩
    ·exact U P n
    ·exact .inr ⟨a,oM,l⟩
   ·obtain⟨a,n,l⟩:=y P d k
    exact .inr ⟨a,oM,l⟩
structure Wt (S:ar) (T:XN) (Y:bP):Prop where
 at':∃m,m<=S.l.length/\Rj S m Y/\(∀x∈Y.waits,∃i,m<i/\S.l[i]? =some x)/\∀i x,T i->S.l[i]? =some x->i<m\/x∈Y.waits
def Wt.all(b:zq S)(h:Wt S T Y)(c:∀P,P<S.l.length->T P):Y.S=S:=by
 obtain⟨m,i,d,e,f⟩:=h.at';have:m=S.l.length:=Classical.byContradiction λj=>by
  have a:S.l[m]? =some S.l[m]:=Qq oM;rcases f m _ (c m oM) a with h|h
  ·omega
  ·obtain⟨P,k,g⟩:=e _ h
   have:=b.inj a g;omega
 rw[d.set,this,Qz (Q4 _)]
def Wt.step(c:S.Cl)(w:S.n=d.bM.toNat)(Q:d.bM=2)(R:d.buffer=20)(b5:1<=d.chunk)(p:zq S)(U:S.l.length<=20)(V:Wt S T Y)(W:(Y.waits.map aI).Nodup)(i:S.l[k]? =some l):
  (bE d 1 Y ⟨3,0,1,[],[l]⟩).2.1=0/\Wt S (λa=>T a\/a=k) (bE d 1 Y ⟨3,0,1,[],[l]⟩).2.2:=by
 obtain⟨m,t,r,x,y⟩:=V.at';have X:=r;obtain⟨Z,a5,a0,-⟩:=X;have I:0<S.n:=oM
 obtain⟨J,K⟩:=Qv.1 i;have he:l∈S.l:=K▸XY J;have a9:dZ ⟨3,0,1,[],[l]⟩ d.bM.toNat d.chunk=0:=by
  unfold dZ;dsimp only;rw[Zx rfl,Zq]
  ·unfold dY
   dsimp only;rw[Zq sM,Zq bc];exact Jw λP b=>by rw[List.mem_singleton.1 b,<-w];exact c.ok.Pw l he
  ·simp[Q]
 have hd:bE d 1 Y ⟨3,0,1,[],[l]⟩=jG d 1 Y ⟨3,0,1,[],[l]⟩:=by
  unfold bE;rw[a0];dsimp only;rw[Zq (by rw[a9];simp),Zq sM,Zx rfl]
 have z:∃g f,gI d Y [l]=((S.l.drop m).take (g-m),f)/\m<=g/\g<=S.l.length/\(∀P∈f,∃a,g<a/\S.l[a]? =some P)/\∀a P,(T a\/a=k)->S.l[a]? =some P->a<g\/P∈f:=by
  have b0:dL d Y.S []=⟨S.n,S.l.take m⟩:=by rw[Z,tr (c.take t).2 w];rfl
  obtain⟨a1,a2,a3⟩:=NI c I p t i;have b6:Y.waits.length<20:=by
   have A:=JE (l:=Y.waits.map aI) (m:=(S.l.drop (m+1)).map aI) W λP b=>by
    obtain⟨a4,hy,rfl⟩:=Xk.1 b;obtain⟨a,j,h⟩:=x a4 hy;exact List.mem_map_of_mem (QZ (i:=a-(m+1)) (by rw[List.getElem?_drop,show m+1+(a-(m+1))=a by omega];exact h))
   rw[Q8,Q8,XZ]at A;omega
  have B:∀(n:Nat) (o:List aj),m<=n->n<=S.l.length->(∀P∈o,∃a:Nat,S.l[a]? =some P)->(∀a P,(T a\/a=k)->S.l[a]? =some P->a<n\/P∈o)->eH d.buffer.toNat [l] ⟨S.n,S.l.take m⟩ [] Y.waits=(⟨S.n,S.l.take n⟩,(S.l.drop m).take (n-m),o)->
    ∃g f,gI d Y [l]=((S.l.drop m).take (g-m),f)/\m<=g/\g<=S.l.length/\(∀P∈f,∃a,g<a/\S.l[a]? =some P)/\∀a P,(T a\/a=k)->S.l[a]? =some P->a<g\/P∈f:=λn o A h2 h3 h4 hc=>by
   obtain⟨g,f,j,h,s,-,g5,g6⟩:=Sz c I p m (o.length+1) n o A h2 oM h3;refine⟨g,f,?_,oM,s,g5,λa P e b=>?_⟩
   ·unfold gI
    rw[b0,hc];exact j
   ·rcases h4 a P e b with q|q
    ·exact .inl oM
    ·rcases g6 P q with q|⟨i2,q1,q2⟩
     ·exact .inr q
     ·exact .inl (by rw[p.inj b q2];exact q1)
  have C:∀P∈Y.waits,∃a:Nat,S.l[a]? =some P:=λP b=>(x P b).imp λa c=>c.2;rcases Nat.lt_trichotomy k m with L|M|b1
  ·refine B m Y.waits (Q4 _) t C (λa P e b=>?_) ?_
   ·rcases e with e|rfl
    ·exact y a P e b
    ·exact .inl L
   ·unfold eH eH
    rw[a2 L];simp
  ·refine B (m+1) Y.waits oM oM C (λa P e b=>?_) ?_
   ·rcases e with e|rfl
    ·exact(y a P e b).imp (λc=>oM) id
    ·exact .inl oM
   ·unfold eH eH
    rw[a1 M];subst M;rw[X4 J,K,show k+1-k=1 by omega];simp
  ·have b2:dy 20 Y.waits l=(false,Y.waits)/\l∈Y.waits\/dy 20 Y.waits l=(true,cZ l Y.waits):=by
    unfold dy
    by_cases E:Y.waits.any (λP=>aI P==aI l)=true
    ·rw[Zx (.inr E)]
     obtain⟨P,N,u⟩:=List.any_eq_true.1 E;obtain⟨a,j,h⟩:=x P N;have s:=(p a P h).2;have F:=(p k l i).2;have u:=eq_of_beq u;unfold aI at u;simp only[Prod.mk.injEq]at u;have:a=k:=oM
     subst this;rw[h]at i;exact .inl ⟨rfl,by rw[<-XJ i];exact N⟩
    ·rw[Zq (by simp only[not_or];exact⟨oM,E⟩)]
     exact .inr rfl
   have H:∀P,P∈(dy 20 Y.waits l).2↔P=l\/P∈Y.waits:=λP=>by
    rcases b2 with⟨j,h⟩|j
    ·rw[j];exact⟨.inr,λc=>c.elim (λc=>by rw[c];exact h) id⟩
    ·rw[j,(cO l Y.waits).mem_iff,Q2]
   refine B m (dy 20 Y.waits l).2 (Q4 _) t (λP b=>((H P).1 b).elim (λc=>⟨k,by rw[c];exact i⟩) (C P)) (λa P e b=>?_) ?_
   ·rcases e with e|rfl
    ·exact(y a P e b).imp id λc=>(H P).2 (.inr c)
    ·exact .inr ((H P).2 (.inl (by rw[b]at i;exact XJ i)))
   ·unfold eH eH
    rw[a3 b1,R];simp
 obtain⟨g,f,z,j,h,s,F⟩:=z;rw[hd];unfold jG;dsimp only;rw[z];dsimp only
 by_cases b3:g=m
 ·subst b3
  rw[Zx sM];exact⟨rfl,⟨g,h,⟨r.set,r.log⟩,s,F⟩⟩
 ·have b4:(S.l.drop m).take (g-m)≠[]:=λl=>by
   have:=Zj List.length l;rw[Qy,XZ]at this;simp at this;omega
  obtain⟨Y',t1,O,v⟩:=Rj.take c w U (Y:={Y with waits:=f}) ⟨r.set,r.log⟩ (j:=g-m) oM oM;rw[Zq b4,t1,Zq sM];rw[show m+(g-m)=g by omega]at O;have v:Y'.waits=f:=v;exact⟨rfl,⟨g,h,O,by rw[v];exact s,by rw[v];exact F⟩⟩
end
def cN(P:aH):cI:={bz 2 with decl:=P,u_:=262144,dq:=65536}
def La:(br (et 262144) 65536).no=0/\(br (et 262144) 65536).D.most=262144/\(br (et 262144) 65536).D.used<=1000:=by decide+kernel
def gK(P:e=0\/e=1):bK (cN B) e=if cy B≠0 then(cy B,(ze (cN B)).2)else ze (cN B):=by
 have a:gH (cN B) e=true:=by rcases P with rfl|rfl<;>rfl
 unfold bK;rw[Zq (show¬gH (cN B) e=false by rw[a];simp)]
 rfl
def Gb(c:cy B=0){S:ar}(d:S.n=2):Rj S 0 (bK (cN B) 1).2/\(bK (cN B) 1).2.waits=[]:=by
 obtain⟨a,e,k⟩:=La;rw[gK (.inr rfl),Zq (by rw[c];simp)];have f:ze (cN B)=(0,⟨⟨2,[]⟩,(br (et 262144) 65536).D,some (br (et 262144) 65536).V,[],⟨5,[],[]⟩⟩):=by
  rcases Fj 262144 65536 with P|⟨P,b,-⟩
  ·rw[a]at P;omega
  ·unfold ze jK
   show(if(br (et (Int.toNat 262144)) 65536).no≠0 then _ else _)=_;rw[show Int.toNat 262144=262144 from rfl,Zq (by rw[P];simp)];show((0:Int),bP.mk ((⟨2,[]⟩:ar).eV (br (et 262144) 65536).out) _ _ _ _)=_;rw[b];rfl
 rw[f];rcases Fj 262144 65536 with P|⟨P,b,g,h,i,l,j,m⟩
 ·rw[a]at P;omega
 ·exact⟨⟨by rw[d];simp,_,rfl,g,h,j,i,e,oM⟩,rfl⟩
section
variable {w w' w0:World} {p q:Nat} {F G D E:XN} {c e:cI} {self other:Int} {X Y:bP}
def bU.nodup(b:bU w p F c self X):(X.waits.map aI).Nodup:=by
 obtain⟨g,d,P,e⟩:=b;obtain⟨h,D,f,-,-⟩:=(show Kw w (λa=>F a/\P a=5) d.wp c.buffer.toNat X.waits from e.at' 5)
 exact f.1.2.ids
def Lb{x:ir}(k:jC c 0)(l:X.S.Cl)(m:X.S.n=c.bM.toNat)(n:X.S.l.length<=20000000)(a:zq X.S):zq (bR c 0 X x).2.2.S/\(bR c 0 X x).2.2.S.l.length<=X.S.l.length+1:=by
 obtain⟨o,p,q⟩:=OB (x:=x) k l m n
 by_cases d:(bR c 0 X x).1=0
 ·by_cases i:(bR c 0 X x).2.2.S.l.length=X.S.l.length
  ·rw[(p d i).2];exact⟨a,oM⟩
  ·obtain⟨e,j,-,f,-⟩:=q d i
   refine⟨λb g P=>?_,by rw[j];simp⟩;rw[j]at P;rcases Nat.lt_or_ge b X.S.l.length with r|s
   ·rw[XW r]at P;exact a b g P
   ·rw[X8 s]at P
    have t:b-X.S.l.length=0:=by
     rcases Nat.eq_zero_or_pos (b-X.S.l.length)with h|h
     ·exact h
     ·rw[Q7 bc]at P;cases P
    rw[t]at P;simp at P;subst P;have u:X.S.pU (0:Int).toNat=X.S.l.length:=by
     unfold ar.pU;rw[List.countP_eq_length.2];intro g v;obtain⟨w,y⟩:=List.mem_iff_getElem?.1 v;simp[(a w g y).1]
    unfold aI at f;rw[u]at f;simp only[Prod.mk.injEq]at f;omega
 ·rw[o d];exact⟨a,oM⟩
set_option maxHeartbeats 2000000 in
def rX{d:aH}{l r ca ra:ZH}{tn A s E cn cc N rc:Nat}{a2:List ir}(u:eh w)(v:Laid w)(hd:aW w D d l tn r s)(hD:∀P,D P->P<w.heap.size)(i6:Row RV 56 w f ca cn a2)(o3:∀P,f P->P<w.heap.size)(i7:Row aJ 8 w a6 ra N t)(u2:∀P,a6 P->P<w.heap.size):
  ZG 3 #[.agg #[.slice l tn A,.slice r s E],.slice ca cn cc,.slice ra N rc] w (Ok λf9 w'=>f9= .bool true/\ai w w'):=by
 have t4:=i6.len;have t5:=i7.len;refine nK (PA.mk λw1 k1 s1 g1=>PC.ok py ?_);rintro _ H ⟨ua,un,uc,va,vn,vc,m,rfl,u3,g2,k2⟩;refine bN (Jf (bz 2) ua un uc va vn vc) ⟨rfl,PA.mk λw3 I s3 g3=>aA (oL (bz 2) ua un uc va vn vc) g3 rfl λw4 k4 s4 g4=>?_⟩;have nn:∀P,P=H.heap.size->False\/H.heap.size<=P:=λP e=>.inr (Nat.le_of_eq e.symm);have z2:=k2.size;have i8:=k4.get (I.get (k2.get g1 id) id) (show¬w.heap.size=H.heap.size by omega);refine⟨_,_,_,_,_,_,ae i8 rfl,ae i8 rfl,PS.mk g4 (by simp[dP]) λw5 k5 s5 g5=>?_⟩;have o4:w5.heap[H.heap.size]? =some (.cells (dP (bz 2) l tn A va vn vc).toArray 29 (0,0)):=by rw[g5];rfl
 refine PS.mk o4 (by simp[dP]) λw6 k6 s6 g6=>?_;have o5:w6.heap[H.heap.size]? =some (.cells (dP (bz 2) l tn A r s E).toArray 29 (0,0)):=by rw[g6];rfl
 refine PS.mk o5 (by simp[dP]) λw7 k7 s7 g7=>?_;have o6:w7.heap[H.heap.size]? =some (.cells (dP {bz 2 with u_:=262144} l tn A r s E).toArray 29 (0,0)):=by rw[g7];rfl
 refine PS.mk o6 (by simp[dP]) λw8 k8 s8 g8=>?_;have i9:w8.heap[H.heap.size]? =some (.cells (dP (cN d) l tn A r s E).toArray 29 (0,0)):=by rw[g8];rfl
 have g9:ai H w8:=((((I.new k4 nn).new k5 nn).new k6 nn).new k7 nn).new k8 nn;have j0:=(k1.then k2).then g9;have o7:=g9.get (k2.get g1 id) id;have d5:aW w D (cN d).decl l tn r s:=hd;have i3:aP (cN d).dq/\aP (cN d).every/\aP (cN d).start:=by unfold aP cN bz;simp
 obtain⟨is,iv,it⟩:=i3;refine au (oL (cN d) l tn A r s E) i9 (PC.ok (HN (c:=cN d) (d5.ah j0) (Row.nil _ (λ_=>False))) ?_);rintro _ w9 ⟨⟨r2,rfl,-⟩,k9⟩;have B:=j0.then k9;have h0:=k9.get i9 id;refine⟨_,rfl,an.mk (λ_=>FZ u v B) (λ_=>an.dec (λ_=>FZ u v B) (λt6=>an.dec (λ_=>FZ u v B) (λ_=>?_)))⟩;refine au (oL (cN d) l tn A r s E) h0 (IB (c:=cN d) u v B (d5.ah B) is iv it (λk h3 C d6=>⟨_,_,rfl,au (oL (cN d) l tn A r s E) (C.get h0 id) (IB (c:=cN d) u v (B.then C) (d5.ah (B.then C)) is iv it (λk O Q _=>⟨_,_,rfl,an.dR (λ_=>an.eB (λ_=>FZ u v ((B.then C).then Q)) (λh=>Zz (by rw[gK (.inl rfl),gK (.inr rfl)]) h)) (λh=>Zz h d6)⟩) (λp F O hz=>Zz (by rw[gK (.inr rfl),<-gK (.inl rfl)]at hz;exact hz) d6))⟩) ?_);intro p F h3 hz C hA hF u4;have o8:(bK (cN d) 1).1=0:=by rw[gK (.inr rfl),<-gK (.inl rfl)];exact hz
 have c0:=B.then C;refine⟨_,_,rfl,au (oL (cN d) l tn A r s E) (C.get h0 id) (IB (c:=cN d) u v c0 (d5.ah c0) is iv it (λk O Q d6=>Zz o8 d6) ?_)⟩;intro q G O _ Q hB hG u5;have c1:=c0.then Q;have e7:=hA.ok;have h4:(bK (cN d) 0).2.S=⟨2,[]⟩:=by
  have:=(Gb (S:=⟨2,[]⟩) e7.decl rfl).1.set;rw[gK (.inr rfl),<-gK (.inl rfl)]at this;exact this
 have o9:=hA.aC;refine⟨_,_,rfl,an.dR (λh=>Zz rfl h) (λ_=>an.dR (λh=>Zz rfl h) (λ_=>?_))⟩;have z9:=k9.size;have u6:=C.size;have u7:=Q.size;have u9:=g9.size;have j1:=Q.get (C.get (k9.get o7 id) id) id;have e8:∀{d4:ar},d4.n=2->Rj d4 0 (bK (cN d) 1).2/\(bK (cN d) 1).2.waits=[]:=λh=>Gb e7.decl h;generalize(bK (cN d) 1).2=Y0 at hB e8;generalize(bK (cN d) 0).2=X0 at hA h4;have j2:fZ w O p q F G (cN d) 0 (cN d) 1 X0 Y0:=⟨hA.ah Q,hB,⟨u,v,c1,λP a=>by have:=hF P a;omega⟩,⟨u,v,c1,λP a=>by have:=hG P a;omega⟩,λP hf n=>by have:=o9 P hf;have:=hG P n;omega⟩
 have j3:=hB.aC;refine⟨λJ k w'=>∃(R:Nat) (FF:XN) (c:bP),k=R/\R<=cn/\J=cn-R/\fZ w w' p q FF G (cN d) 0 (cN d) 1 c Y0/\ak (λP=>w9.heap.size<=P) O w'/\(∀P,FF P->w9.heap.size<=P)/\c.S.l.length<=R/\zq c.S,
  ⟨_,0,F,X0,rfl,Qj _,rfl,j2,ak.refl _,hF,by rw[h4];exact Qj _,by rw[h4];intro i x g;simp at g⟩,?_⟩
 rintro J _ _ j4 ⟨R,FF,c,rfl,hj,rfl,S,a8,j5,v0,a9⟩;have kE:ak (λP=>w9.heap.size<=P) w j4:=(ai.af c1).then a8;have j6:=a8.get j1 oM;have d7:=S.a.cl;have v2:=a8.size;refine an.dec (λv3=>?_) (λv4=>?_)
 ·obtain⟨P,T,x,es,rfl,p0,h1,g,hc,rfl,c2⟩:=(i6.af kE λP a h=>by have:=o3 P a;omega).vB (i:=R) oM
  refine⟨P,T,rfl,oM,oM,bq (es:=jq x) (k:=7) (AZ x) rfl (λk ht=>by rw[Qx];exact hc k ht) (PC.ok (vP S.a S.ea c2 oM) ?_)⟩;rintro _ v5 ⟨p1,⟨sa,sn,sc,xa,xn,xc,p2,p3,p4,-,rfl,-⟩,j7,b1⟩;obtain⟨j8,t7⟩:=Lb (x:=x) S.a.ok d7.1 d7.2 oM a9;refine bN (Bm _ sa sn sc xa xn xc p2 p3 p4) ⟨rfl,_,oM,R+1,p1,_,aq oM,oM,rfl,S.Fl j7 b1,a8.then (b1.af.mono λP _ a=>j5 P a),λP a=>(b1.new P a).elim (j5 P) λh=>oM,oM,j8⟩
 have p5:c.S.l.length<=20:=oM
 have h5:c.S.n=2:=d7.2;obtain⟨e9,-⟩:=d7;obtain⟨p6,j9⟩:=e8 h5;refine PC.ok (zl S.a oM) ?_;rintro _ p7 ⟨p8,p9,v6,q0,rfl,f5,h6,k0⟩;have h7:=f5.aC;have d9:Row gO 96 p7 q0 p8 p9 c.S.l:=f5.row dC ba;have l0:=S.ah h6;have v7:=h6.size;have l3:∀e∈c.S.l,e.aK.length<=100:=λe he=>by
  obtain⟨-,-,-,-,-,-,h2,-⟩:=gZ (e9.ok.Pw e he);rw[h2,h5];decide
 refine⟨_,_,_,rfl,PC.ok (zr d9 l3) ?_⟩;rintro _ c3 ⟨q4,q5,v8,l4,rfl,c4,d8,f6⟩;have h8:=c4.aC;have l5:=l0.ah d8;have v9:=d8.size;have l6:=d8.get (h6.get j6 id) id;have i0:Row gO 96 c3 l4 q4 q5 c.S.l:=oA.row (c4.row dC ba);have i2:=d9.ah d8;obtain⟨U,o⟩:∃U:XN,U=λP=>(h3.heap.size<=P/\P<O.heap.size)\/c3.heap.size<=P:=⟨_,rfl⟩
 have b2:∀P,P<h3.heap.size->¬U P:=λP a h=>by rw[o]at h;rcases h with h|h<;>omega
 have l7:∀P,O.heap.size<=P->P<c3.heap.size->¬U P:=λP i4 X h=>by rw[o]at h;rcases h with h|h<;>omega
 refine⟨_,_,_,rfl,λJ la K lc k w'=>∃(i:Nat) (m y:XN) (Y:bP) (j:List aj),k=i/\i+j.length=c.S.l.length/\J=j.length/\j.Sublist c.S.l/\fZ w w' p q FF m (cN d) 0 (cN d) 1 c Y/\ak U c3 w'/\(∀P,m P->U P)/\Row gO 96 w' y la K j/\(∀P,y P->P<w'.heap.size/\j4.heap.size<=P/\¬m P)/\K<=lc/\Wt c.S (λb=>∀x,c.S.l[b]? =some x->x∉j) Y,
  ⟨_,0,G,l4,Y0,c.S.l,rfl,oM,rfl,List.Sublist.refl _,l5,ak.refl _,λP a=>by rw[o];exact .inl ⟨hG P a,j3 P a⟩,i0,λP a=>⟨h8 P a,by have:=f6 P a;omega,λh=>by have:=f6 P a;have:=j3 P h;omega⟩,c4.iG,⟨0,Qj _,p6,by rw[j9];simp,λi x Z g=>Zz (QZ g) (Z x g)⟩⟩,?_⟩
 rintro J la K lc _ _ b4 ⟨i,m,y,Y,j,rfl,x0,rfl,f7,a3,b0,g2,b9,L,q6,b5⟩;have x1:=b9.len;have l8:=a3.ea.gr;have x4:=b0.size;refine an.dec (λt8=>?_) (λx5=>?_)
 ·refine⟨λb w'=>b4=w'/\0<=b/\b<K,an.dec (λx6=>?_) (λ_=>⟨rfl,oM,oM⟩),?_⟩
  ·have c6:(i:Int).tmod (N:Int)=((i % N:Nat):Int):=by rw[Int.tmod_eq_emod_of_nonneg oM];rfl
   have q7:i % N<N:=Nat.mod_lt _ oM;obtain⟨P,T,e0,rfl,k3,l1,c5⟩:=(i7.af ((ai.af l8:ak (λ_=>False) w b4)) λP a h=>h).lb (i:=i % N) q7;refine aD.mk (Pb oM _ _) ⟨_,rfl,P,T,rfl,by rw[c6];omega,by rw[c6];omega,e0,by rw[c6,Qx];exact c5,PC.ok (Nb bb) ?_⟩;rintro _ _ ⟨rfl,rfl⟩;have:=y_ (k:=e0) (n:=(K:Int)) oM;exact⟨_,rfl,rfl,this.1,this.2⟩
  rintro kk _ _ ⟨rfl,x7,x8⟩;obtain⟨b,rfl⟩:∃b:Nat,kk=b:=⟨kk.toNat,oM⟩
  obtain⟨P,T,x,es,rfl,p0,x9,g,hc,q1,q2,q3,rfl,hq,c2⟩:=b9.vB (i:=b) oM;have q8:=QZ g;obtain⟨ix,l9⟩:=List.mem_iff_getElem?.1 (f7.subset q8);refine⟨P,T,rfl,oM,oM,bq (es:=aB x q1 q2 q3) (k:=10) (aU _ _ _ _) rfl (λk ht=>by rw[Qx];exact hc k ht) (PA.mk λy0 q9 y1 r0=>aA (aU x q1 q2 q3) r0 rfl λb6 r3 y2 r4=>?_)⟩;have m0:∀P,P=b4.heap.size->False\/b4.heap.size<=P:=λP e=>.inr (Nat.le_of_eq e.symm);have a4:ai b4 b6:=q9.new r3 m0;have y3:=a4.size;have m1:=a3.b.aC;have m2:=a3.ah a4;have c8:∀P,y P->¬m P:=λP a=>(L P a).2.2;refine⟨λJ k w'=>∃(a0:Nat) (G3:XN) (Y3:bP),k=a0/\J=2-a0/\a0<=2/\fZ w w' p q FF G3 (cN d) 0 (cN d) 1 c Y3/\ak (λP=>m P\/b6.heap.size<=P) b6 w'/\(∀P,G3 P->m P\/b6.heap.size<=P)/\Wt c.S (λb=>(∀x,c.S.l[b]? =some x->x∉j)\/(1<=a0/\b=ix)) Y3,
   ⟨_,0,m,Y,rfl,rfl,oM,m2,ak.refl _,λP a=>.inl a,⟨b5.at'.choose,b5.at'.choose_spec.1,b5.at'.choose_spec.2.1,b5.at'.choose_spec.2.2.1,λi x Z g=>b5.at'.choose_spec.2.2.2 i x (Z.resolve_right λh=>oM) g⟩⟩,?_⟩
  rintro J _ _ M ⟨a0,G3,Y3,rfl,rfl,y4,a5,a1,b7,c9⟩;have y5:=a1.size;have nB:∀P,P<b6.heap.size->¬m P->¬(m P\/b6.heap.size<=P):=λP i4 X h=>h.elim X λh=>by omega
  have z:=a1.get r4 (nB _ oM λh=>by have:=m1 _ h;omega);refine an.dec (λhr=>⟨_,_,_,_,_,_,_,_,_,_,_,_,ae z rfl,ae z rfl,ae z rfl,ae z rfl,ae z rfl,ae z rfl,ae z rfl,ae z rfl,ae z rfl,ae z rfl,PA.mk λh9 V y6 r5=>?_⟩) (λhr=>?_)
  ·have d0:=a5.ah V
   have m5:Row aJ 8 h9 y q1 q2 x.aK:=((hq.ah a4).af a1 λP a=>nB P (by have:=(L P a).1;omega) (c8 P a)).ah V;have l2:Row gO 96 h9 (λP=>P=M.heap.size\/y P) (XM M.heap.size) 1 [x]:=row_one r5 ⟨q1,q2,q3,rfl,m5,c2⟩ dC;have a7:=a5.b.aC;have m6:Y3.S.l.length<=18000000:=by
    obtain⟨t0,-,f3,-⟩:=c9.at';rw[f3.set];simp;omega
   refine PC.ok (oZ (m:=⟨3,0,1,[],[x]⟩) (va:=none) (vn:=0) (vc:=0) d0.b d0.eb (Row.nil _ (λ_=>False)) (λP h=>h.elim) l2 (λP a=>?_) m6) ?_
   ·rcases a with rfl|a
    ·exact⟨oM,λh=>by have:=a7 _ h;omega⟩
    ·exact⟨by have:=(L P a).1;omega,λh=>(b7 P h).elim (c8 P a) λh=>by have:=(L P a).1;omega⟩
   rintro _ r6 ⟨v1,G4,rfl,⟨oa,on,oc,-,-,rfl,-⟩,m7,c7⟩;obtain⟨s1,s2⟩:=c9.step (d:=cN d) e9 (by rw[h5];rfl) rfl rfl (show(1:Int)<=3 by decide) a9 p5 a5.b.nodup l9;refine⟨_,_,_,_,rfl,an.dR (λh=>Zz s1 h) (λ_=>⟨_,oM,a0+1,G4,_,aq oM,rfl,oM,d0.PU m7 c7,?_,λP a=>(c7.new P a).elim (b7 P) λh=>.inr oM,?_⟩)⟩
   ·exact(a1.ah V).then (c7.af.mono λP _ a=>b7 P a)
   ·obtain⟨m4,f1,f2,f3,f4⟩:=s2.at'
    exact⟨m4,f1,f2,f3,λi x Z g=>f4 i x (Z.elim (λh=>.inl (.inl h)) λh=>.inr h.2) g⟩
  ·have m8:ak U c3 M:=(b0.ah a4).then (a1.mono λP a h=>h.elim (g2 P) λh=>by rw[o];exact .inr oM)
   have m3:Row gO 96 M y (some ⟨P,T,none⟩) K j:=(b9.ah a4).af a1 λP a=>nB P (by have:=(L P a).1;omega) (c8 P a);have i1:IntKind.wrap .i64 ((b:Int)+1)=((b+1:Nat):Int):=aq oM;intro b8 r7;have e1:ai M b8:=r7.af;refine⟨oM,show(b:Int)<=_ by omega,by rw[i1];omega,by rw[i1];omega,?_⟩;rw[i1,Qx,Qx];refine PA.mk λm9 r8 y7 n0=>?_;have n1:aO gO 55 (·=b8.heap.size) m9 (XM b8.heap.size) 0 0 []:=⟨⟨[],λ_=>False,Own.ub (n:=0) n0 rfl (Qj _),rfl,λ_ h=>h.elim⟩,λP a=>by simpa[aE]using a.symm,λP a=>by subst a;exact ay n0⟩
   have d1:=e1.then r8;have y8:=e1.size;have e3:=m3.ah d1;have W:∀P,y P->P<b4.heap.size:=λP a=>(L P a).1;have t9:j.length<=20:=oM
   refine tf n1 zQ (e3.take (m:=b) oM) (λh=>by cases h) (λP a=>⟨by have:=W P a;omega,λh=>by simp[aE]at h;have:=W P a;omega⟩) (by simp;unfold aN;omega) (by simp;unfold maxLen;omega) λr9 y9 s0 z0 n2 e2 n3 d2=>⟨_,_,_,rfl,?_⟩
   have z3:=e2.size;have n5:∀P,y P->aE r9≠some P:=λP a h=>by have:=W P a;rcases d2 P h with h|h<;>omega
   have n6:Row gO 96 s0 y (some ⟨P,T,none⟩) K j:=e3.af e2 λP a h=>by simp[aE]at h;have:=W P a;omega
   have f0:=n6.part (lo:=b+1) (hi:=K) (cap:=lc) oM (Q4 _) q6;rw[Qz oM]at f0;refine tf n2 zQ f0 (λh=>by unfold bY at h;split at h<;>simp at h) (λP a=>⟨by have:=W P a;omega,n5 P a⟩) (by simp;unfold aN;omega) (by simp;unfold maxLen;omega) λz4 z5 n4 s9 d3 i5 n8 u0=>⟨_,_,_,rfl,?_⟩
   have z6:=i5.size;have u1:ak (λP=>M.heap.size<=P) M n4:=(((ai.af d1).then (e2.mono λP _ h=>by simp[aE]at h;show _<=P;omega))).then (i5.mono λP a h=>by show _<=P;rcases d2 P h with h|h<;>omega);have f8:ai M n4:=d1.new ((e2.mono (S':=λP=>m9.heap.size<=P\/P=b8.heap.size) λP _ h=>by simp[aE]at h;exact .inr oM).then (i5.mono λP a h=>(d2 P h).elim (λh=>.inr oM) λh=>.inl oM)) λP h=>.inr (by rcases h with h|h<;>omega);have a7:=a5.b.aC;refine⟨_,?_,i+1,G3,s9,Y3,j.take b++j.drop (b+1),aq oM,?_,rfl,?_,a5.ah f8,m8.ah f8,λP a=>(b7 P a).elim (g2 P) λh=>by rw[o];exact .inr oM,d3.row dC (by simp;unfold aN;omega),λP a=>?_,d3.iG,?_⟩
   ·simp;omega
   ·simp;omega
   ·rw[<-List.eraseIdx_eq_take_drop_succ];exact(List.eraseIdx_sublist ..).trans f7
   ·refine⟨d3.aC P a,?_⟩
    rcases n8 P a with h|h|h
    ·rcases n3 P h with h|h|h
     ·have h:P=b8.heap.size:=h
      exact⟨oM,λn=>by have:=a7 P n;omega⟩
     ·exact⟨(L P h).2.1,λn=>(b7 P n).elim (c8 P h) λX=>by have:=W P h;omega⟩
     ·exact⟨oM,λn=>by have:=a7 P n;omega⟩
    ·exact⟨(L P h).2.1,λn=>(b7 P n).elim (c8 P h) λX=>by have:=W P h;omega⟩
    ·exact⟨oM,λn=>by have:=a7 P n;omega⟩
   ·obtain⟨m4,f1,f2,f3,f4⟩:=c9.at'
    refine⟨m4,f1,f2,f3,λn7 x2 t1 e4=>f4 n7 x2 ?_ e4⟩;have X:=t1 x2 e4
    by_cases n9:x2=x
    ·right
     exact⟨oM,a9.inj (n9▸e4) l9⟩
    ·left
     intro x3 o0 t2;rw[e4]at o0;cases o0
     apply X;obtain⟨I,e5⟩:=List.mem_iff_getElem?.1 t2;rcases Nat.lt_trichotomy I b with h|h|h
     ·exact ZV _ (QZ (i:=I) (by rw[Xw,Zx h];exact e5))
     ·subst h;rw[g]at e5;exact Zz (XJ e5).symm n9
     ·exact ZW _ (QZ (i:=I-(b+1)) (by rw[List.getElem?_drop,show b+1+(I-(b+1))=I by omega];exact e5))
 ·have t3:j=[]:=QW oM
  have e6:Y.S=c.S:=b5.all a9 λi Z x g=>by rw[t3];simp
  refine PC.ok (zl a3.b (by rw[e6];omega)) ?_;rintro _ h9 ⟨z7,z8,A0,A1,rfl,o1,V,u8⟩;have r1:=(i2.af b0 λP a=>l7 P (by have:=k0 P a;omega) (by have:=h7 P a;omega)).ah V;refine⟨_,_,_,rfl,PC.ok (yF (o1.row dC (by rw[e6];unfold aN;omega)) r1) ?_⟩;rintro _ r6 ⟨rfl,o2⟩;have b3:=(a3.ah V).ah o2;have g0:=o2.get (V.get (b0.get l6 (b2 _ oM)) id) id;refine⟨_,rfl,an.dec (λ_=>⟨_,_,_,_,_,_,ae g0 rfl,ae g0 rfl,?_⟩) (λh=>Zz (by rw[e6]) h)⟩;refine PC.ok (EO b3.a b3.b rfl (by rw[e6]) (hd.ah b3.ea.gr)) ?_;rintro _ b8 ⟨rfl,e1⟩;exact⟨_,rfl,an.tt rfl (FZ u v (b3.ea.gr.then e1))⟩

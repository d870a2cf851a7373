import Derived.Test.YtkpomgifkloklaaGreatDoorKe17
set_option maxHeartbeats 4000000
set_option linter.all false
set_option maxRecDepth 20000
namespace Go.Proofs.YtkpomgifkloklaaGreatDoor
open Go.aw
variable{d v:be}{R:aU}
section
variable {w w' w0 w1 w2:World} {p:Nat} {F E D:ac} {c:bF} {self:Int}
def Nd{tn tc L pc:Nat}(g:bt w D R d tn v L)(hD:∀n,D n->n<w.heap.size):
  bn 59 #[.agg #[.slice d tn tc,.slice v L pc]] w (Ok λc4 w'=>∃t NO a2 c u j G,c4= .agg #[.slice t NO a2,.slice c u j]/\bt w' G R t NO c u/\(∀n,G n->w.heap.size<=n/\n<w'.heap.size)/\ai w w'):=by
 have g1:=g.a_.len;have b8:=g.a_.eO;have g2:=g.EB.len;have g3:=g.EB.eO;refine xH (PA.mk λM k4 s4 g4=>PA.mk λw5 k5 s5 g5=>⟨_,_,_,ae (k5.get g4 id) rfl,?_⟩);have x:=k4.then k5;refine AG (aS.nil (c:=Cb) (e:=136) w5) Sr (g.EB.af x) (λn P=>⟨by have:=hD n P;omega,λa=>by cases a⟩) (by rw[ZQ];unfold aP at*;omega) (by rw[ZQ];unfold aP at*;unfold maxLen;omega) λc j e Fp d1 k8 k1 d2=>⟨_,_,_,rfl,PA.mk λk2 g6 k3 g7=>PS.mk g7 sM λk6 g8 k7 g9=>PS.mk g9 sM λr h3 k9 h4=>?_⟩
 rw[List.nil_append,Xz]at d1;have a9:=d1.alone;have b9:∀n,aI c=some n->w5.heap.size<=n/\n<e.heap.size:=λn P=>⟨(d2 n P).elim False.elim id,a9.aE n P⟩
 have z8:=k8.size;have y:ai w5 e:=k8.mono λn _ a=>by cases a
 have z:ai e r:=(g6.new g8 λn P=>.inr (by have P:n=e.heap.size:=P;omega)).new h3 λn P=>.inr (by have P:n=e.heap.size:=P;omega);have b0:ai w r:=(x.then y).then z;have gp:=z.get (y.get (k5.get g4 id) id) id;have gr:=z.get (y.get g5 id) id;have b1:r.heap[e.heap.size]? =some (.cells #[.slice none 0 0,.slice c (0+L) j] 25 (0,0)):=h4;rw[Xz]at b1;have l0:=z.size;refine⟨_,_,_,ae gp rfl,λA a3 w'=>∃h:Nat,a3=h/\h<=tn/\A=tn-h/\aj (·=e.heap.size) r w'/\∃N O oc Q,w'.heap[e.heap.size]? =some (.cells #[.slice N O oc,.slice c L j] 25 (0,0))/\aS nQ 120 Q w' N O oc (R.types.take h)/\∀n,Q n->r.heap.size<=n,
  ⟨_,0,rfl,Qj _,rfl,aj.refl _,none,0,0,λ_=>False,b1,aS.nil _,λ_ g=>g.elim⟩,?_⟩
 rintro A _ _ S ⟨h,rfl,hj,rfl,s,N,O,oc,Q,T,l,B⟩;have U:ai w S:=b0.new s λn P=>.inr (by have P:n=e.heap.size:=P;have:=x.size;have:=y.size;omega);have zk:=s.size;have b2:=s.get gp λa=>by have a:w.heap.size=e.heap.size:=a;have:=k4.size;omega
 refine al.dec (λl3=>?_) (λl4=>?_)
 ·have h6:h<R.types.length:=oM
  have V:R.types[h]? =some R.types[h]:=Qq h6;generalize R.types[h]=m at V;obtain⟨n,d5,es,ha,P,l5,d6,fa,fn,fc,rfl,W⟩:=(g.a_.af U).el h m V;have c0:=d6 0 dC;have h7:nQ.k=1:=rfl;rw[h7,Nat.mul_one]at c0;have h8:=W.len;have c2:=W.eO;refine⟨n,d5,ha,oM,oM,fa,fn,fc,by rw[Qx];exact c0,PA.mk λl6 h9 l7 i0=>PS.mk i0 sM λi i1 l8 i2=>PA.mk λl9 d3 m0 i3=>PS.mk i3 sM λC d4 m1 i4=>?_⟩;have p:ai S C:=((h9.new i1 λn P=>.inr (by have P:n=S.heap.size:=P;omega)).then d3).new d4 λn P=>.inr (by have P:n=i.heap.size:=P;omega);have d7:=d4.get (d3.get i2 id) oM;have e3:=p.get b2 id;have m2:=p.size;have e4:=U.then p;refine⟨_,_,_,ae d7 rfl,λA a3 w'=>∃f:Nat,a3=f/\f<=fn/\A=fn-f/\aj (·=i.heap.size) C w'/\∃E F X Y,w'.heap[i.heap.size]? =some (.cells #[.slice E F X] 120 (0,0))/\aS sP 123 Y w' E F X (m.take f)/\∀n,Y n->C.heap.size<=n,
   ⟨_,0,rfl,Qj _,rfl,aj.refl _,none,0,0,λ_=>False,i4,aS.nil _,λ_ g=>g.elim⟩,?_⟩
  rintro A _ _ d8 ⟨f,rfl,hk,rfl,q,E,F,X,Y,gx,o,H⟩;have zx:=q.size;have b3:ai w d8:=e4.new q λn P=>.inr (by have P:n=i.heap.size:=P;have:=U.size;omega);have b4:=q.get e3 λa=>by have a:w.heap.size=i.heap.size:=a;have:=az b2;omega
  refine al.dec (λj9=>?_) (λk0=>?_)
  ·have d9:f<m.length:=oM
   have I:m[f]? =some m[f]:=Qq d9;have a4:=Ts V d9;rw[I]at a4;obtain⟨fb,fo,e6,-,-,-,-,ya,yn,yc,rfl,-,b5⟩:=(W.af p).el f m[f] I;generalize m[f]=J at I a4 b5;refine⟨_,_,_,_,_,_,ae b4 rfl,ae b4 rfl,PC.ok (pQ (g.af b3) λn P=>by have:=hD n P;have:=b3.size;omega) ?_⟩;rw[a4];rintro _ e0 ⟨e1,Z,a0,cc,Fm,rfl,c3,e2⟩;have e8:=c3.aE;have m3:=e1.size;refine cg (Kp J Z a0 cc) ⟨_,rfl,PA.mk λm4 i5 m5 i6=>aD (gT J Z a0 cc) i6 rfl λi7 i8 m6 a7=>?_⟩;have a5:ai e0 i7:=i5.new i8 λn P=>.inr (by have P:n=e0.heap.size:=P;omega);have b6:=e1.then a5;have e9:=b6.get gx id;refine⟨_,_,_,ae e9 rfl,_,_,_,_,_,_,ae a7 rfl,ae a7 rfl,ae a7 rfl,ae a7 rfl,PA.mk λi9 e5 m7 j0=>?_⟩;have a1:=b6.then e5;have f0:=(c3.af a5).af e5;have m8:=c3.len dC;have a8:Row jz 32 i9 Fm Z a0 J.bN:=f0.row dC (by
    obtain⟨_,_,_,_,_,_,_,_,_,_,hq,a8,_⟩:=(W.af p).el f J I;have h1:=a8.eO;have h2:=a8.len;rw[<-h2];exact h1)
   refine fV (c:=sP) (x:=J) (o.af a1) VV j0 (D:=Fm) ⟨Z,a0,cc,rfl,a8,b5⟩ (λn P=>⟨by have:=e8 n P;have:=a5.size;omega,λa=>by have:=o.aE n (o.self n a);have:=e2 n P;omega⟩) (by rw[Qy];unfold aP at*;omega) (by rw[Qy];unfold aP at c2;unfold maxLen;omega) λa' c' m9 K f1 c5 c6=>⟨_,_,_,rfl,?_⟩
   have j1:¬aI E=some i.heap.size:=λa=>by have:=H _ (o.self _ a);omega
   have n0:=a1.size;have n1:=c5.size;have b:∀n,K n->C.heap.size<=n:=λn P=>by
    rcases c6 n P with k|k|k
    ·exact H n k
    ·have:=e2 n k;omega
    ·omega
   refine PS.mk (c5.get (a1.get gx id) j1) sM λn2 e7 n3 j2=>⟨_,oM,f+1,an (by unfold aP at c2;omega),oM,rfl,((q.af a1).new c5 λn P=>.inr (H n (o.self n P))).then e7,a',F+1,c',K,j2,?_,b⟩
   rw[Qw,I];exact f1.keep e7 λn P a=>by have a:n=i.heap.size:=a;have:=b n P;omega
  ·rw[Qz oM]at o
   have j3:aj (·=i.heap.size) C d8:=q;have b7:=q.get (p.get T id) λa=>by have a:e.heap.size=i.heap.size:=a;have:=az T;omega
   refine⟨_,_,_,ae b7 rfl,_,_,_,ae gx rfl,PA.mk λj4 c7 n4 j5=>?_⟩;have a6:ai S j4:=(p.new q λn P=>.inr (by have P:n=i.heap.size:=P;omega)).then c7;refine fV (c:=nQ) (x:=m) (l.af a6) Rt j5 (D:=Y) ⟨E,F,X,rfl,(o.af c7).row dC (by rw[<-h8];exact c2)⟩ (λn P=>⟨by have:=o.aE n P;omega,λa=>by have:=l.aE n (l.self n a);have:=H n P;omega⟩) (by rw[Qy];unfold aP at*;omega) (by rw[Qy];unfold aP at b8;unfold maxLen;omega) λa' c' n8 K f2 c8 c6=>⟨_,_,_,rfl,?_⟩
   have j6:¬aI N=some e.heap.size:=λa=>by have:=B _ (l.self _ a);omega
   have n9:=a6.size;have o0:=c8.size;have b:∀n,K n->r.heap.size<=n:=λn P=>by
    rcases c6 n P with k|k|k
    ·exact B n k
    ·have:=H n k;omega
    ·omega
   refine PS.mk (c8.get (c7.get b7 id) j6) sM λo1 c1 o2 j7=>⟨_,oM,h+1,an (by unfold aP at b8;omega),oM,rfl,((s.af a6).new c8 λn P=>.inr (B n (l.self n P))).then c1,a',O+1,c',K,j7,?_,b⟩
   rw[Qw,V];exact f2.keep c1 λn P a=>by have a:n=e.heap.size:=a;have:=b n P;omega
 ·rw[Qz oM]at l
  have z5:=y.size;have f3:=s.get gr λa=>by have a:M.heap.size=e.heap.size:=a;omega
  have f4:=((a9.af z).keep s λn P a=>by have a:n=e.heap.size:=a;have:=b9 n P;omega)
  refine⟨_,_,_,_,_,_,ae T rfl,ae T rfl,PS.mk f3 sM λo3 c9 o4 j8=>PS.mk j8 sM λo5 d0 o6 g0=>⟨_,_,_,_,_,_,ae g0 rfl,ae g0 rfl,Ok.mk ⟨_,_,_,_,_,_,λn=>Q n\/aI c=some n,rfl,⟨?_,?_⟩,?_,?_⟩⟩⟩
  ·exact(((l.row (bytes:=24) dC (by rw[<-g1];exact b8)).keep (c9.then d0) λn P a=>by have a:n=M.heap.size:=a;have:=B n P;omega)).mono λn P=>.inl P
  ·exact(((f4.row (bytes:=40) dC (by rw[<-g2];exact g3)).keep (c9.then d0) λn P a=>by have a:n=M.heap.size:=a;have:=b9 n P;omega)).mono λn P=>.inr P
  ·rintro n (P|P)
   ·have:=B n P;have:=l.aE n P;have:=x.size;have:=b0.size;omega
   ·have:=b9 n P;have:=x.size;omega
  ·exact U.new (c9.then d0) λn P=>.inr (by have P:n=M.heap.size:=P;have:=k4.size;omega)
end
variable{a:Nat}{j:Type}
section
variable {w w':World} {D D' S:ac} {d:aU} {ta pa:be} {tn tc pn pc:Nat}
def tV(n:bz):Bool:=if n.kind==4 then !within n.bN.length 1 16 else decide (0<n.bN.length)
def CY(n:List bz):Bool:=!within n.length 1 8||n.any tV
def KE{n:j->Bool}{P:List j}{b:j}(c:P[a]? =some b)(d:(P.take a).any n=false)(e:n b=false):(P.take (a+1)).any n=false:=by
 rw[Qw,c,List.any_append,d];simp[e]
def No{P:j->Bool}{b:List j}{n:j}(c:b[a]? =some n)(d:P n=true):b.any P=true:=List.any_eq_true.2 ⟨n,QZ c,d⟩
def gu{e:Type}{f:e->Int}:∀{P:List e} {a:Nat} {b:e},P[a]? =some b->cN f (P.take a)=0->cN f (P.take (a+1))=f b
 |[],a,b,n,_=>by simp at n
 |y::P,0,b,n,_=>by simp at n;subst n;simp[cN];intro n;exact n.symm
 |y::P,a+1,b,n,c=>by
  simp only[Zw,cN]at c⊢;split at c
  ·rename_i d;simp at d;exact Zz c d
  ·rename_i d;rw[Zq d];exact gu (by simpa using n) c
def pS{a:Type}{P:a->Int}:∀{l:List a} {j:Nat},cN P (l.take j)≠0->cN P l=cN P (l.take j)
 |[],j,n=>by simp at n⊢
 |y::l,0,n=>by simp[cN]at n
 |y::l,j+1,n=>by
  simp only[Zw,cN]at n⊢;split
  ·rfl
  ·rename_i b;rw[Zq b]at n;exact pS n
def KF(b:bt w D d ta tn pa pn):bn 88 #[.agg #[.slice ta tn tc,.slice pa pn pc]] w (Ok λc w'=>c= .bool (sh d)/\ai w w'):=by
 have r:=b.a_.len;have s:=b.a_.eO;have hp:=b.EB.len;unfold aP at s;refine DN (PA.mk λY t s1 u=>⟨_,_,_,ae u rfl,PC.ok cE ?_⟩);rintro _ _ ⟨rfl,rfl⟩;refine⟨_,rfl,al.not (al.mk (λg=>⟨_,_,_,ae u rfl,al.dec (λZ=>Ok.mk ⟨?_,t⟩) (λZ=>⟨_,_,_,ae u rfl,λh j w'=>∃P:Nat,j=P/\P<=tn/\h=tn-P/\(d.types.take P).any CY=false/\ai Y w',⟨_,0,rfl,Qj _,rfl,sM,aj.refl _⟩,?_⟩)⟩) (λg=>Ok.mk ⟨?_,t⟩))⟩
 ·unfold sh;rw[<-r,g,Zx dg]
 rotate_left
 ·unfold sh;rw[<-r,g];rfl
 have v:sh d=d.types.any CY:=by unfold sh CY tV;rw[<-r,g,Zq dg]
 rintro h j _ w2 ⟨P,rfl,hj,rfl,x,K⟩;have k:=t.then K;refine al.dec (λa8=>?_) (λa9=>?_)
 rotate_left
 ·rw[Qz oM]at x
  exact Ok.mk ⟨by rw[v,x],k⟩
 obtain⟨y,z,A,es,rfl,_,_,B,e,a2,f,c1,rfl,C⟩:=((b.af k).a_).vv (i:=P) oM;have L:=C.len;have a0:=C.eO;unfold aP at a0;have M:=e 0 dC;simp only[nQ,Nat.mul_one,Nat.add_zero]at M;refine⟨y,z,rfl,oM,oM,_,_,_,M,PA.mk λw3 k3 s3 g3=>PS.mk g3 sM λl k4 s4 N=>⟨_,_,_,ae N rfl,PC.ok cE ?_⟩⟩;rintro _ _ ⟨rfl,rfl⟩;have m:ai w2 l:=k3.new k4 λy s=>.inr oM;have E:CY A=true->Ok (λc w'=>c= .bool (sh d)/\ai w w') (.returned (.bool true)) l:=λn=>Ok.mk ⟨by rw[v,No B n],k.then m⟩;refine⟨_,rfl,al.not (al.mk (λF=>⟨_,_,_,ae N rfl,λh j w'=>∃i:Nat,j=i/\i<=f/\h=f-i/\(A.take i).any tV=false/\ai l w',⟨_,0,rfl,Qj _,rfl,sM,aj.refl _⟩,?_⟩) (λF=>E (by unfold CY;rw[<-L,F];rfl)))⟩;rintro m' t' _ w5 ⟨i,rfl,hi,rfl,H,o⟩;have a3:=(k.then m).then o;refine al.dec (λa6=>?_) (λa7=>?_)
 rotate_left
 ·rw[Qz oM]at H
  exact⟨_,oM,P+1,an oM,oM,rfl,KE B x (by unfold CY;rw[<-L,F,H];rfl),(K.then m).then o⟩
 obtain⟨b2,a1,p,b0,rfl,_,_,O,a4,Q,R,S,rfl,T,b1,b3⟩:=((C.af m).af o).vv (i:=i) oM;have U:=T.len;have a5:=T.eO;unfold aP at a5;refine⟨b2,a1,rfl,oM,oM,bJ (gT p Q R S) rfl a4 (PA.mk λw6 k6 s6 g6=>aD (gT p Q R S) g6 rfl λI k7 s7 J=>⟨_,ae J rfl,?_⟩)⟩;have V:ai w5 I:=k6.new k7 λy s=>.inr oM;have W:tV p=true->Ok (λc w'=>c= .bool (sh d)/\ai w w') (.returned (.bool true)) I:=λn=>Ok.mk ⟨by rw[v,No B (by unfold CY;rw[No O n];simp)],a3.then V⟩;have next:tV p=false->∃X,X<f-i/\∃q:Nat,IntKind.wrap .i64 ((i:Int)+1)=q/\q<=f/\X=f-q/\(A.take q).any tV=false/\ai l I:=λn=>
  ⟨_,oM,i+1,an oM,oM,rfl,KE O H n,o.then V⟩
 refine al.eT (λa=>⟨_,_,_,ae J rfl,PC.ok cE ?_⟩) (λa=>al.not (al.eT (λe=>Zz e a) (λ_=>⟨_,_,_,ae J rfl,al.dec (λb=>W ?_) (λb=>next ?_)⟩)))
 ·rintro _ _ ⟨rfl,rfl⟩
  refine⟨_,rfl,al.not (al.mk (λn=>al.not (al.eT (λ_=>next ?_) (λe=>Zz a e))) (λn=>W ?_))⟩
  ·unfold tV;rw[a,<-U,n];rfl
  ·unfold tV;rw[a,<-U,n];rfl
 ·unfold tV;rw[Zq (by simpa using a)];simp only[Zk];omega
 ·unfold tV;rw[Zq (by simpa using a)];simp only[decide_eq_false_iff_not];omega
def HL(hT:fE w)(f:bt w D d ta tn pa pn)(hD:∀P,D P->P<w.heap.size):
  bn 56 #[.agg #[.slice ta tn tc,.slice pa pn pc]] w (Ok λB w'=>B= WP (dt d)/\ai w w'):=by
 have hl:=f.a_.len;have e:=f.a_.eO;have b1:=f.EB.len;have a6:=f.EB.eO;unfold aP at e a6;refine Bv (PA.mk λw1 U s1 C=>⟨_,_,_,_,_,_,ae C rfl,ae C rfl,PC.ok (KF (f.af U)) ?_⟩);rintro _ w2 ⟨rfl,V⟩;have W:=U.then V;have X:=V.get C id;refine⟨_,rfl,al.mk (λt=>Ok.mk ⟨by unfold dt;rw[t];rfl,W⟩) (λt=>⟨_,_,_,ae X rfl,λj a w'=>∃n:Nat,a=n/\n<=tn/\j=tn-n/\cN (λa=>cN (fU a) a) (d.types.take n)=0/\ai w2 w',⟨_,0,rfl,Qj _,rfl,rfl,aj.refl _⟩,?_⟩)⟩;rintro j a _ Y ⟨n,rfl,hj,rfl,u,E⟩;have v:=W.then E;have Z:=E.get X id;have F:∀{w':World},ai w w'->∀n b,d.types[n]? =some b->cN (λa=>cN (fU a) a) (d.types.take n)=0->∀x:Int,cN (fU b) b=x->x≠0->Ok (λB w'=>B= WP (dt d)/\ai w w') (.returned (WP x)) w':=by
  intro w' a2 n b y h0 x hr h;have k:=gu y h0;rw[hr]at k;have h2:=pS (l:=d.types) (j:=n+1) (by rw[k];exact h);refine Ok.mk ⟨?_,a2⟩;unfold dt;rw[t,h2,k];simp[h]
 refine al.dec (λb2=>?_) (λb3=>⟨_,_,_,ae Z rfl,λj a w'=>∃i:Nat,a=i/\i<=pn/\j=pn-i/\cN (mY d) (d.projs.take i)=0/\ai Y w',⟨_,0,rfl,Qj _,rfl,rfl,aj.refl _⟩,?_⟩)
 ·obtain⟨P,H,I,es,rfl,_,_,y,hc,b4,n1,c1,rfl,z⟩:=((f.af v).a_).vv (i:=n) oM
  have b5:=z.len;have a7:=z.eO;unfold aP at a7;have a0:=hc 0 dC;simp only[nQ,Nat.mul_one,Nat.add_zero]at a0;refine⟨P,H,rfl,oM,oM,_,_,_,a0,PA.mk λw4 o s4 g4=>PS.mk g4 sM λJ K s5 A=>⟨_,_,_,ae A rfl,λj a w'=>∃i:Nat,a=i/\i<=n1/\j=n1-i/\cN (fU I) (I.take i)=0/\ai J w',⟨_,0,rfl,Qj _,rfl,rfl,aj.refl _⟩,?_⟩⟩;have a8:ai Y J:=o.new K λP e=>.inr oM;rintro m' t' _ L ⟨i,rfl,hi,rfl,c,l⟩;have p:=a8.then l;refine al.dec (λa3=>?_) (λa9=>?_)
  ·obtain⟨M,N,b,b0,rfl,_,_,m,O,Q,R,S,rfl,hM,b6,b7⟩:=(z.af p).vv (i:=i) oM
   refine⟨M,N,rfl,oM,oM,bJ (gT b Q R S) rfl O (PA.mk λw7 g s7 g7=>aD (gT b Q R S) g7 rfl λw8 q s8 g8=>⟨_,_,_,ae (q.get (g.get (l.get A id) id) (by have:=l.size;omega)) rfl,ar (gT b Q R S) g8 (PC.ok (HR (hT.af ?_) (z.af ?_) (hM.af ?_)) ?_)⟩)⟩
   ·exact(v.then p).then (g.new q λP e=>.inr oM)
   ·exact p.then (g.new q λP e=>.inr oM)
   ·exact g.new q λP e=>.inr oM
   ·rintro _ w9 ⟨rfl,k9⟩
    have a4:ai L w9:=aj.then (g.new q λP e=>.inr oM) k9;refine⟨_,rfl,al.eu (λh=>?_) (λT=>⟨_,oM,i+1,an oM,oM,rfl,by rw[gu m c];exact T,l.then a4⟩)⟩;have k:=gu m c;exact F ((v.then p).then a4) n I y u _ (by rw[pS (j:=i+1) (by rw[k];exact h),k]) h
  ·rw[Qz oM]at c
   refine⟨_,oM,n+1,an oM,oM,rfl,by rw[gu y u];exact c,E.then p⟩
 ·rw[Qz oM]at u
  rintro m' t' _ w4 ⟨i,rfl,hi,rfl,c,o⟩;have r:=v.then o;have a1:dt d=cN (mY d) d.projs:=by unfold dt;rw[t,u];simp
  refine al.dec (λa3=>?_) (λa9=>?_)
  ·obtain⟨M,N,b,b0,rfl,_,_,m,O,rfl,_⟩:=((f.af r).EB).vv (i:=i) oM
   refine⟨M,N,rfl,oM,oM,bJ (qI b) rfl O (PA.mk λJ K s5 A=>aD (qI b) A rfl λL l s6 g6=>?_)⟩;have s:ai w4 L:=K.new l λP e=>.inr oM;have a5:=s.get (o.get Z id) id;refine⟨_,_,_,_,_,_,ae a5 rfl,ae a5 rfl,ar (qI b) g6 (PC.ok (HS (f.af (r.then s)) λP e=>by have:=hD P e;have:=(r.then s).size;omega) ?_)⟩;rintro _ w7 ⟨rfl,g⟩;refine⟨_,rfl,al.eu (λh=>Ok.mk ⟨?_,(r.then s).then g⟩) (λT=>⟨_,oM,i+1,an oM,oM,rfl,by rw[gu m c];exact T,(o.then s).then g⟩)⟩;rw[a1,pS (j:=i+1) (by rw[gu m c];exact h),gu m c]
  ·rw[Qz oM]at c
   exact Ok.mk ⟨by rw[a1,c],r⟩
end
def cC(n:bF)(P:Int):Int×bh:=
 if dt n.decl≠0 then(dt n.decl,(Cr n).2)else if fQ n P=false then(1,(Cr n).2)else Cr n
def Xs(a:World)(P:bF)(n:Int)(b:Value)(c:World):Prop:=ai a c/\
 (((cC P n).1≠0/\b= .tuple #[.pointer none,WP (cC P n).1])\/
  ((cC P n).1=0/\∃d e,b= .tuple #[RK d,WP 0]/\bY c d e P n (cC P n).2/\(∀f,e f->a.heap.size<=f)/\(cC P n).2.S.l.length<=16777216))
section
variable {w w' w0 w1 w2:World} {p:Nat} {F E D:ac} {c:bF} {self:Int}
def Ux(hT:fE w0)(hL:Laid w0)(A:ai w0 w){tn Q B R:Nat}(hd:bt w D c.decl d tn v B)(hD:∀n,D n->n<w.heap.size)(hs:aH c.bk)(d4:aH c.every)(d5:aH c.start):
  bn 34 #[uh c d tn Q v B R,WP self] w (Ok (Xs w c self)):=by
 refine DJ (PA.mk λg2 C g3 E=>⟨_,_,_,_,_,_,ae E rfl,ae E rfl,PC.ok (HL (hT.af (A.then C)) (hd.af C) λn P=>by have:=hD n P;omega) ?_⟩);rintro _ d6 ⟨rfl,b8⟩;have a3:=C.then b8;have b9:d6.heap[w.heap.size]? =some (.cells (eI c d tn Q v B R).toArray 27 (0,0)):=b8.get E id;refine⟨_,rfl,al.eu (λj=>Ok.mk ⟨a3,.inl ?_⟩) (λS=>ar (IS c d tn Q v B R) b9 (PC.ok QB ?_))⟩
 ·have:cC c self=(dt c.decl,(Cr c).2):=by unfold cC;rw[Zx j]
  rw[this];exact⟨j,rfl⟩
 rintro _ T ⟨rfl,c1⟩;have F:=a3.then c1;have U:=c1.get b9 id;refine⟨_,rfl,al.not (al.mk (λl=>?_) (λl=>Ok.mk ⟨F,.inl ?_⟩))⟩
 rotate_left
 ·have:cC c self=(1,(Cr c).2):=by unfold cC;rw[Zq (by simpa using S),Zx l]
  rw[this];exact⟨show(1:Int)≠0 by decide,rfl⟩
 have a4:cC c self=Cr c:=by unfold cC;rw[Zq (by simpa using S),Zq (by rw[l];simp)]
 have c2:ks c self:=⟨l,S,hs,d4,d5⟩
 have c3:=l;unfold fQ within at c3;simp only[QK,Zk]at c3;refine⟨_,ae U rfl,PC.ok (t_ (A.then F) oM oM) ?_⟩;rintro _ c4 ⟨dp,rfl,d7,V⟩;obtain⟨Fd,c5,-,d8,-⟩:=d7;have H:∀n,Fd n->T.heap.size<=n/\n<c4.heap.size:=λn P=>⟨Nat.le_of_not_lt (d8 n P).2,c5.aE n P⟩
 have W:=F.then V;have X:=V.get U id;refine⟨_,_,rfl,al.eu (λj=>Zz rfl j) (λ_=>⟨_,_,_,_,_,_,ae X rfl,ae X rfl,PC.ok (Nd (hd.af W) λn P=>by have:=hD n P;have:=W.size;omega) ?_⟩)⟩;rintro _ c6 ⟨m,NO,o,p,q,r,I,rfl,d9,J,K⟩;have c7:=W.then K;have e0:=K.get X id;have g4:=C.size;have g5:=F.size;have g6:=V.size;have g7:=K.size;have g8:=az E;have e9:w.heap.size<T.heap.size:=az U;refine⟨_,_,_,_,_,_,rfl,PS.mk e0 (by simp[eI]) λg9 e1 h2 e2=>PS.mk e2 (by simp[eI]) λY e3 h3 e4=>λs c8=>?_⟩;have Z:aj (λn=>n=w.heap.size) c6 Y:=e1.then e3;have L:ai Y s:=c8.keep;have h4:s.heap.size=Y.heap.size:=by rw[c8.heap]
 have b:s.heap[w.heap.size]? =some (.cells (eI c m NO o p q r).toArray 27 (0,0)):=L.get e4 id;have c9:ai w s:=(c7.new Z λn P=>.inr (by have P:n=w.heap.size:=P;omega)).then L;have g:∀{n:Nat},T.heap.size<=n->n≠w.heap.size:=λ{n} P=>by omega
 refine⟨λ_=>False,id,_,_,_,_,_,_,_,_,_,_,_,_,_,_,ae b rfl,ae b rfl,ae b rfl,ae b rfl,ae b rfl,ae b rfl,ae b rfl,ae b rfl,ae b rfl,ae b rfl,_,ae b rfl,id,_,ae b rfl,PC.ok (La oM) ?_⟩;rintro _ e5 ⟨h,rfl,d0,f2,g1,b4⟩;refine⟨_,rfl,b4,PC.ok Kq ?_⟩;rintro _ f ⟨tp,M,rfl,a5,N,d1⟩;have h7:=b4.size;have h8:=N.size;have d2:=a5.aE;refine⟨_,rfl,N,PA.mk λb5 O h9 e6=>⟨O,?_⟩⟩
 let e:kM:=⟨m,NO,o,p,q,r,dp,none,0,0,h,tp⟩
 let a2:bh:=⟨⟨c.aA.toNat,[]⟩,gX c.uV.toNat,none,[],⟨c.dj,[],[]⟩⟩
 have d3:b5.heap[f.heap.size]? =some (.cells (yy e c self none none none) 117 (0,0)):=e6;have a0:ai s b5:=(b4.then N).then O;have a1:=c9.then a0;have b6:∃t,bf b5 (λn=>∃k,(match k with|0=>n=f.heap.size|1=>I n|2=>Fd n|5=>n=h|6=>M n|_=>False:Prop)) t (recC f.heap.size (yy e c self none none none) e c a2 false):=by
  refine bf.join (G:=λk n=>match k with|0=>n=f.heap.size|1=>I n|2=>Fd n|5=>n=h|6=>M n|_=>False) (λk=>?_) (λi a9 n a hj=>?_) λk n P=>?_
  ·match k with
   |0=>exact⟨rfl,d3⟩
   |1=>exact(((d9.keep Z λn P u=>g (by have:=J n P;omega) u).af L).af a0)
   |2=>exact⟨Fd,((((c5.keep K λ_ _ e=>e).keep Z λn P u=>g (H n P).1 u).keep L λ_ _ e=>e).keep a0 λ_ _ e=>e),λn P=>P,rfl⟩
   |3=>intro u;cases u
   |4=>trivial
   |5=>exact⟨_,_,d0.af (N.then O),λ_ e=>e,λn P=>P.elim⟩
   |6=>exact a5.af O
   |k+7=>trivial
  ·have x:∀i:Nat,(match i with|0=>n=f.heap.size|1=>I n|2=>Fd n|5=>n=h|6=>M n|_=>False:Prop)->i=(if n<c4.heap.size then 2 else if n<c6.heap.size then 1 else if n<e5.heap.size then 5 else if n<f.heap.size then 6 else 0):=λi a=>by
    rcases i with _|_|_|_|_|_|_|i
    ·have a:n=f.heap.size:=a
     rw[Zq oM,Zq oM,Zq oM,Zq oM]
    ·have:=J n a;rw[Zq oM,Zx oM]
    ·have:=H n a;rw[Zx oM]
    ·exact a.elim
    ·exact a.elim
    ·have a:n=h:=a
     rw[Zq oM,Zq oM,Zx oM]
    ·have h5:=d1 n a;have h6:=d2 n a;rw[Zq oM,Zq oM,Zq oM,Zx oM]
    ·exact a.elim
   rw[x i a,<-x a9 hj]
  ·rcases k with _|_|_|_|_|_|_|k
   ·have P:n=f.heap.size:=P
    omega
   ·have:=J n P;omega
   ·have:=H n P;omega
   ·exact P.elim
   ·exact P.elim
   ·have P:n=h:=P
    omega
   ·have:=d2 n P;omega
   ·exact P.elim
 obtain⟨t,hp⟩:=b6;have b7:∀n,(∃k,(match k with|0=>n=f.heap.size|1=>I n|2=>Fd n|5=>n=h|6=>M n|_=>False:Prop))->w.heap.size<=n:=λn ⟨k,P⟩=>by
  rcases k with _|_|_|_|_|_|_|k
  ·have P:n=f.heap.size:=P
   omega
  ·have:=J n P;omega
  ·have:=H n P;omega
  ·exact P.elim
  ·exact P.elim
  ·have P:n=h:=P
   omega
  ·have:=d1 n P;omega
  ·exact P.elim
 refine PC.ok (zl (h:=e) (z1:=none) (z2:=none) (z3:=none) hp c2 ⟨hT,hL,A.then a1,λn P=>by have:=b7 n P;have:=A.size;omega⟩) ?_;rintro _ e7 ⟨rfl,a6,h',F',y,z,a7⟩;have e8:fM c a2=Cr c:=rfl;rw[e8]at z a6⊢;have a8:ai w e7:=a1.new a7.keep λn P=>.inr (b7 n P);refine⟨_,rfl,al.eu (λj=>Ok.mk ⟨a8,.inl ?_⟩) (λhz=>Ok.mk ⟨a8,.inr ?_⟩)⟩
 ·rw[a4];exact⟨j,rfl⟩
 ·rw[a4]
  exact⟨hz,_,F',rfl,⟨c2,h',y,z⟩,λn P=>(a7.new n P).elim (b7 n) λh5=>by have:=a1.size;omega,a6⟩
end
variable{o:Array Value}{O b7 e r:Int}{a5:List bG}{d9:List bh}{b4:List cZ}{g4:List dX}{c:Nat}{f:ac}{F g8:Nat×Nat}{U Z:Operand}{h:Program}{g q:TypeId}{N:Value->Prop}{b:World}{c7 e7:bh}
def Nf(n:World):(callMethod (.iface 113 (RK a)) "State" #[WP e,WP r]).run LL n= .ok (.enter 401 #[RK a,WP e,WP r]) n:=kR
def HM(n:World):(callMethod (.iface 113 (RK a)) "Entries" #[]).run LL n= .ok (.enter 399 #[RK a]) n:=kR
def QC(n:World):(callMethod (.iface 113 (RK a)) "Rows" #[WP e]).run LL n= .ok (.enter 400 #[RK a,WP e]) n:=kR
def UB(n:aU)(P:List ah)(a b:Int):gO:=match(bU n P).state a b with
 |none=>bS 14
 |some c=>⟨0,(0,0),c,[],[],false⟩
def xC(a:aU)(b:List ah)(P n:Int):gO:=if P<0\/P>=(a.projs.length:Int)then bS 1 else⟨0,(0,0),⟨0,[]⟩,[],(oP (jy a b P) n 32).1,(oP (jy a b P) n 32).2⟩
section
variable {w w' w0 w1 w2:World} {p:Nat} {F E D:ac} {cls:Nat->Nat} {h:kM} {c:bF} {self:Int} {X:bh}
def CT(n:cR w F cls p h c self X):bn 82 #[RK p] w (Ok λP w'=>P= .iface 113 (RK h.bp)/\w=w'):=
 pq ⟨p,0,rfl,_,ae n.bA rfl,Ok.mk ⟨rfl,rfl⟩⟩
def Uv(x:bY w p F c self X):bn 51 #[RK p,WP e,WP r] w (Ok λy w'=>fz w (UB c.decl X.S.l e r) y w'/\ai w w'):=by
 obtain⟨z,h,cls,m⟩:=x;refine qw (PA.mk λA b S B=>PC.ok (CT (cR.af m b)) ?_);rintro _ _ ⟨rfl,rfl⟩;have C:=cR.af m b;have n:de A h.bp (λP=>F P/\cls P=4) c.decl c.every.toNat X.S.l:=C.at' 4;refine⟨_,rfl,_,_,Nf,PC.ok (K_ n) ?_⟩;rintro _ o ⟨g,i,j,G,rfl,k,q,d⟩;have E:=k.aE;have T:=d.size;refine⟨_,_,_,_,_,rfl,PA.mk λU H V I=>PS.mk I sM λW J Y K=>PS.mk K sM λL M Z l=>?_⟩;have a:ai o L:=H.new (J.then M) λP n=>.inr (by have n:P=o.heap.size:=n;omega);have s:=a.get (d.get B id) id;have b0:=a.size;have t:(((bU c.decl X.S.l).state e r).getD Ia).cells.length<=8:=EA (Is z.decl X.S.l).1 ⟨0,0,0,[],e,r,0,0,0,0⟩;unfold UB
 cases N:(bU c.decl X.S.l).state e r with
 |none=>
  refine al.tt rfl (aD (iV (bS 14) none 0 0 none 0 0 none 0 0) s rfl λb1 O b2 Q=>ar (iV (bS 14) none 0 0 none 0 0 none 0 0) Q (Ok.mk ⟨fz.plain rfl rfl rfl,?_⟩));exact((b.then d).then a).new O λP n=>.inr (by have n:P=w.heap.size:=n;omega)
 |some f=>
  rw[N]at k t l;refine al.ff rfl ⟨_,_,_,_,ae l rfl,ae l rfl,aD (iV ⟨0,(0,0),f,[],[],false⟩ g i j none 0 0 none 0 0) s rfl λb3 u b4 R=>ar (iV ⟨0,(0,0),f,[],[],false⟩ g i j none 0 0 none 0 0) R (Ok.mk ⟨?_,?_⟩)⟩
  ·refine⟨g,i,j,none,0,0,none,0,0,G,rfl,((k.af a).keep u λP n v=>by have v:P=w.heap.size:=v;have:=q P n;omega).row dC (by have:f.cells.length<=8:=t;show f.cells.length*32<=aP;unfold aP;omega),dF _ _,dF _ _,λP n=>⟨by have:=q P n;omega,by have:=E P n;omega⟩⟩
  ·exact((b.then d).then a).new u λP n=>.inr (by have n:P=w.heap.size:=n;omega)
def QD(a:aU)(n:List ah)(b:Int):(jy a n b).length<=n.length:=by
 unfold jy;split
 ·simp
 split
 ·simp
 ·rename_i P c
  have e:=NB a n P (QZ c);have d:=(yx (P.rows.map (·.2))).length_eq;rw[Q8]at d;show(P.rows.map (·.2)|>.foldr nI []).length<=_;omega
def O_(A:bY w p F c self X):bn 52 #[RK p,WP e,WP r] w (Ok λd w'=>fz w (xC c.decl X.S.l e r) d w'/\ai w w'):=by
 obtain⟨R,h,cls,B⟩:=A;refine ow (PA.mk λf g S q=>?_);have a:=cR.af B g;have no:(e<0\/e>=(c.decl.projs.length:Int))->oQ LL 46 (RK w.heap.size) (.agg (gh (bS 1) none 0 0 none 0 0 none 0 0).toArray) f λs=>jB LL 46 (RK w.heap.size) s λC=>Ok (λd w'=>fz w (xC c.decl X.S.l e r) d w'/\ai w w') (.returned C) s:=λE=>by
  refine aD (iV (bS 1) none 0 0 none 0 0 none 0 0) q rfl λT H U I=>ar (iV (bS 1) none 0 0 none 0 0 none 0 0) I (Ok.mk ⟨?_,g.new H λn P=>.inr (by have P:n=w.heap.size:=P;omega)⟩);unfold xC;rw[Zx E];exact fz.plain rfl rfl rfl
 have V:=(show bt f (λn=>F n/\cls n=1) c.decl h.ta h.tn h.pa h.pn from a.at' 1).EB.len;refine al.dec (λi=>no (.inl i)) (λi=>⟨p,0,rfl,_,_,_,ae a.bA rfl,al.dec (λt=>no (.inr oM)) (λt=>PC.ok (CT a) ?_)⟩);rintro _ _ ⟨rfl,rfl⟩;have P:de f h.bp (λn=>F n/\cls n=4) c.decl c.every.toNat X.S.l:=a.at' 4;have W:X.S.l.length<=20000000:=P.1.2.2.2;have Y:=QD c.decl X.S.l e;refine⟨_,rfl,_,_,QC,PC.ok (OO P) ?_⟩;rintro _ Z ⟨⟨a0,a1,cc,G,rfl,b,j,hG⟩,J⟩;have hn:=b.len dC;have K:=b.lL;refine⟨_,_,_,rfl,PC.ok (MX (b.row dC cw) b.aE K J oM) ?_⟩;rintro _ L ⟨a2,rfl,k,l,m,M,rfl,u,o,v⟩;have N:=u.aE;have a9:=j.size;have b0:=o.size;have b1:(oP (jy c.decl X.S.l e) r 32).1.length<=32:=by unfold oP;rw[Qy];omega
 have O:ai w L:=(g.then j).then o;refine⟨_,_,_,_,rfl,aD (iV ⟨0,(0,0),⟨0,[]⟩,[],(oP (jy c.decl X.S.l e) r 32).1,(oP (jy c.decl X.S.l e) r 32).2⟩ none 0 0 none 0 0 k l m) (o.get (j.get q id) id) rfl λb2 x b3 Q=>ar (iV ⟨0,(0,0),⟨0,[]⟩,[],(oP (jy c.decl X.S.l e) r 32).1,(oP (jy c.decl X.S.l e) r 32).2⟩ none 0 0 none 0 0 k l m) Q (Ok.mk ⟨?_,O.new x λn P=>.inr (by have P:n=w.heap.size:=P;omega)⟩)⟩;unfold xC;rw[Zq (by rintro(y|y);exact i y;exact t oM)];refine⟨none,0,0,none,0,0,k,l,m,M,rfl,dF _ _,dF _ _,(u.keep x λn P z=>by have z:n=w.heap.size:=z;have:=v n P;omega).row dC (by show(oP (jy c.decl X.S.l e) r 32).1.length*24<=aP;unfold aP;omega),λn P=>⟨by have:=v n P;omega,by have:=N n P;omega⟩⟩
end
def Ds{a:Type}{b:a->Bool}:∀{L:List a} {j:Nat} {n:a},L[j]? =some n->b n=true->(L.filter b)[((L.take j).filter b).length]? =some n
 |[],j,n,P,_=>by simp at P
 |x::L,0,n,P,c=>by simp at P;subst P;simp[c]
 |x::L,j+1,n,P,c=>by
  have d:=Ds (L:=L) (j:=j) (by simpa using P) c;rw[Zw,List.filter_cons,List.filter_cons];split
  ·simpa using d
  ·exact d
section
variable {w w' wz A B w1:World} {D:ac} {a:be} {n c:Nat} {l:List cU} {O R1 R2 f most:Nat} {own L:List (Bx cU)} {pre:List (List Value)}
def Ws(a n:Int)(P:cU):Bool:=P.ev.a_==a&&P.ev.agg==n
def Ex{e:cU}{a:be}{n c:Nat}(i:Row aO 8 w D a n e.ev.aM)(t:∀P,D P->P<w.heap.size):
  bn 132 #[Gk e a n c] w (Ok λu w'=>∃a n c G,u=Gk e a n c/\Row aO 8 w' G a n e.ev.aM/\(∀P,G P->w.heap.size<=P/\P<w'.heap.size)/\ai w w'):=by
 have v:=i.eO;have x:=i.len;refine Ad (PA.mk λw1 m A f=>PA.mk λB g C j=>⟨_,_,_,ae (g.get f id) rfl,PC.ok (bV (i.af (m.then g)) λP b=>by have:=t P b;omega) ?_⟩);rintro _ E ⟨o,p,q,G,rfl,r,h,k⟩;have f:=h.get (g.get f id) id;have j:=h.get j id;have F:=h.size;refine⟨_,_,_,rfl,PS.mk f sM λH l I y=>?_⟩;refine ar (cs:=iP e o p q) (mJ _ _ _ _) y (aD (mJ _ _ _ _) (l.get j (λd=>by have d:w1.heap.size=w.heap.size:=d;omega)) rfl λJ s K z=>ar (mJ _ _ _ _) z (Ok.mk ⟨o,p,q,G,rfl,?_,?_,?_⟩))
 ·refine(((r.keep l λP b d=>?_).keep s λP b d=>?_).row (bytes:=8) dC (by rw[<-x];exact v))
  ·have d:P=w.heap.size:=d;have:=k P b;omega
  ·have d:P=w1.heap.size:=d;have:=k P b;omega
 ·intro P b
  have:=k P b;have:=r.aE P b;omega
 ·exact((((m.then g).then h).new l λP b=>.inr (by have b:P=w.heap.size:=b;omega)).new s λP b=>.inr (by have b:P=w1.heap.size:=b;omega))
def QU{d:cU}{f h:Nat}(j:w.heap[f]? =some (.cells #[WP e] g F))(k:w.heap[h]? =some (.cells #[WP r] q g8)):
  bn 131 #[Gk d a n c,RK f,RK h] w (Ok λl w'=>l= .bool (Ws e r d)/\ai w w'):=by
 refine Ac (PA.mk λw1 P m i=>⟨_,ae i rfl,_,ae (P.get j id) rfl,al.mk (λb=>⟨_,ae i rfl,_,ae (P.get k id) rfl,Ok.mk ⟨?_,P⟩⟩) (λb=>Ok.mk ⟨?_,P⟩)⟩)
 ·unfold Ws;rw[b];rfl
 ·unfold Ws;rw[b];rfl
structure Rj (wz:World) (O:Nat) (own:List (Bx cU)) (f most:Nat) (pre:List (List Value)) (A:World):Prop where
 keep:aj (·=O) wz A
 eO:wz.heap.size+2<=A.heap.size
 nN:∃a n c G,A.heap[O]? =some (.cells #[.slice a n c] 43 (0,0))/\aS xu 193 G A a n c (((own.take pre.length).drop f).map (·.x))/\(∀b,G b->wz.heap.size+2<=b)/\n<=most
structure X_ (wz:World) (O R1 R2:Nat) (own:List (Bx cU)) (f most:Nat) (A:World):Prop where
 keep:aj (λb=>b=O\/b=R1\/b=R2) wz A
 r2:A.heap[R2]? =some (.cells #[.bool true] 4 (0,0))
 more:most<(own.drop f).length
 nN:∃a n c G,A.heap[R1]? =some (.cells #[.slice a n c] 43 (0,0))/\aS xu 193 G A a n c (((own.drop f).take most).map (·.x))/\(∀b,G b->wz.heap.size+2<=b)
def Rj.af(b:Rj wz O own f most pre A)(P:ai A B):Rj wz O own f most pre B:=by
 obtain⟨d,e,a,n,c,G,g,h,i⟩:=b;exact⟨d.af P,Xx e P.size,a,n,c,G,P.get g id,h.af P,i⟩
def Rj.fv(o:O<wz.heap.size)(h:Rj wz O own f most pre A)(i:qY (wz.heap.size+1) A B):Rj wz O own f most pre B:=by
 obtain⟨j,p,a,n,c,G,k,l,g,m⟩:=h;obtain⟨e,q⟩:=i;exact⟨j.new e λb d=>.inr (by have d:b=wz.heap.size+1:=d;omega),oM,a,n,c,G,e.get k (λP=>by have P:O=wz.heap.size+1:=P;omega),l.keep e λb d P=>by have P:b=wz.heap.size+1:=P;have:=g b d;omega,g,m⟩
def X_.fv(q:O<wz.heap.size/\R1<wz.heap.size/\R2<wz.heap.size)(h:X_ wz O R1 R2 own f most A){k:Nat}(r:wz.heap.size<=k/\k<=wz.heap.size+1)(i:qY k A B):X_ wz O R1 R2 own f most B:=by
 obtain⟨j,l,m,a,n,c,G,o,p,g⟩:=h;obtain⟨b,s⟩:=i;exact⟨j.new b λd e=>.inr (by have e:d=k:=e;omega),b.get l (λP=>by have P:R2=k:=P;omega),m,a,n,c,G,b.get o (λP=>by have P:R1=k:=P;omega),p.keep b λd e P=>by have P:d=k:=P;have:=g d e;omega,g⟩
def VL{p s t u:Nat}{R:bc}{Rx:bc}(hO:O<wz.heap.size)(Y:wz.heap[p]? =some (.cells #[WP e] g F))(Z:wz.heap[s]? =some (.cells #[WP r] q g8))(h1:p≠O)(h2:s≠O)(v:∃j f,wz.heap[t]? =some (.cells #[.slice a n c] j f))(h3:t≠O)(w:∃j f,wz.heap[u]? =some (.cells #[.func (.func 131) #[] #[RK p,RK s]] j f))(h4:u≠O)(I:Row Nx.kO 120 wz D a n L)(hD:∀P,D P->P<wz.heap.size/\P≠O)(J:own=L.filter λP=>Ws e r P.x)(b6:L.length<=20000000)(hR:∀A B,R A->aj (oZ wz) A B->R B)(hy:∀pre l A,Rj wz O own f most pre A->R A->uj [WP 0,Gk ⟨sS,false,(0,0)⟩ none 0 0] l->(∃P,own[pre.length]? =some P/\l=[WP (pre.length:Int),Gk P.x P.a P.n P.c])->kV LL (wz.heap.size+1) l A λP d=>(P=true/\Rj wz O own f most (pre++[l]) d/\R d)\/(P=false/\X_ wz O R1 R2 own f most d/\Rx d))(K:Rj wz O own f most [] w1)(a4:R w1):
  bn 189 #[.func (.yield (wz.heap.size+1)) #[] #[],RK t,RK u] w1 (λj d=>(∃a0,j= .returned a0)/\((R d/\∃k:List (List Value),Rj wz O own f most k d/\k.length=own.length)\/(X_ wz O R1 R2 own f most d/\Rx d))):=by
 obtain⟨e3,f3,v⟩:=v;obtain⟨e4,f4,w⟩:=w;have hn:=I.len;refine vZ ⟨_,_,_,ae (K.keep.get v h3) rfl,λM a1 x w'=>∃(b:Nat) (pre:List (List Value)),x=b/\b<=n/\M=n-b/\a1=(pre.length:Int)/\pre.length=((L.take b).filter λP=>Ws e r P.x).length/\Rj wz O own f most pre w'/\R w',⟨_,0,[],rfl,Qj _,rfl,rfl,rfl,K,a4⟩,?_⟩;rintro M _ _ _ N ⟨b,pre,rfl,hj,rfl,rfl,i,m,Q⟩;refine al.dec (λb7=>?_) (λb8=>?_)
 ·obtain⟨P,h⟩:∃P,L[b]? =some P:=⟨_,Qq oM⟩
  obtain⟨a2,a3,es,ha,a5,a6,y,rfl,-⟩:=(I.keep m.keep λP h=>(hD P h).2).el b P h;have b3:pre.length<=20000000:=by
   rw[i];have h5:=List.length_filter_le (λP:Bx cU=>Ws e r P.x) (L.take b);have h6:=List.length_take_le b L;omega
  refine⟨a2,a3,ha,oM,oM,bJ (es:=iP P.x P.a P.n P.c) (k:=13) (mJ _ _ _ _) rfl (λx ht=>by rw[Qx];exact y x ht) (PA.mk λb9 a7 c1 a8=>aD (mJ P.x P.a P.n P.c) a8 rfl λa9 b0 c2 S=>?_)⟩;have T:ai N a9:=a7.new b0 λP h=>.inr (by have h:P=N.heap.size:=h;omega);have z:=m.af T;refine⟨_,ae (z.keep.get w h4) rfl,ar (mJ P.x P.a P.n P.c) S ⟨_,_,_,rfl,kR,PC.ok (QU (z.keep.get Y h1) (z.keep.get Z h2)) ?_⟩⟩;rintro _ b1 ⟨rfl,U⟩;have V:=T.then U;have W:=m.af V;have X:=hR _ _ Q (ai.keep V);refine⟨_,rfl,al.not (al.mk (λo=>?_) (λo=>⟨_,oM,b+1,pre,an oM,oM,rfl,rfl,?_,W,X⟩))⟩
  rotate_left
  ·rw[Qw,h,List.filter_append,i];simp[o]
  refine ar (mJ P.x P.a P.n P.c) (U.get S id) ⟨_,rfl,(hy pre _ b1 W X ?_ ⟨P,?_,rfl⟩).mono ?_⟩
  ·exact λφ C=>C pre.length P.x.ev.origin P.x.ev.seq P.x.ev.aC P.a P.n P.c P.x.ev.a_ P.x.ev.agg P.x.ev.field P.x.ev.op P.x.ev.arg P.x.ev.key P.x.void P.x.Gj.1 P.x.Gj.2
  ·rw[J,i];exact Ds h o
  ·rintro b' d (⟨rfl,E,b5⟩|⟨rfl,H,b2⟩)
   ·refine al.ff rfl ⟨_,oM,b+1,pre++[_],an oM,oM,rfl,?_,?_,E,b5⟩
    ·rw[an oM];simp
    ·rw[Qw,h,List.filter_append,QX,QX,<-i];simp[o]
   ·exact al.tt rfl ⟨⟨_,rfl⟩,.inr ⟨H,b2⟩⟩
 ·rw[Qz oM]at i
  exact⟨⟨_,rfl⟩,.inl ⟨Q,pre,m,by rw[J];exact i⟩⟩
end
section
variable {w w' wz A B w1:World} {D:ac} {a:be} {n c:Nat} {l:List cU}
def Kr{most:Nat}(I:Row xu 120 w D a n l)(hD:∀P,D P->P<w.heap.size)(hm:most<=1000)(hl:l.length<=20000000)(l5:aH O):
  bn 81 #[.slice a n c,WP e,WP r,WP O,WP (most:Int)] w (Ok λa6 w'=>∃N,a6= .tuple #[N,.bool (lH l e r O most).2]/\qh xu 193 w (lH l e r O most).1 N w'):=by
 obtain⟨V,c3,hL,e9⟩:=fw.boxes (N:=Nx) I;have l7:V.length=l.length:=by rw[<-c3,Q8]
 obtain⟨own,p⟩:∃own,own=V.filter λP=>Ws e r P.x:=⟨_,rfl⟩
 obtain⟨i,hf⟩:∃i:Nat,i=(max O 0).toNat:=⟨_,rfl⟩
 have c7:own.map (·.x)=l.filter λb=>b.ev.a_==e&&b.ev.agg==r:=by rw[p,<-c3,List.filter_map];rfl
 have f2:lH l e r O most=(((own.drop i).take most).map (·.x),decide (most<(own.drop i).length)):=by
  unfold lH;rw[<-c7,<-hf];simp only[List.map_take,List.map_drop,XZ,Q8]
 rw[f2];have g0:own.length<=20000000:=by rw[p];have:=List.length_filter_le (λP:Bx cU=>Ws e r P.x) V;omega
 refine Ed (PA.mk λw6 k6 s6 g6=>PA.mk λv k7 s7 g7=>PA.mk λw8 k8 s8 g8=>PA.mk λj k9 s9 g9=>PA.mk λk a0 l8 g1=>PA.mk λm W l9 g2=>PA.mk λg5 Q m0 h8=>?_);have a7:=(((k8.then k9).then a0).then W).then Q;have c8:=a7.get (show v.heap[w6.heap.size]? =_ from g7) id;have l6:(if 0>(if False then(0:Int)else O)then 0 else O)=(i:Int):=by simp;split<;>omega
 refine⟨_,ae ((((k9.then a0).then W).then Q).get g8 id) rfl,?_⟩;have h9:(if 0>O then(0:Int)else O)=(i:Int):=by rw[hf];split<;>omega
 rw[h9];refine PS.mk ((((k9.then a0).then W).then Q).get g8 id) sM λE J m1 i0=>?_;have c9:E.heap[v.heap.size]? =some (.cells #[WP (i:Int)] 3 (0,0)):=i0;have d0:ai w g5:=((k6.then k7).then a7)
 have d1:ai w E:=d0.new J λP d=>.inr (by have d:P=v.heap.size:=d;omega);have d2:=J.get ((k7.then a7).get g6 id) (λb=>by have b:w.heap.size=v.heap.size:=b;omega);have d3:=J.get c8 (λb=>by have b:w6.heap.size=v.heap.size:=b;omega);have d6:=J.get (((a0.then W).then Q).get g9 id) (λb=>by have b:w8.heap.size=v.heap.size:=b;omega);have d7:=J.get ((W.then Q).get g1 id) (λb=>by have b:j.heap.size=v.heap.size:=b;omega);have d9:=J.get (Q.get g2 id) (λb=>by have b:k.heap.size=v.heap.size:=b;omega);have e2:=J.get h8 (λb=>by have b:m.heap.size=v.heap.size:=b;omega);refine PC.ok (φ:=λa6 w'=>a6= .func (.func 189) #[] #[RK E.heap.size,.pointer (some ⟨E.heap.size+1,0,none⟩)]/\w'.heap[E.heap.size]? =some (.cells #[.slice a n c] 43 (0,0))/\(∃b ff,w'.heap[E.heap.size+1]? =some (.cells #[.func (.func 131) #[] #[RK w.heap.size,RK w6.heap.size]] b ff))/\ai E w'/\w'.heap.size=E.heap.size+2)
  (BC (PA.mk λw3 k3 s3 g3=>PA.mk λw4 k4 s4 g4=>Ok.mk ⟨by rw[s3],k4.get g3 id,⟨_,_,by rw[<-s3];exact g4⟩,k3.then k4,oM⟩)) ?_
 rintro _ wz ⟨rfl,i1,i2,y,sz⟩;have h:=d1.then y;have a8:=y.get d2 id;have a9:=y.get d3 id;have b0:=y.get d6 id;have b1:=y.get c9 id;have K:=y.get d7 id;have L:=y.get d9 id;have X:=y.get e2 id;have Y:m.heap.size<wz.heap.size:=az X;have d4:j.heap.size<wz.heap.size:=az K;have d5:k.heap.size<wz.heap.size:=az L;have b2:∀P,D P->P<wz.heap.size/\P≠m.heap.size:=λP d=>⟨by have:=hD P d;have:=h.size;omega,λb=>by have:=hD P d;omega⟩
 have e3:∀P∈V,Nx.In wz D P:=λP d=>(e9 P d).keep h λ_ _ I=>I;have e4:∀{c0:Nat} {P:Bx cU},own[c0]? =some P->P∈V:=λ{c0 P} d=>by
  have:=QZ d;rw[p]at this;exact(List.mem_filter.1 this).1
 refine⟨_,rfl,189,_,rfl,kR,Unit,(),λ_=>Rj wz m.heap.size own i most,λN _ A=>N= .ret/\X_ wz m.heap.size j.heap.size k.heap.size own i most A,
  λf R=>∃P,own[f.length]? =some P/\R=[WP (f.length:Int),Gk P.x P.a P.n P.c],λz=>z.length=own.length,?_,λ_ f A B M t=>M.fv Y t,λN f A B hx t=>⟨hx.1,hx.2.fv ⟨Y,d4,d5⟩ ⟨oM,oM⟩ t⟩,?_,?_,?_,?_,trivial⟩
 ·intro w1 hk hs
  refine⟨ai.keep hk,oM,none,0,0,λ_=>False,hk.get X id,?_,λP d=>d.elim,Qj _⟩;simpa using aS.nil w1
 ·rintro _ f A M m2 m3 m4 m5 m6 ta tn tc m7 m8 m9 n0 n1 n3 n4 n8 n9 ⟨P,d,he⟩
  simp only[iP,aF,List.cons_append,List.nil_append,List.cons.injEq,Value.agg.injEq,Array.mk.injEq,Value.int.injEq,XX,Value.bool.injEq,and_true,true_and]at he;obtain⟨rfl,rfl,rfl,rfl,⟨rfl,rfl,rfl⟩,rfl,rfl,rfl,rfl,rfl,rfl,rfl,rfl,rfl⟩:=he;have o0:f.length<own.length:=(Qv.1 d).1;refine PA.mk λo1 i3 o2 i4=>aD (mJ P.x P.a P.n P.c) i4 rfl λi5 i6 o3 i7=>?_;have c1:ai A i5:=i3.new i6 λP d=>.inr (by have d:P=A.heap.size:=d;omega);refine⟨ai.keep c1,λb3 t=>?_⟩;have c2:=(M.af c1).fv Y t;have i8:=t.1.get i7 (λb=>by have b:A.heap.size=wz.heap.size+1:=b;omega);have o4:=t.2;have Z:=c2.keep;have c4:∀R:List Value,(((own.take (f++[R]).length).drop i)=if f.length<i then []else((own.take f.length).drop i)++[P]):=λR=>by
   rw[QX,List.length_singleton,Qw,d];have i9:(own.take f.length).length=f.length:=by rw[Qy];omega
   split
   ·rename_i q
    exact List.drop_eq_nil_of_le (by rw[QX,i9];simp;omega)
   ·rename_i q
    rw[List.drop_append_of_le_length oM];rfl
  obtain⟨o,x,C,F,S,G,u,s,q,h6⟩:=c2;have a1:=s.len dC;rw[Q8,XZ,Qy,X2 oM]at a1;refine⟨_,ae (Z.get b1 (λb=>by have b:v.heap.size=m.heap.size:=b;omega)) rfl,al.dec (λo5=>⟨aj.refl _,?_⟩) (λo6=>⟨_,_,_,ae u rfl,_,ae (Z.get b0 (λb=>by have b:w8.heap.size=m.heap.size:=b;omega)) rfl,al.dec (λj0=>?_) (λj1=>λd8 j2=>?_)⟩)⟩
  ·refine⟨o,x,C,F,S,G,u,?_,q,h6⟩
   rw[c4,Zx oM];rw[List.drop_eq_nil_of_le (by rw[Qy];omega)]at s;exact s
  ·have e6:F=most:=oM
   have b4:=Z.get K (λb=>by have b:j.heap.size=m.heap.size:=b;omega);have b5:=Z.get L (λb=>by have b:k.heap.size=m.heap.size:=b;omega);refine⟨_,_,_,ae u rfl,PS.mk b4 sM λo7 e0 o8 j3=>PS.mk (e0.get b5 (λb=>by have b:k.heap.size=j.heap.size:=b;omega)) sM λj4 e1 o9 j5=>?_⟩;have T:aj (λP=>P=j.heap.size\/P=k.heap.size) b3 j4:=(e0.mono λP _ b=>.inl b).then (e1.mono λP _ b=>.inr b);have j6:(own.drop i).take most=(own.take f.length).drop i:=by
    rw[<-e6,a1,List.drop_take]
   refine⟨T.mono λP _ d=>⟨by rcases d with rfl|rfl<;>omega,by rcases d with rfl|rfl<;>omega⟩,.inl rfl,rfl,(o.mono λP _ b=>.inl b).then (T.mono λP _ b=>.inr b),j5,by rw[XZ];omega,C,F,S,G,e1.get j3 (λb=>by have b:j.heap.size=k.heap.size:=b;omega),?_,q⟩;rw[j6];exact s.keep T λP d b=>by have:=q P d;rcases b with rfl|rfl<;>omega
  ·have U:ai b3 d8:=j2.keep
   have c5:=(e3 P (e4 d)).keep Z λP d b=>(b2 P d).2 b;have e7:Row aO 8 d8 D P.a P.n P.x.ev.aM:=c5.1.af U;have e8:P.x.ev.Ok:=c5.2;refine⟨λ_=>False,id,_,_,_,ae (U.get u id) rfl,ar (mJ P.x P.a P.n P.c) (U.get i8 id) (PC.ok (Ex e7 λP d=>by have:=(b2 P d).1;have:=U.size;omega) ?_)⟩;rintro _ p0 ⟨f0,n2,f1,G2,rfl,j7,b6,b7⟩;have p1:=U.size;have p2:=b7.size;refine⟨_,_,_,_,_,_,_,_,_,_,_,_,_,_,_,rfl,b7,PA.mk λp3 b8 p4 j8=>⟨b8,?_⟩⟩;have a2:=(U.then b7).then b8;refine fV (c:=xu) (x:=P.x) (s.af a2) TP j8 (D:=G2) ⟨f0,n2,f1,rfl,j7.af b8,e8⟩ (λP d=>⟨by have:=b6 P d;omega,λb=>by have:=s.aE P (s.self P b);have:=b6 P d;omega⟩) (by rw[Q8,XZ,Qy];unfold aP;omega) (by rw[Q8,XZ,Qy];unfold maxLen;omega) λa' c' p5 F' f3 b9 j9=>⟨_,_,_,rfl,?_⟩
   have g:∀P,aI C=some P->wz.heap.size+2<=P:=λP d=>q P (s.self P d);have k0:¬aI C=some m.heap.size:=λb=>by have:=g _ b;omega
   have p6:=b9.size;have p7:=a2.size;have H:∀P,F' P->wz.heap.size+2<=P:=λP d=>by
    rcases j9 P d with h7|h7|h7
    ·exact q P h7
    ·have:=b6 P h7;omega
    ·omega
   refine PS.mk (b9.get (a2.get u id) k0) sM λk1 e5 p8 k2=>?_;have T:aj (λP=>aI C=some P\/P=m.heap.size) b3 k1:=((ai.keep a2).then (b9.mono λP _ b=>.inl b)).then (e5.mono λP _ b=>.inr b);refine⟨T.mono λP _ d=>⟨?_,?_⟩,⟨(o.new (T.mono λP _ b=>b) λP d=>d.elim (λb=>.inr (by have:=g P b;omega)) .inl),oM,a',F+1,c',F',k2,?_,H,oM⟩⟩
   ·rcases d with d|rfl
    ·have:=g P d;omega
    ·omega
   ·rcases d with d|rfl
    ·have:=g P d;omega
    ·omega
   ·rw[c4,Zq oM,Q3]
    exact f3.keep e5 λP d b=>by have b:P=m.heap.size:=b;have:=H P d;omega
 ·intro f4 Rx hR _ p9 hy w1 k5 f5
  refine Calls.mono (VL (own:=own) (f:=i) (most:=most) (R:=f4) (Rx:=Rx .ret) (R1:=j.heap.size) (R2:=k.heap.size) Y a8 a9 oM oM ⟨_,_,y.size|>λ_=>i1⟩ oM i2 oM (hL.af h) b2 p oM hR (λf R A M l0 t hN=>(hy () f R A M l0 t hN).mono ?_) k5 f5) ?_
  ·rintro P A' (I|⟨o,N,⟨rfl,x⟩,u⟩)
   ·exact .inl I
   ·exact .inr ⟨o,x,u⟩
  ·rintro b A' ⟨hv,I⟩
   refine⟨hv,?_⟩;rcases I with⟨o,z,x,u⟩|⟨o,x⟩
   ·exact .inl ⟨o,(),z,x,u⟩
   ·exact .inr ⟨.ret,[],⟨rfl,o⟩,x⟩
 ·rintro _ z A M c6 hm
  obtain⟨o,x,C,F,S,G,u,s,q,h6⟩:=M;have a1:=s.len dC;rw[c6,List.take_length]at s;rw[c6,List.take_length,Q8,XZ]at a1;have b4:=o.get K (λb=>by have b:j.heap.size=m.heap.size:=b;omega);have b5:=o.get L (λb=>by have b:k.heap.size=m.heap.size:=b;omega);refine⟨_,_,_,ae u rfl,PS.mk b4 sM λq0 a3 q1 l3=>PS.mk (a3.get b5 (λb=>by have b:k.heap.size=j.heap.size:=b;omega)) sM λq2 a4 q3 l4=>?_⟩;refine⟨a4.get (a3.get hm (λb=>by have b:wz.heap.size=j.heap.size:=b;omega)) (λb=>by have b:wz.heap.size=k.heap.size:=b;omega),λq4 t=>?_⟩;have a5:=t.1;have f6:=a5.get (a4.get l3 (λb=>by have b:j.heap.size=k.heap.size:=b;omega)) (λb=>by have b:j.heap.size=wz.heap.size:=b;omega);have f7:=a5.get l4 (λb=>by have b:k.heap.size=wz.heap.size:=b;omega);refine⟨_,_,_,ae f6 rfl,_,ae f7 rfl,Ok.mk ⟨_,?_,C,F,S,G,rfl,?_,?_,λP d=>by have:=q P d;have:=h.size;omega⟩⟩
  ·rw[Xv (by rw[XZ];omega)]
  ·rw[Qz (by rw[XZ];omega)]
   exact((s.keep a3 λP d b=>by have b:P=j.heap.size:=b;have:=q P d;omega).keep a4 λP d b=>by have b:P=k.heap.size:=b;have:=q P d;omega).keep a5 λP d b=>by have b:P=wz.heap.size:=b;have:=q P d;omega
  ·refine(((h.new o λP d=>.inr (by have d:P=m.heap.size:=d;omega)).new a3 λP d=>.inr (by have d:P=j.heap.size:=d;omega)).new a4 λP d=>.inr (by have d:P=k.heap.size:=d;omega)).new a5 λP d=>.inr (by have d:P=wz.heap.size:=d;have:=h.size;omega)
 ·rintro f A ⟨-,hx⟩ hm
  refine⟨hm,λq5 t=>?_⟩;obtain⟨o,x,f8,C,F,S,G,u,s,q⟩:=hx.fv ⟨Y,d4,d5⟩ ⟨oM,oM⟩ t;refine⟨_,_,_,ae u rfl,_,ae x rfl,Ok.mk ⟨_,by rw[Zy f8],C,F,S,G,rfl,s,?_,λP d=>by have:=q P d;have:=h.size;omega⟩⟩;exact h.new o λP d=>.inr (by rcases d with d|d|d<;>omega)
end
def vy(P:aU)(a:List ah)(b c n:Int):gO:=⟨0,(0,0),⟨0,[]⟩,(lH (bU P a).entries b c n 32).1,[],(lH (bU P a).entries b c n 32).2⟩
section
variable {w w' w0 w1 w2:World} {p:Nat} {F E D:ac} {cls:Nat->Nat} {h:kM} {c:bF} {self:Int} {X:bh}
def LA(s:bY w p F c self X)(t:aH O):bn 50 #[RK p,WP e,WP r,WP O] w (Ok λu w'=>fz w (vy c.decl X.S.l e r O) u w'/\ai w w'):=by
 obtain⟨I,h,cls,j⟩:=s;refine nk (PA.mk λv a J x=>PC.ok (CT (cR.af j a)) ?_);rintro _ _ ⟨rfl,rfl⟩;have y:=cR.af j a;have n:de v h.bp (λP=>F P/\cls P=4) c.decl c.every.toNat X.S.l:=y.at' 4;have z:=(xt c.decl X.S.l n.1.2.2.2).1;refine⟨_,rfl,_,_,HM,PC.ok (Gp n) ?_⟩;rintro _ K ⟨L,M,N,G,rfl,k,b,Q⟩;refine⟨_,_,_,rfl,PC.ok (Kr (most:=32) (k.row dC cw) k.aE oM z t) ?_⟩;rintro _ A ⟨R,rfl,d,f,g,B,rfl,l,i,m⟩;have C:=l.aE;have S:=b.size;have T:=i.size;have U:(lH (bU c.decl X.S.l).entries e r O 32).1.length<=32:=by unfold lH;rw[Qy];omega
 have E:ai w A:=(a.then b).then i;refine⟨_,_,_,_,rfl,aD (iV (vy c.decl X.S.l e r O) none 0 0 d f g none 0 0) (i.get (b.get x id) id) rfl λV o W H=>ar (iV (vy c.decl X.S.l e r O) none 0 0 d f g none 0 0) H (Ok.mk ⟨?_,E.new o λP n=>.inr (by have n:P=w.heap.size:=n;omega)⟩)⟩;refine⟨none,0,0,d,f,g,none,0,0,B,rfl,dF _ _,(l.keep o λP n q=>by have q:P=w.heap.size:=q;have:=m P n;omega).row dC (by show(lH (bU c.decl X.S.l).entries e r O 32).1.length*120<=aP;unfold aP;omega),dF _ _,λP n=>⟨by have:=m P n;omega,by have:=C P n;omega⟩⟩
end
structure ei where
 kind:Int
 n:Int
 m:Int
 cmd:jT
structure ei.Ok (s:ei):Prop where
 kind:aH s.kind
 n:aH s.n
 m:aH s.m
 cmd:s.cmd.Ok
def dh(n:ei):List Value:=[WP n.kind,WP n.n,WP n.m]++fh n.cmd
abbrev gA(n:ei):Value:=.agg (dh n).toArray
structure cH where
 aA:List bh
 dP:List bG
 now:Int
def vw:bG:=⟨0,0,0,[],[]⟩
def eH(P:List bG)(n:Int):Option bG:=if 0<=n then P[n.toNat]? else none
def gP(n:List bG)(P:Int):List bG:=if(eH n P).isSome then n.eraseIdx P.toNat else n
def EH(n P:List bG):List bG:=n++P.take (1024-n.length)
def e_(P:List bh)(n:Int):Option bh:=if 0<=n then P[n.toNat]? else none
def gQ(a:bF)(b:Int)(P:bh)(n:ei):gO×bh:=
 if n.kind=1 then(if(eU a b P n.cmd).1≠0 then bS (eU a b P n.cmd).1 else IW (eU a b P n.cmd).2.1,(eU a b P n.cmd).2.2)else
 if n.kind=7 then(bS (ie a P n.m).1,(ie a P n.m).2)else
 if n.kind=8 then(bS (dR a P).1,(dR a P).2)else
 if n.kind=9 then(vy a.decl P.S.l n.cmd.a_ n.cmd.agg n.m,P)else
 if n.kind=10 then(UB a.decl P.S.l n.cmd.a_ n.cmd.agg,P)else
 if n.kind=11 then(xC a.decl P.S.l n.cmd.field n.m,P)else
 (bS 0,{P with D:=P.D.GJ n.m})
def cH.put(n:cH)(P:Int)(a:bh)(b:List bG):cH:=⟨n.aA.set P.toNat a,EH n.dP b,n.now⟩
def gi(a:bF)(P:cH):Option bG->gO×cH
 |none=>(bS 14,P)
 |some n=>match e_ P.aA n.m_ with
  |none=>(bS 1,P)
  |some b=>(bS (cy a n.m_ b n).2.1,P.put n.m_ (cy a n.m_ b n).2.2 (cy a n.m_ b n).1)
def fX(n:cH)(P:Nat):cH:=match n.aA[P]? with
 |none=>n
 |some a=>n.put P (pX P a n.now).2 (pX P a n.now).1
def IQ(n:cH):cH:=(List.range n.aA.length).foldl fX ⟨n.aA,n.dP,n.now+1⟩
def cB(a:bF)(P:cH)(n:ei):gO×cH:=
 if n.kind=3 then gi a ⟨P.aA,gP P.dP n.n,P.now⟩ (eH P.dP n.n)else
 if n.kind=5 then gi a P (eH P.dP n.n)else
 if n.kind=4 then(bS (if(eH P.dP n.n).isSome then 0 else 14),⟨P.aA,gP P.dP n.n,P.now⟩)else
 if n.kind=6 then(bS 0,IQ P)else
 if n.kind<1\/12<n.kind then(bS 2,P)else
 match e_ P.aA n.n with
 |none=>(bS 1,P)
 |some b=>
  if n.kind=2 then(if(e_ P.aA n.m).isNone\/n.m=n.n then(bS 1,P)else(bS 0,P.put n.n (fg a n.n b n.m P.now).2 (fg a n.n b n.m P.now).1))
  else((gQ a n.n b n).1,⟨P.aA.set n.n.toNat (gQ a n.n b n).2,P.dP,P.now⟩)
def sJ(n:bF):Int×cH:=((cC n 0).1,⟨List.replicate n.aA.toNat (cC n 0).2,[],0⟩)
structure Fit (k:Nat) (R:bh):Prop where
 evs:R.S.l.length<=16777216+300*k
 asked:R.gJ.asked.length<=k
def Fit.IK(h:Fit a c7)(n:ku c7 e7):Fit (a+1) e7:=⟨by have:=h.evs;rcases n.evs with h|h<;>omega,by have:=h.asked;have:=n.asked;omega⟩
def Fit.mono(n:Fit a c7):Fit (a+1) c7:=⟨by have:=n.evs;omega,by have:=n.asked;omega⟩
def Fit.tick(P:Fit a c7)(b n:Int):Fit a (pX b c7 n).2:=⟨P.evs,by unfold pX;dsimp only;rw[kQ.Sc];exact P.asked⟩
structure eD (k:Nat) (X:cH):Prop where
 aA:∀R∈X.aA,Fit k R
 Lu:0<=X.now
 now:X.now<=k
section
variable {c:bF} {X:cH} {k:Nat} {i:Int} {R R':bh} {s:ei} {ms:List bG} {f:List bG}
def ck{i:Nat}:e_ d9 (i:Int)=d9[i]? :=by
 unfold e_;rw[Zx oM,Qx]
def ej(n:e_ d9 i=some R):∃P:Nat,i=P/\d9[P]? =some R:=by
 unfold e_ at n;split at n
 ·exact⟨i.toNat,oM,n⟩
 ·cases n
def Ls:e_ d9 i=none↔i<0\/(d9.length:Int)<=i:=by
 unfold e_;split
 ·rw[List.getElem?_eq_none_iff];omega
 ·simp;omega
def LN{i:Int}(n:i<0\/(a5.length:Int)<=i):eH a5 i=none:=by
 unfold eH;split
 ·exact Q7 oM
 ·rfl
def eD.mono(n:eD k X):eD (k+1) X:=⟨λR P=>(n.aA R P).mono,n.Lu,by have:=n.now;omega⟩
def eD.dP(n:eD k X):eD k ⟨X.aA,f,X.now⟩:=⟨n.aA,n.Lu,n.now⟩
def eD.put(n:eD k X)(P:Fit (k+1) R'):eD (k+1) (X.put a R' ms):=⟨λb c=>(List.mem_or_eq_of_mem_set c).elim (λd=>(n.aA b d).mono) λe=>e▸P,n.Lu,by have n:=n.now;show X.now<=_;omega⟩
def eD.stay(n:eD k X){j:Nat}(P:Fit k R'):eD k (X.put j R' ms):=⟨λa b=>(List.mem_or_eq_of_mem_set b).elim (n.aA a) λc=>c▸P,n.Lu,n.now⟩
def GI(n:e_ X.aA i=some R):(⟨X.aA.set i.toNat R,X.dP,X.now⟩:cH)=X:=by
 obtain⟨b,rfl,P⟩:=ej n;obtain⟨c,a⟩:=Qv.1 P;rw[Qx,<-a,List.set_getElem_self]
def Bo(P:s.kind=9\/s.kind=10\/s.kind=11):(cB c X s).2=X:=by
 unfold cB;rw[Zq oM,Zq oM,Zq oM,Zq oM,Zq oM];split
 ·rfl
 ·rename_i R n
  rw[Zq oM];have:(gQ c s.n R s).2=R:=by
   unfold gQ;rw[Zq oM,Zq oM,Zq oM];split
   ·rfl
   split
   ·rfl
   rw[Zx oM]
  rw[this];exact GI n
def Pb(a:0<=i)(b:i<max 1 (min c.aA 64)):(cC c i).1=(cC c 0).1/\(cC c i).2=(cC c 0).2:=by
 have:fQ c i=fQ c 0:=by
  unfold fQ within
  by_cases d:1<=c.aA/\c.aA<=64
  ·have n:(decide (0<=i)&&decide (i<=c.aA-1))=true:=by simp;omega
   have P:(decide (0<=(0:Int))&&decide (0<=c.aA-1))=true:=by simp;omega
   rw[n,P]
  ·have n:(decide (1<=c.aA)&&decide (c.aA<=64))=false:=by simp;omega
   simp only[n,Bool.false_and]
 unfold cC;rw[this];exact⟨rfl,rfl⟩
def IT(P:(cC c i).1=0):1<=c.aA/\c.aA<=64/\dt c.decl=0/\fQ c i=true:=by
 unfold cC at P;split at P
 ·contradiction
 rename_i a;split at P
 ·cases P
 ·rename_i n
  have n:fQ c i=true:=by simpa using n
  have b:=n;unfold fQ within at n;simp only[QK,Zk]at n;exact⟨oM,oM,Classical.not_not.1 a,b⟩
end
def Xa:(do eqGuard .neq 39 U Z (.agg #[WP e,WP r]) (.agg #[WP O,WP b7]);binOp .neq 39 (.agg #[WP e,WP r]) (.agg #[WP O,WP b7]):Sem Value).run LL b= .ok (.bool (!(e==O&&r==b7))) b:=by
 have n:=Hr (x:=U) (y:=Z) (a:=e) (b:=r) (c:=O) (d:=b7) (w:=b);rw[Sem.run_bind,run_eqGuard_agg b .eql _ U Z _ _ kR,Result.andThen_ok,run_eql_struct]at n;rw[Sem.run_bind,run_eqGuard_agg b .neq _ U Z _ _ kR,Result.andThen_ok,run_neq_struct];generalize(Op.equalIn 10000 39 (.agg #[WP e,WP r]) (.agg #[WP O,WP b7])).run LL b=P at n⊢
 cases P with
 |ok a c=>simp only[Result.andThen_ok,Result.ok.injEq,Value.bool.injEq]at n⊢;obtain⟨rfl,rfl⟩:=n;exact⟨rfl,rfl⟩
 |_=>simp[Result.andThen]at n
def Xb(P:dX)(a:World):(do eqGuard .neq 195 U Z (.agg (bq P).toArray) (.agg (bq P).toArray);binOp .neq 195 (.agg (bq P).toArray) (.agg (bq P).toArray):Sem Value).run LL a= .ok (.bool false) a:=by
 have d:Tryz.prog.underlying 195=some (.struct (Tryz.prog.fieldsOf 195)):=kR
 have b:Tryz.prog.underlying 3=some (.int .i64):=kR
 have n:(Tryz.prog.fieldsOf 195).toList.map (λc=>(c.name,c.type,c.offset))=[("Group",3,0),("Value",3,1),("Count",3,2)]:=kR
 rw[Sem.run_bind,run_eqGuard_agg a .neq _ U Z _ _ kR,Result.andThen_ok,run_neq_struct,run_equalIn_struct a 9999 _ _ _ d kR];generalize(Tryz.prog.fieldsOf 195).toList=e at n
 match e,n with
 |[c,t,u],n=>
  simp only[QY,List.map_nil,List.cons.injEq,Prod.mk.injEq,and_true]at n;obtain⟨⟨f,g,h⟩,⟨i,j,k⟩,l,m,o⟩:=n;have p:(isAgg 3).run LL a= .ok false a:=di _ _ _ kR ⟨_,b⟩ a;have q:=run_equalIn_int (P:=LL) a 9998 3 .i64 .i64 P.group P.group b;have r:=run_equalIn_int (P:=LL) a 9998 3 .i64 .i64 P.value P.value b;have s:=run_equalIn_int (P:=LL) a 9998 3 .i64 .i64 P.count P.count b;unfold Op.eqFields Op.eqFields Op.eqFields Op.eqFields;rw[f,g,h,i,j,k,l,m,o];simp[part,p,q,r,s,bq]
 |[],n=>simp at n
 |[_],n=>simp at n
 |[_,_],n=>simp at n
 |_::_::_::_::_,n=>simp at n
section
variable {w w':World} {D E:ac} {a b:be} {n m c d:Nat}
def Ej(f:Row fy 32 w D a n b4)(h:Row fy 32 w E b m b4):bn 98 #[.slice a n c,.slice b m d] w (Ok λu w'=>u= .bool true/\ai w w'):=by
 have F:=f.len;have H:=h.len;have v:=f.eO;unfold aP at v;refine Ab (al.eu (λe=>Zz oM e) (λ_=>?_));refine⟨λj i w'=>∃P:Nat,i=P/\P<=n/\j=n-P/\ai w w',⟨_,0,rfl,Qj _,rfl,aj.refl w⟩,?_⟩;rintro j i _ I ⟨P,rfl,J,rfl,k⟩;refine al.dec (λK x y=>?_) (λ_=>Ok.mk ⟨rfl,k⟩);have g:ai w x:=k.then y.keep;obtain⟨l,o,L,M,rfl,_,_,z,p,N,O,Q,rfl,A,_⟩:=(f.af g).vv (i:=P) oM;obtain⟨q,r,R,S,rfl,_,_,s,t,T,U,V,rfl,B,_⟩:=(h.af g).vv (i:=P) oM;rw[z]at s;cases s
 refine⟨l,o,rfl,oM,oM,_,p 0 dC,q,r,rfl,oM,oM,_,t 0 dC,al.eu (λe=>Zz rfl e) (λ_=>?_)⟩;refine⟨l,o,rfl,oM,oM,_,_,_,p 1 dC,q,r,rfl,oM,oM,_,_,_,t 1 dC,PC.ok (nx A B) ?_⟩;rintro _ W ⟨rfl,C⟩;exact⟨_,rfl,al.not (al.dec (λ_=>⟨_,oM,P+1,an oM,oM,rfl,g.then C.keep⟩) (λe=>Zz rfl e))⟩
def Ek{s:ny}(h:Row fy 32 w D a n s.cells)(i:Row fy 32 w E b m s.cells):bn 64 #[.agg #[WP s.version,.slice a n c],.agg #[WP s.version,.slice b m d]] w (Ok λj w'=>j= .bool true/\ai w w'):=by
 refine zU (PA.mk λp e q k=>PA.mk λr P t f=>?_);have g:=P.get k id;refine⟨_,ae g rfl,_,ae f rfl,al.eT (λ_=>?_) (λl=>Zz rfl l)⟩;refine⟨_,_,_,ae g rfl,_,_,_,ae f rfl,PC.ok (Ej (h.af (e.then P)) (i.af (e.then P))) ?_⟩;rintro _ u ⟨rfl,o⟩;exact⟨_,rfl,Ok.mk ⟨rfl,(e.then P).then o⟩⟩
def Ar{C:List cU}(p:Row xu 120 w D a n C)(F:Row xu 120 w E b m C):bn 65 #[.slice a n c,.slice b m d] w (Ok λN w'=>N= .bool true/\ai w w'):=by
 have Y:=p.len;have Z:=F.len;have O:=p.eO;unfold aP at O;refine vD (al.eu (λg=>Zz oM g) (λ_=>?_));refine⟨λH i w'=>∃e:Nat,i=e/\e<=n/\H=n-e/\ai w w',⟨_,0,rfl,Qj _,rfl,aj.refl w⟩,?_⟩;rintro H i _ w1 ⟨e,rfl,hj,rfl,I⟩;refine al.dec (λh1 q Q=>?_) (λ_=>Ok.mk ⟨rfl,I⟩);have r:ai w q:=I.then Q.keep;obtain⟨h,j,k,es,rfl,R,_,S,J,s,t,u,rfl,T,_⟩:=(p.af r).vv (i:=e) oM;obtain⟨l,o,a0,fs,rfl,U,_,K,L,v,x,y,rfl,V,_⟩:=(F.af r).vv (i:=e) oM;rw[S]at K;cases K
 have W:∀P,P<10->q.cell? ⟨h,j+e*13+P,none⟩=(aF k.ev s t u)[P]? :=λP f=>(J P (show P<13 by omega)).trans (XW (show P<10 from f));have X:∀P,P<10->q.cell? ⟨l,o+e*13+P,none⟩=(aF k.ev v x y)[P]? :=λP f=>(L P (show P<13 by omega)).trans (XW (show P<10 from f));refine⟨h,j,rfl,oM,oM,bJ (es:=aF k.ev s t u) (k:=10) (bg _ _ _ _) rfl (λP f=>by rw[Qx];exact W P f) ⟨l,o,rfl,oM,oM,bJ (es:=aF k.ev v x y) (k:=10) (bg _ _ _ _) rfl (λP f=>by rw[Qx];exact X P f) (PC.ok (nz T V) ?_)⟩⟩;rintro _ M ⟨rfl,z⟩;have A:∀P,P<13->M.cell? ⟨h,j+e*13+P,none⟩=(iP k s t u)[P]? :=λP f=>(z.cell (a:=⟨h,j+e*13+P,none⟩) R id).trans (J P f);have B:∀P,P<13->M.cell? ⟨l,o+e*13+P,none⟩=(iP k v x y)[P]? :=λP f=>(z.cell (a:=⟨l,o+e*13+P,none⟩) U id).trans (L P f);refine⟨_,rfl,al.not (al.dec (λ_=>?_) (λg=>Zz rfl g))⟩;refine⟨h,j,rfl,oM,oM,_,A 10 dC,l,o,rfl,oM,oM,_,B 10 dC,al.not (al.mk (λ_=>?_) (λg=>by simp at g))⟩;refine⟨h,j,rfl,oM,oM,_,_,A 11 dC,A 12 dC,l,o,rfl,oM,oM,_,_,B 11 dC,B 12 dC,_,λw'=>Xa,al.mk (λg=>by simp at g) (λ_=>?_)⟩;exact⟨_,oM,e+1,an oM,oM,rfl,r.then z⟩
def Hs(g:Row Ib 24 w D a n g4)(l:Row Ib 24 w E b m g4):bn 66 #[.slice a n c,.slice b m d] w (Ok λq w'=>q= .bool true/\ai w w'):=by
 have B:=g.len;have C:=l.len;have r:=g.eO;unfold aP at r;refine BA (al.eu (λh=>Zz oM h) (λ_=>?_));refine⟨λo i w'=>∃P:Nat,i=P/\P<=n/\o=n-P/\ai w w',⟨_,0,rfl,Qj _,rfl,aj.refl w⟩,?_⟩;rintro o i _ F ⟨P,rfl,H,rfl,f⟩;refine al.dec (λI=>?_) (λ_=>Ok.mk ⟨rfl,f⟩);obtain⟨s,t,e,J,rfl,K,_,u,v,rfl,_⟩:=(g.af f).vv (i:=P) oM;obtain⟨x,y,L,M,rfl,N,_,p,z,rfl,_⟩:=(l.af f).vv (i:=P) oM;rw[u]at p;cases p
 refine⟨s,t,rfl,oM,oM,bJ (es:=bq e) (k:=3) (PO e) rfl (λj k=>by rw[Qx];exact v j k) ⟨x,y,rfl,oM,oM,bJ (es:=bq e) (k:=3) (PO e) rfl (λj k=>by rw[Qx];exact z j k) ⟨false,λm=>Xb e _,λO A=>al.mk (λh=>by cases h) λ_=>?_⟩⟩⟩;exact⟨_,oM,P+1,an oM,oM,rfl,f.then A.keep⟩
def Co{o p:World}{e:gO}{h d:Value}(q:fz o e h w)(r:fz p e d w):bn 40 #[h,d] w (Ok λd w'=>d= .bool true/\ai w w'):=by
 obtain⟨C,E,F,H,I,J,K,L,M,G,rfl,s,t,u,N⟩:=q;obtain⟨O,tn,Q,R,S,T,U,V,W,X,rfl,v,x,y,Y⟩:=r;refine xK (PA.mk λZ z s3 A=>PA.mk λB i s4 a=>?_);have b:=i.get A id;have n:ai w B:=z.then i;refine⟨_,ae b rfl,_,ae a rfl,al.eT (λ_=>?_) (λf=>Zz rfl f)⟩;refine⟨_,_,ae b rfl,ae b rfl,_,_,ae a rfl,ae a rfl,aK.mk Hr ⟨_,rfl,al.mk (λ_=>?_) (λf=>by simp at f)⟩⟩;refine⟨_,_,_,_,ae b rfl,ae b rfl,_,_,_,_,ae a rfl,ae a rfl,PC.ok (Ek (s:=e.st) (s.af n) (v.af n)) ?_⟩;rintro _ w5 ⟨rfl,P⟩;have j:=P.get b id;have k:=P.get a id;refine⟨_,rfl,al.tt rfl ⟨_,_,_,ae j rfl,_,_,_,ae k rfl,PC.ok (Ar (t.af (n.then P)) (x.af (n.then P))) ?_⟩⟩;rintro _ w6 ⟨rfl,c⟩;have l:=c.get j id;have m:=c.get k id;refine⟨_,rfl,al.tt rfl ⟨_,_,_,ae l rfl,_,_,_,ae m rfl,PC.ok (Hs (u.af ((n.then P).then c)) (y.af ((n.then P).then c))) ?_⟩⟩;rintro _ w7 ⟨rfl,g⟩;exact⟨_,rfl,al.tt rfl ⟨_,ae (g.get l id) rfl,_,ae (g.get m id) rfl,Ok.mk ⟨sM,((n.then P).then c).then g⟩⟩⟩
end
def RO(n:gO)(P:be)(a b:Nat)(c:be)(d e:Nat)(f:be)(g h:Nat):Uf (dv LL 46) (.agg (gh n P a b c d e f g h).toArray)=true:=kR
def Wf(n:bF)(P:be)(tn a:Nat)(b:be)(c d:Nat):Uf (dv LL 27) (uh n P tn a b c d)=true:=kR
def NK{es:List Value}(e:iQ h g es=true)(f:b.heap[a]? =some (.cells o q F))(i:∀n,n<es.length->o[c+n]? =es[n]?)(j:N (.agg es.toArray)):jB h g (.pointer (some ⟨a,c,none⟩)) b N:=
 bJ e rfl (λn P=>by
  have d:=i n P;rw[Qq P]at d⊢;exact ae f d) j
section
variable {w w' w0 w1 w2:World} {p:Nat} {F E D Dv:ac} {c:bF} {self:Int} {X:bh} {va ea:be} {vn vc en ec:Nat}
def LK{tn m j o:Nat}(g:bt w D R d tn v j):bn 32 #[.agg #[.slice d tn m,.slice v j o]] w (Ok λp w'=>(∃c:Bool,p= .bool c)/\ai w w'):=by
 have A:=g.a_.len;have q:=g.a_.eO;unfold aP at q;refine GR (PA.mk λw1 n B P=>⟨_,_,_,ae P rfl,al.dec (λ_=>Ok.mk ⟨⟨_,rfl⟩,n⟩) (λ_=>⟨_,_,_,ae P rfl,al.dec (λ_=>Ok.mk ⟨⟨_,rfl⟩,n⟩) (λ_=>?_)⟩)⟩);refine⟨λe h w'=>∃a:Nat,h=a/\a<=tn/\e=tn-a/\w1=w',⟨_,0,rfl,Qj _,rfl,rfl⟩,?_⟩;rintro e _ _ _ ⟨a,rfl,C,rfl,rfl⟩;refine⟨_,_,_,ae P rfl,al.dec (λE=>?_) (λ_=>Ok.mk ⟨⟨_,rfl⟩,n⟩)⟩;obtain⟨c,i,F,H,rfl,I,-,J,r,K,k,L,rfl,l⟩:=(g.a_.af n).vv (i:=a) oM;have f:=r 0 dC;have s:nQ.k=1:=rfl;rw[s,Nat.mul_one]at f;have t:=l.eO;unfold aP at t;refine⟨_,_,_,ae P rfl,c,i,rfl,oM,oM,_,_,_,f,al.dec (λ_=>Ok.mk ⟨⟨_,rfl⟩,n⟩) (λ_=>?_)⟩;refine⟨λe h w'=>∃b:Nat,h=b/\b<=k/\e=k-b/\w1=w',⟨_,0,rfl,Qj _,rfl,rfl⟩,?_⟩;rintro e _ _ _ ⟨b,rfl,M,rfl,rfl⟩;refine⟨_,_,_,ae P rfl,c,i,rfl,oM,oM,_,_,_,f,al.dec (λN=>?_) (λ_=>⟨_,oM,a+1,an oM,oM,rfl,rfl⟩)⟩;obtain⟨u,x,O,y,rfl,-,-,Q,z,S,T,U,rfl,-,-⟩:=l.vv (i:=b) oM;exact⟨_,_,_,ae P rfl,c,i,rfl,oM,oM,_,_,_,f,u,x,rfl,oM,oM,_,_,_,z 3 dC,al.dec (λ_=>Ok.mk ⟨⟨_,rfl⟩,n⟩) (λ_=>⟨_,oM,b+1,an oM,oM,rfl,rfl⟩)⟩
def bY.waits(b:bY w p F c self X):X.waits.length<=256:=by
 obtain⟨f,d,n,e⟩:=b;obtain⟨g,D,P,-,-⟩:=(show PQ w (λa=>F a/\n a=5) d.wp c.buffer.toNat X.waits from e.at' 5)
 exact Xx P.1.2.le P.1.1
def bY.ok(n:bY w p F c self X):ks c self:=n.1
def cd.after(n:ai w w1)(P:cd F w1 f w2):cd F w f w2:=⟨(ai.keep n).then P.keep,λa b=>(P.new a b).imp id λc=>by have:=n.size;omega⟩

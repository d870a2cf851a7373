import Derived.Test.YtblabbpipmodgaaGreatDoorKo17
set_option maxHeartbeats 4000000
set_option linter.all false
set_option maxRecDepth 20000
namespace Go.Proofs.YtblabbpipmodgaaGreatDoor
open Go.au
variable{d t:XU}{N:aW}{b4:br}
section
variable {w w':World} {D E:XM} {a b:XU} {n m c:Nat}
def BC(h:Row fL 32 w D a n b4.bt):ZH 77 #[.agg (dF b4 a n c).toArray] w (Ok λH w'=>∃p v q e,H= .agg (dF b4 p v q).toArray/\aV fL 125 e w' p v q b4.bt/\ai w w'/\∀b,e b->w.heap.size<=b):=by
 have Y:=h.len;have P:=h.ef;unfold aS at P;refine xD (PA.mk λy I Z J=>PA.mk λr z s7 K=>?_);have L:=z.get J id;have A:=I.then z;refine⟨λB k d l i w'=>i=(d:Int)/\d<=n/\B=n-d/\∃e,aV fL 125 e w' k d l (b4.bt.take d)/\ai r w'/\∀b,e b->r.heap.size<=b,
  ⟨_,rfl,Qj _,rfl,λ_=>False,by simpa using aV.nil r,aj.refl _,λ_ h=>h.elim⟩,?_⟩
 rintro B k d l i _ w1 ⟨rfl,hj,rfl,e,m,f,g⟩;have s:=f.get L id;have C:=A.then f;have E:(b4.bt.take d).length=d:=by simp;omega
 refine⟨_,_,_,ae s rfl,al.dec (λM=>?_) (λM=>?_)⟩
 ·obtain⟨b,t,x,es,rfl,_,_,N,o,rfl,O⟩:=(h.af C).BR (i:=d) oM
  refine⟨_,_,_,ae s rfl,b,t,rfl,oM,oM,_,_,_,_,o 0 dC,o 1 dC,o 2 dC,o 3 dC,Fj m Jh (x:=x) (D:=λ_=>False) ⟨rfl,O⟩ (λ_ h=>h.elim) (by rw[E];unfold aS;omega) (by rw[E];unfold maxLen;omega) λp q Q R S T U _=>?_⟩;refine⟨_,_,_,rfl,n-(d+1),oM,an oM,oM,rfl,R,?_,f.new T λb P=>.inr (g b (m.self b P)),?_⟩
  ·rw[Qw,N];exact S
  ·intro b P
   have:=f.size;rcases U b P with h|h|h
   ·exact g b h
   ·exact h.elim
   ·omega
 ·obtain rfl:d=n:=oM
  rw[Qz oM]at m;have V:=f.get K id;refine PS.mk s sM λw2 u s2 W=>ay (cs:=dF b4 k d l) (eX _ _ _ _) W (aC (eX _ _ _ _) (u.get V oM) rfl λQ F s3 X=>ay (eX _ _ _ _) X (Ok.mk ⟨k,d,l,e,rfl,?_,?_,λb P=>by have:=g b P;have:=A.size;omega⟩))
  ·exact(m.keep u λb P j=>by have j:b=w.heap.size:=j;have:=g b P;omega).keep F λb P j=>by have j:b=y.heap.size:=j;have:=g b P;omega
  ·exact(C.new u λb P=>.inr (by have P:b=w.heap.size:=P;omega)).new F λb P=>.inr (by have P:b=y.heap.size:=P;omega)
def Ee{tn tc W pc:Nat}(o:bl w D N d tn t W):
  ZH 39 #[.agg #[.slice d tn tc,.slice t W pc]] w (Ok λe0 w'=>∃H yh a3 I J a7 G,e0= .agg #[.slice H yh a3,.slice I J a7]/\bl w' G N H yh I J/\(∀b,G b->w.heap.size<=b/\b<w'.heap.size)/\ai w w'):=by
 have g8:=o.bk.len;have b3:=o.bk.ef;have g9:=o.A_.len;have b4:=o.A_.ef;refine yX (PA.mk λK k4 s4 g4=>PA.mk λh k5 s5 g5=>PA.mk λw6 k6 s6 g6=>?_);have b5:=k4.then k5;have d7:=b5.then k6;have gp:=k6.get (k5.get g4 id) id;have gr:=k6.get g5 id;have z6:=d7.size;refine⟨λm L w'=>∃f:Nat,L=f/\f<=tn/\m=tn-f/\aj (·=h.heap.size) w6 w'/\∃M O X Z,w'.heap[h.heap.size]? =some (.cells #[.slice M O X,.slice none 0 0] 25 (0,0))/\aV jX 130 Z w' M O X (N.types.take f)/\∀b,Z b->w6.heap.size<=b,
  ⟨_,0,rfl,Qj _,rfl,aj.refl _,none,0,0,λ_=>False,g6,aV.nil _,λ_ o=>o.elim⟩,?_⟩
 rintro m _ _ g ⟨f,rfl,hj,rfl,Q,M,O,X,Z,go,v,E⟩;have a4:ai w g:=d7.new Q λb P=>.inr (by have P:b=h.heap.size:=P;have:=b5.size;omega);have zk:=Q.size;have a0:=Q.get gp λc=>by have c:w.heap.size=h.heap.size:=c;omega
 refine⟨_,_,_,ae a0 rfl,al.dec (λj7=>?_) (λj8=>?_)⟩
 ·have h0:f<N.types.length:=oM
  have b6:N.types[f]? =some N.types[f]:=Qq h0;generalize N.types[f]=p at b6;obtain⟨b,A,es,ha,P,j9,e1,fa,fn,fc,rfl,b8⟩:=(o.bk.af a4).el f p b6;have c0:=e1 0 dC;have h2:jX.k=1:=rfl;rw[h2,Nat.mul_one]at c0;have h3:=b8.len;have b9:=b8.ef;refine PA.mk λk0 h4 k1 h6=>PS.mk h6 sM λa5 h7 k2 h8=>?_;have B:ai g a5:=h4.new h7 λb P=>.inr (by have P:b=g.heap.size:=P;omega);have e2:=B.get a0 id;have d9:=B.size;have e3:=a4.then B;refine⟨λm L w'=>∃k:Nat,L=k/\k<=fn/\m=fn-k/\aj (·=g.heap.size) a5 w'/\∃r s x u,w'.heap[g.heap.size]? =some (.cells #[.slice r s x] 130 (0,0))/\aV nY 123 u w' r s x (p.take k)/\∀b,u b->a5.heap.size<=b,
   ⟨_,0,rfl,Qj _,rfl,aj.refl _,none,0,0,λ_=>False,h8,aV.nil _,λ_ o=>o.elim⟩,?_⟩
  rintro m _ _ a6 ⟨k,rfl,hk,rfl,i,r,s,x,u,y,j,q⟩;have zx:=i.size;have e4:ai w a6:=e3.new i λb P=>.inr (by have P:b=g.heap.size:=P;have:=a4.size;omega);have b2:=i.get e2 λc=>by have c:w.heap.size=g.heap.size:=c;have:=aB a0;omega
  have b7:a6.cell? ⟨b,A+Int.toNat (f:Int),none⟩=some (.slice fa fn fc):=by
   rw[Qx];refine(i.cell (a:=⟨b,A+f,none⟩) (Qk P d9) λc=>by have c:b=g.heap.size:=c;omega).trans ((B.cell (a:=⟨b,A+f,none⟩) P id).trans ?_);exact c0
  refine⟨_,_,_,ae b2 rfl,b,A,ha,oM,oM,_,_,_,b7,al.dec (λe5=>?_) (λe6=>?_)⟩
  ·intro c1 h9
   have l:ai a6 c1:=h9.keep;have j6:=e4.then l;have e7:=l.get y id;have e8:=l.get b2 id;have f0:c1.cell? ⟨b,A+Int.toNat (f:Int),none⟩=some (.slice fa fn fc):=(l.cell (a:=⟨b,A+Int.toNat (f:Int),none⟩) (Qk (Qk P d9) zx) id).trans b7;have i0:k<p.length:=oM
   have c2:p[k]? =some p[k]:=Qq i0;generalize p[k]=F at c2;have f1:ai g c1:=(B.new i λb P=>.inr (by have P:b=g.heap.size:=P;omega)).then l;obtain⟨fb,fo,a8,rfl,-,-,c4,ya,yn,yc,rfl,c5,a9⟩:=(b8.af f1).el k F c2;have f3:=c5.len;have f4:=c5.ef;refine⟨λ_=>False,id,_,_,_,ae e7 rfl,_,_,_,ae e8 rfl,b,A,ha,oM,oM,_,_,_,f0,fb,fo,rfl,oM,oM,bW (es:=dF F ya yn yc) (k:=4) (eX _ _ _ _) rfl (λp ht=>by rw[Qx];exact c4 p ht) (PC.ok (BC c5) ?_)⟩;rintro _ k3 ⟨a,n,cc,Fm,rfl,c6,e9,f2⟩;have f6:=c6.aE;refine⟨_,_,_,_,_,_,rfl,e9,PA.mk λf5 c7 k7 i1=>⟨c7,?_⟩⟩;have a1:ai a6 f5:=(l.then e9).then c7;have k8:=c6.len dC;have f7:Row fL 32 f5 Fm a n F.bt:=(c6.af c7).row dC (by rw[<-f3];exact f4);refine fk (c:=nY) (x:=F) (j.af a1) NM i1 (D:=Fm) ⟨a,n,cc,rfl,f7,a9⟩ (λb P=>⟨by have:=f6 b P;omega,λc=>by have:=j.aE b (j.self b c);have:=f2 b P;have:=l.size;omega⟩) (by rw[Qy];unfold aS at*;omega) (by rw[Qy];unfold aS at b9;unfold maxLen;omega) λR S i2 z b0 C T=>⟨_,_,_,rfl,?_⟩
   have c9:¬aI r=some g.heap.size:=λc=>by have:=q _ (j.self _ c);omega
   have k9:=a1.size;have i3:=C.size;have zd:=l.size;have e:∀b,z b->a5.heap.size<=b:=λb P=>by
    rcases T b P with Y|Y|Y
    ·exact q b Y
    ·have:=f2 b Y;omega
    ·omega
   refine PS.mk (C.get (a1.get y id) c9) sM λi4 U i5 d0=>⟨_,oM,k+1,an (by unfold aS at b9;omega),oM,rfl,((i.af a1).new C λb P=>.inr (q b (j.self b P))).then U,R,s+1,S,z,d0,?_,e⟩
   rw[Qw,c2];exact b0.keep U λb P c=>by have c:b=g.heap.size:=c;have:=e b P;omega
  ·rw[Qz oM]at j
   have c3:=i.get (B.get go id) λc=>by have c:h.heap.size=g.heap.size:=c;have:=aB go;omega
   refine⟨_,_,_,ae c3 rfl,_,_,_,ae y rfl,PA.mk λi6 d1 l0 i7=>?_⟩;have b1:ai g i6:=(B.new i λb P=>.inr (by have P:b=g.heap.size:=P;omega)).then d1;refine fk (c:=jX) (x:=p) (v.af b1) Kj i7 (D:=u) ⟨r,s,x,rfl,(j.af d1).row dC (by rw[<-h3];exact b9)⟩ (λb P=>⟨by have:=j.aE b P;omega,λc=>by have:=v.aE b (v.self b c);have:=q b P;omega⟩) (by rw[Qy];unfold aS at*;omega) (by rw[Qy];unfold aS at b3;unfold maxLen;omega) λR S l3 z f8 d2 T=>⟨_,_,_,rfl,?_⟩
   have i8:¬aI M=some h.heap.size:=λc=>by have:=E _ (v.self _ c);omega
   have l4:=b1.size;have l5:=d2.size;have e:∀b,z b->w6.heap.size<=b:=λb P=>by
    rcases T b P with Y|Y|Y
    ·exact E b Y
    ·have:=q b Y;omega
    ·omega
   refine PS.mk (d2.get (d1.get c3 id) i8) sM λl6 c8 l7 i9=>⟨_,oM,f+1,an (by unfold aS at b3;omega),oM,rfl,((Q.af b1).new d2 λb P=>.inr (E b (v.self b P))).then c8,R,O+1,S,z,i9,?_,e⟩
   rw[Qw,b6];exact f8.keep c8 λb P c=>by have c:b=h.heap.size:=c;have:=e b P;omega
 ·rw[Qz oM]at v
  have f9:=v.aE;refine⟨λm L w'=>∃f:Nat,L=f/\f<=W/\m=W-f/\aj (·=h.heap.size) g w'/\∃r s x u,w'.heap[h.heap.size]? =some (.cells #[.slice M O X,.slice r s x] 25 (0,0))/\aV ud 128 u w' r s x (N.projs.take f)/\∀b,u b->g.heap.size<=b,
   ⟨_,0,rfl,Qj _,rfl,aj.refl _,none,0,0,λ_=>False,go,aV.nil _,λ_ o=>o.elim⟩,?_⟩
  rintro m _ _ d3 ⟨k,rfl,hk,rfl,i,r,s,x,u,y,j,q⟩;have zx:=i.size;have d4:ai w d3:=a4.new i λb P=>.inr (by have P:b=h.heap.size:=P;have:=b5.size;omega);have d8:=i.get a0 λc=>by have c:w.heap.size=h.heap.size:=c;omega
  refine⟨_,_,_,ae d8 rfl,al.dec (λe5=>?_) (λe6=>?_)⟩
  ·intro j0 j1
   have l:ai d3 j0:=j1.keep;have g0:=l.get y id;obtain⟨fb,fo,F,a8,rfl,-,-,j2,c4,rfl,a9⟩:=(o.A_.af (d4.then l)).BR (i:=k) oM;have V:=λp (ht:p<5)=>c4 p ht;refine⟨λ_=>False,id,_,_,_,ae g0 rfl,_,_,_,ae (l.get d8 id) rfl,fb,fo,rfl,oM,oM,_,_,_,_,_,V 0 dC,V 1 dC,V 2 dC,V 3 dC,V 4 dC,PA.mk λj3 g1 l8 j4=>⟨g1,?_⟩⟩;have a2:ai d3 j3:=l.then g1;refine fk (c:=ud) (x:=F) (j.af a2) IX j4 (D:=λ_=>False) ⟨rfl,a9⟩ (λb P=>P.elim) (by rw[Qy];unfold aS at*;omega) (by rw[Qy];unfold aS at b4;unfold maxLen;omega) λR S i2 z b0 C T=>⟨_,_,_,rfl,?_⟩
   have c9:¬aI r=some h.heap.size:=λc=>by have:=q _ (j.self _ c);omega
   have l9:=a2.size;have i3:=C.size;have zd:=l.size;have e:∀b,z b->g.heap.size<=b:=λb P=>by
    rcases T b P with Y|Y|Y
    ·exact q b Y
    ·exact Y.elim
    ·omega
   refine PS.mk (C.get (a2.get y id) c9) sM λi4 U i5 d0=>⟨_,oM,k+1,an (by unfold aS at b4;omega),oM,rfl,((i.af a2).new C λb P=>.inr (q b (j.self b P))).then U,R,s+1,S,z,d0,?_,e⟩
   rw[Qw,j2];exact b0.keep U λb P c=>by have c:b=h.heap.size:=c;have:=e b P;omega
  ·rw[Qz oM]at j
   have g2:=j.aE;have g3:=i.get (Q.get gr λc=>by have c:K.heap.size=h.heap.size:=c;omega) λc=>by have c:K.heap.size=h.heap.size:=c;omega
   have h1:=v.keep i λb P c=>by have c:b=h.heap.size:=c;have:=E b P;omega
   refine⟨_,_,_,_,_,_,ae y rfl,ae y rfl,PS.mk g3 sM λm0 d5 m1 j5=>PS.mk j5 sM λm2 d6 m3 g7=>⟨_,_,_,_,_,_,ae g7 rfl,ae g7 rfl,Ok.mk ⟨_,_,_,_,_,_,λb=>Z b\/u b,rfl,⟨?_,?_⟩,?_,?_⟩⟩⟩
   ·exact(((h1.row (bytes:=24) dC (by rw[<-g8];exact b3)).keep (d5.then d6) λb P c=>by have c:b=K.heap.size:=c;have:=E b P;omega)).mono λb P=>.inl P
   ·exact(((j.row (bytes:=40) dC (by rw[<-g9];exact b4)).keep (d5.then d6) λb P c=>by have c:b=K.heap.size:=c;have:=q b P;omega)).mono λb P=>.inr P
   ·have z4:=k4.size
    rintro b (P|P)
    ·have:=E b P;have:=f9 b P;omega
    ·have:=q b P;have:=g2 b P;omega
   ·exact d4.new (d5.then d6) λb P=>.inr (by have P:b=K.heap.size:=P;have:=k4.size;omega)
def Ef{c:cJ}{tn s p u:Nat}(v:bl w D c.decl d tn t p):
  ZH 12 #[nk c d tn s t p u] w (Ok λx w'=>∃P yh f a e g G,x=nk c P yh f a e g/\bl w' G c.decl P yh a e/\(∀b,G b->w.heap.size<=b/\b<w'.heap.size)/\ai w w'):=by
 refine yU (PA.mk λk q I y=>PA.mk λJ l K z=>?_);have m:=l.get y id;refine⟨_,_,_,_,_,_,ae m rfl,ae m rfl,PC.ok (Ee (v.af (q.then l))) ?_⟩;rintro _ L ⟨P,yh,f,a,e,g,G,rfl,A,n,j⟩;have M:=j.size;refine⟨_,_,_,_,_,_,rfl,PS.mk (j.get m id) sM λN B O C=>PS.mk C sM λQ E R F=>?_⟩;have o:=B.then E;refine ay (wG c P yh f a e g) F (aC (wG c P yh f a e g) (o.get (j.get z id) λi=>by have i:k.heap.size=w.heap.size:=i;omega) rfl λS r T H=>ay (wG c P yh f a e g) H (Ok.mk ⟨_,_,_,_,_,_,G,rfl,?_,λb h=>?_,?_⟩))
 ·exact(A.keep o λb h i=>by have i:b=w.heap.size:=i;have:=n b h;omega).keep r λb h i=>by have i:b=k.heap.size:=i;have:=n b h;omega
 ·have:=n b h;omega
 ·exact(((q.then l).then j).new o λb h=>.inr (by have h:b=w.heap.size:=h;omega)).new r λb h=>.inr (by have h:b=k.heap.size:=h;omega)
end
structure zR where
 kind:Int
 n:Int
 now:Int
 cmd:kz
 m:cY
section
variable (c:cJ) (self:Int)
def zU(a:bM)(P:zR):Int×bM:=
 if P.kind=0 then((dW c self a P.cmd).1,(dW c self a P.cmd).2.2)else
 if P.kind=1 then(0,(f_ c self a P.n (pick P.now 4611686018427387904)).2)else
 if P.kind=2 then(cd c self a P.m).2 else
 if P.kind=3 then(0,(Ht self a (pick P.now 4611686018427387904)).2)else
 if P.kind=4 then iV c a P.n else
 if P.kind=5 then(0,{a with D:=a.D.IP P.n})else
 if P.kind=6 then ej c a else(0,a)
end
structure jq (X Y:bM):Prop where
 evs:Y.S.l.length<=X.S.l.length+300\/Y.S.l.length<=16777216
 asked:Y.fM.asked.length<=X.fM.asked.length+1
def jq.refl(P:bM):jq P P:=⟨.inl oM,oM⟩
def Hv{P a:Type}[BEq P][LawfulBEq P](b:P)(c:a):∀(d:List (P×a)),(aH d b c).length<=d.length+1
 |[]=>by simp[aH]
 |(f,g)::e=>by
  unfold aH;split
  ·simp
  ·have:=Hv b c e
   simp;omega
def CN{a d:Type}[BEq a][LawfulBEq a](P:a)(e:d):∀(c:List (a×d)),P∈c.map (·.1)->(aH c P e).map (·.1)=c.map (·.1)
 |[],h=>by simp at h
 |(g,j)::f,h=>by
  unfold aH
  by_cases b:(P==g)=true
  ·rw[Zx b]
   have:=eq_of_beq b;subst this;rfl
  ·rw[Zq b]
   have i:P∈f.map (·.1):=by
    rcases Q2.1 h with h|h
    ·exact Zz (by rw[h];simp) b
    ·exact h
   simp[CN P e f i]
def Hw{P c:Type}[BEq P][LawfulBEq P](a:P):∀(b:List (P×c)),(bI b a).length<=b.length
 |[]=>by simp[bI]
 |(e,f)::d=>by
  unfold bI;split
  ·simp
  ·have:=Hw a d
   simp;omega
def EE(c P:Int)(a:List Int×List (Int×Int))(b:Int)(d:b∈a.2.map (·.1)):(fK c P a b).2.map (·.1)=a.2.map (·.1):=by
 unfold fK;split
 ·exact CN _ _ _ d
 ·rfl
def uT(c P:Int):∀(b:List Int) (a:List Int×List (Int×Int)),(∀x∈b,x∈a.2.map (·.1))->(b.foldl (fK c P) a).2.map (·.1)=a.2.map (·.1)
 |[],a,_=>rfl
 |x::b,a,d=>by
  have e:=EE c P a x (d x (QV ..));rw[List.foldl_cons,uT c P b _ λf g=>by rw[e];exact d f (QJ _ g),e]
def jy.OT(P:jy)(a:Int):(P.OS a).asked.length=P.asked.length:=by
 have c:=uT P.cZ a (P.open.take P.open.length) ([],P.asked) λd b=>by
  have b:=List.mem_of_mem_take b;unfold jy.open at b;exact(List.mergeSort_perm _ _).mem_iff.1 b
 have:=Zj List.length c;rw[Q8,Q8]at this;exact this
def qy(P:Nat):∀(c:List ah) (d:ar) (a b:List ah),(fZ P c d a b).2.1.length+(fZ P c d a b).2.2.length<=a.length+b.length+c.length
 |[],d,a,b=>by simp[fZ]
 |e::c,d,a,b=>by
  unfold fZ;split
  ·have:=qy P c (d.add e).2 (a++[e]) b
   simp at this⊢;omega
  split
  ·have:=qy P c d a b
   simp;omega
  ·have:=qy P c d a (eG P b e).2
   have:=AH P b e;simp;omega
def qe:∀(a:List ah) (b:ar) (P:List ah),(ep a b P).2.length<=P.length+a.length
 |[],b,P=>by simp[ep]
 |e::a,b,P=>by
  unfold ep;split
  ·have:=qe a (b.add e).2 (P++[e])
   simp at this⊢;omega
  ·have:=qe a (b.add e).2 P
   simp;omega
def CO:∀(k:Nat) (a:ar) (P b:List ah),(nP k a P b).1.length<=P.length+b.length
 |0,a,P,b=>by simp[nP]
 |k+1,a,P,b=>by
  unfold nP;have c:=uS a b;dsimp only;split
  ·simp
  ·have d:=qe (bE a b).1 a P
   have e:=CO k (ep (bE a b).1 a P).1 (ep (bE a b).1 a P).2 (bE a b).2;omega
def Ac(a:cJ)(P:bM)(b:List ah):(im a P b).1.length<=P.waits.length+b.length:=by
 have c:=qy a.buffer.toNat b (eJ a P.S []) [] P.waits;have d:=CO ((fZ a.buffer.toNat b (eJ a P.S []) [] P.waits).2.2.length+1) (fZ a.buffer.toNat b (eJ a P.S []) [] P.waits).1 (fZ a.buffer.toNat b (eJ a P.S []) [] P.waits).2.1 (fZ a.buffer.toNat b (eJ a P.S []) [] P.waits).2.2;simp at c;unfold im;dsimp only;omega
def MF(b:cJ)(P:ar)(a:List ah):(eJ b P a).l.length<=P.l.length+a.length:=by
 have:=ar.lR (P.l++a) ⟨b.bT.toNat,[]⟩;unfold eJ;simp at this⊢;omega
def CP(b:cJ)(P:bM)(a:List ah):(dh b P a).2.S.l.length<=P.S.l.length+a.length/\(dh b P a).2.fM=P.fM:=by
 unfold dh
 cases P.log with
 |none=>exact⟨by dsimp only;omega,rfl⟩
 |some c=>
  dsimp only;split
  ·exact⟨by dsimp only;omega,rfl⟩
  split
  ·exact⟨by dsimp only;omega,rfl⟩
  ·exact⟨MF b P.S a,rfl⟩
def zW(b:cJ)(a:Int)(P:bM)(c:kz):jq P (dW b a P c).2.2:=by
 unfold dW
 cases P.log with
 |none=>exact jq.refl P
 |some d=>
  dsimp only;split
  ·exact jq.refl P
  split
  ·have:=CP b P [(kZ b.decl P.S (cN b.decl P.S.l) a b.start c).1]
   simp at this;split
   ·exact⟨.inl be,by dsimp only;rw[this.2];omega⟩
   ·exact⟨.inl be,by dsimp only;rw[this.2];omega⟩
  ·exact jq.refl P
def lE(c:cJ)(d:Int)(P:bM)(a:cY)(j:P.waits.length<=256)(k:c.chunk<=32):jq P (cd c d P a).2.2:=by
 unfold cd
 cases P.log with
 |none=>exact jq.refl P
 |some l=>
  dsimp only;split
  ·exact jq.refl P
  rename_i h;split
  ·exact jq.refl P
  split
  ·rename_i i
   have m:a.events.length<=32:=by
    rcases Nat.lt_or_ge 32 a.events.length with g|g
    ·exfalso
     apply h;unfold eK;rw[Zx i];intro b;split at b
     ·cases b
     ·unfold eL at b
      split at b
      ·cases b
      ·rw[Zx (.inr oM)]at b;cases b
    ·exact g
   unfold lF;have n:=Ac c P a.events;dsimp only;split
   ·exact⟨.inl be,by dsimp only;omega⟩
   ·have e:=CP c {P with waits:=(im c P a.events).2} (im c P a.events).1
    dsimp only at e;split
    ·exact⟨.inl be,by dsimp only;rw[e.2];omega⟩
    ·exact⟨.inl be,by dsimp only;rw[e.2];omega⟩
  ·have f:(P.fM.x_ a.bX a.vec P.S.vec).asked.length<=P.fM.asked.length+1:=by
    unfold jy.x_;dsimp only;split
    ·have:=Hw a.bX P.fM.asked;omega
    ·omega
   split
   ·exact⟨.inl be,f⟩
   split
   ·exact⟨.inl be,f⟩
   ·exact⟨.inl be,f⟩
def zY(d:cJ)(P:Int)(b:bM)(a c:Int):jq b (f_ d P b a c).2:=by
 unfold f_;split
 ·exact jq.refl b
 ·exact⟨.inl be,Hv _ _ _⟩
def Jn(P:Int)(b:bM)(a:Int):jq b (Ht P b a).2:=by
 unfold Ht;exact⟨.inl be,by dsimp only;rw[jy.OT];omega⟩
def wI(a:cJ)(P:bM):(e_ a P).2.fM=P.fM:=by
 unfold e_;dsimp only;split<;>rfl
def BE(a:cJ)(P:bM):jq P (ej a P).2:=by
 unfold ej
 cases P.log with
 |none=>exact jq.refl P
 |some b=>
  dsimp only;split
  ·exact⟨.inl be,by dsimp only;omega⟩
  ·exact⟨.inl be,by dsimp only;omega⟩
structure zR.Ok (x:zR):Prop where
 kind:aN x.kind
 n:aN x.n
 now:aN x.now
 cmd:x.cmd.Ok
def pI(P:zR)(a:XU)(b c:Nat)(d:XU)(e f:Nat):List Value:=[QH P.kind,QH P.n,QH P.now]++g_ P.cmd++bV P.m a b c d e f
abbrev Sx(P:zR)(a:XU)(b c:Nat)(d:XU)(e f:Nat):Value:=.agg (pI P a b c d e f).toArray
def TF(P:zR)(a:XU)(b c:Nat)(d:XU)(e f:Nat):jf XG 67 (pI P a b c d e f)=true:=kR
def Od(P:BD)(a:XU)(b c:Nat)(d:XU)(e f:Nat)(g:XU)(h i:Nat):Py (fW XG 46) (.agg (pJ P a b c d e f g h i).toArray)=true:=kR
def Oe(P:cJ)(a:XU)(tn b:Nat)(c:XU)(d e:Nat):Py (fW XG 29) (nk P a tn b c d e)=true:=kR
def Ql:jK zR where
 k:=15
 rep:=λm D h cs=>∃P a d b c e,cs=pI h P a d b c e/\Row aM 8 m D P a h.m.vec/\Row iC 96 m D b c h.m.events/\h.Ok
 keep:=λ⟨P,a,d,b,c,e,f,i,j,k⟩ n g=>⟨P,a,d,b,c,e,f,i.keep n g,j.keep n g,k⟩
 mono:=λ⟨P,a,d,b,c,e,f,i,j,k⟩ g=>⟨P,a,d,b,c,e,f,i.mono g,j.mono g,k⟩
 len:=λ⟨P,a,d,b,c,e,f,_⟩=>by rw[f];rfl
 one:=λ⟨P,a,d,b,c,e,f,_⟩ o l=>by
  rw[f]at l;simp only[pI,g_,bV,List.cons_append,List.nil_append,Q2,List.not_mem_nil,or_false]at l;rcases l with rfl|rfl|rfl|rfl|rfl|rfl|rfl|rfl|rfl|rfl|rfl|rfl|rfl|rfl|rfl<;>rfl
variable{o:Array Value}{e:Int}{g0:List zR}{a c:Nat}{f:XM}{H:Nat×Nat}{c7:XU}{h:Program}{g n:TypeId}{R:Value->Prop}{b:World}{d7:cY}
def Kz{es:List Value}(f:jf h g es=true)(i:b.heap[a]? =some (.cells o n H))(j:∀P,P<es.length->o[c+P]? =es[P]?)(k:R (.agg es.toArray)):ri h g (.pointer (some ⟨a,c,none⟩)) b R:=
 bW f rfl (λP d=>by
  have e:=j P d;rw[Qq d]at e⊢;exact ae i e) k
section
variable {w w' w0 w1 w2:World} {p:Nat} {F E D Dv:XM} {c:cJ} {self:Int} {X:bM} {va ea:XU} {vn vc en ec:Nat}
def Gw:ZH 56 #[QH e] w (Ok λP w'=>P= QH (pick e 4611686018427387904)/\w=w'):=by
 refine It (PC.ok (Of bb) ?_);rintro _ _ ⟨rfl,rfl⟩;exact⟨_,rfl,Ok.mk ⟨rfl,rfl⟩⟩
def Ji(i:Row aM 8 w D va vn d7.vec)(e:Row iC 96 w E ea en d7.events):
  ZH 27 #[jD d7 va vn vc ea en ec] w (Ok λf w'=>(∃c:Bool,f= .bool c/\(c=false->∀P∈d7.events,P.aJ.length<=100))/\ai w w'):=by
 refine DF (PA.mk λw1 a j d=>⟨_,_,_,ae d rfl,al.dec (λ_=>Ok.mk ⟨⟨_,rfl,sM⟩,a⟩) (λ_=>⟨_,_,_,ae d rfl,PC.ok (Jj (e.af a)) ?_⟩)⟩);rintro _ _ ⟨rfl,rfl⟩;refine⟨_,rfl,Ok.mk ⟨⟨_,rfl,λb P g=>?_⟩,a⟩⟩;have b:=Xy b;exact Nat.le_of_not_lt λh=>b (.inl ⟨P,g,h⟩)
def Jk{tn n k o:Nat}(h:bl w D N d tn t k):ZH 28 #[.agg #[.slice d tn n,.slice t k o]] w (Ok λp w'=>(∃e:Bool,p= .bool e)/\ai w w'):=by
 have A:=h.bk.len;have q:=h.bk.ef;unfold aS at q;refine DG (PA.mk λw1 P B a=>⟨_,_,_,ae a rfl,al.dec (λ_=>Ok.mk ⟨⟨_,rfl⟩,P⟩) (λ_=>⟨_,_,_,ae a rfl,al.dec (λ_=>Ok.mk ⟨⟨_,rfl⟩,P⟩) (λ_=>?_)⟩)⟩);refine⟨λf i w'=>∃b:Nat,i=b/\b<=tn/\f=tn-b/\w1=w',⟨_,0,rfl,Qj _,rfl,rfl⟩,?_⟩;rintro f _ _ _ ⟨b,rfl,C,rfl,rfl⟩;refine⟨_,_,_,ae a rfl,al.dec (λE=>?_) (λ_=>Ok.mk ⟨⟨_,rfl⟩,P⟩)⟩;obtain⟨e,j,F,H,rfl,I,-,J,r,K,l,L,rfl,m⟩:=(h.bk.af P).BR (i:=b) oM;have g:=r 0 dC;have s:jX.k=1:=rfl;rw[s,Nat.mul_one]at g;have u:=m.ef;unfold aS at u;refine⟨_,_,_,ae a rfl,e,j,rfl,oM,oM,_,_,_,g,al.dec (λ_=>Ok.mk ⟨⟨_,rfl⟩,P⟩) (λ_=>?_)⟩;refine⟨λf i w'=>∃c:Nat,i=c/\c<=l/\f=l-c/\w1=w',⟨_,0,rfl,Qj _,rfl,rfl⟩,?_⟩;rintro f _ _ _ ⟨c,rfl,M,rfl,rfl⟩;refine⟨_,_,_,ae a rfl,e,j,rfl,oM,oM,_,_,_,g,al.dec (λO=>?_) (λ_=>⟨_,oM,b+1,an oM,oM,rfl,rfl⟩)⟩;obtain⟨v,x,Q,y,rfl,-,-,R,z,S,T,U,rfl,-,-⟩:=m.BR (i:=c) oM;exact⟨_,_,_,ae a rfl,e,j,rfl,oM,oM,_,_,_,g,v,x,rfl,oM,oM,_,_,_,z 3 dC,al.dec (λ_=>Ok.mk ⟨⟨_,rfl⟩,P⟩) (λ_=>⟨_,oM,c+1,an oM,oM,rfl,rfl⟩)⟩
def Jl{tn v q x l y:Nat}(z:bl w D c.decl d tn t q)(n:Row Ql 152 w E c7 l g0):
  ZH 9 #[nk c d tn v t q x,.slice c7 l y] w (Ok λA w'=>(∃f:Bool,A= .bool f/\(f=false->g0.length<=100/\∀b∈g0,∀h∈b.m.events,h.aJ.length<=100))/\ai w w'):=by
 have T:=n.len;have B:=n.ef;unfold aS at B;refine DD (PA.mk λw1 m U C=>?_);refine⟨λo w'=>ai w1 w'/\(g0.length<=100->∀b∈g0,∀h∈b.m.events,h.aJ.length<=100),⟨λr o a w'=>∃P:Nat,a=P/\P<=l/\r=l-P/\ai w1 w'/\∀b∈g0.take P,∀h∈b.m.events,h.aJ.length<=100,⟨_,0,rfl,Qj _,rfl,aj.refl _,sM⟩,?_⟩,?_⟩
 ·rintro r o _ _ w2 ⟨P,rfl,V,rfl,i,j⟩
  refine al.dec (λW=>al.dec (λF=>?_) (λF=>⟨i,λH=>oM⟩)) (λX=>⟨i,λ_=>by rw[Qz oM]at j;exact j⟩);obtain⟨f,k,I,Y,rfl,J,-,K,s,va,vn,vc,ea,en,ec,rfl,L,M,-⟩:=(n.af (m.then i)).BR (i:=P) oM;refine⟨f,k,rfl,oM,oM,bW (es:=bV I.m va vn vc ea en ec) (k:=5) (jo _ _ _ _ _ _ _) rfl (λa Z=>by
   rw[Qx];have:=s (10+a) (show 10+a<15 by omega);rw[show k+P*15+10+a=k+P*Ql.k+(10+a) by show _=k+P*15+_;omega,this];rcases a with _|_|_|_|_|a<;>first|rfl|omega) (PC.ok (Ji L M) ?_)⟩
  rintro _ N ⟨⟨O,rfl,Q⟩,e⟩;refine⟨_,rfl,al.mk (λ_=>Ok.mk ⟨⟨_,rfl,sM⟩,(m.then i).then e⟩) (λR=>?_)⟩;refine⟨f,k,rfl,oM,oM,_,_,_,(e.cell (a:=⟨f,_,none⟩) J id).trans (by rw[Qx];exact s 14 dC),_,oM,P+1,an oM,oM,rfl,i.then e,?_⟩;rw[Qw,K];intro b g;rcases Q6.1 g with g|g
  ·exact j b g
  ·simp at g;subst g;exact Q R
 ·rintro o _ N ⟨e,j⟩
  have u:=e.get C id;refine⟨_,_,_,_,_,_,ae u rfl,ae u rfl,PC.ok (Jk (z.af (m.then e))) ?_⟩;rintro _ w4 ⟨⟨O,rfl⟩,S⟩;have p:=(m.then e).then S;refine⟨_,rfl,al.mk (λ_=>Ok.mk ⟨⟨_,rfl,sM⟩,p⟩) (λ_=>al.dec (λ_=>Ok.mk ⟨⟨_,rfl,sM⟩,p⟩) (λH=>Ok.mk ⟨⟨_,rfl,λ_=>⟨oM,j oM⟩⟩,p⟩))⟩
def Gx(q:Row aM 8 w D va vn d7.vec)(r:Row iC 96 w E ea en d7.events)(I:∀b∈d7.events,b.aJ.length<=100):
  ZH 57 #[jD d7 va vn vc ea en ec] w (Ok λJ w'=>∃c d s e f t G,J=jD d7 c d s e f t/\Row aM 8 w' G c d d7.vec/\Row iC 96 w' G e f d7.events/\(∀P,G P->w.heap.size<=P/\P<w'.heap.size)/\ai w w'):=by
 have K:=q.len;have L:=q.ef;have M:=r.len;have N:=r.ef;refine Bl (PA.mk λw1 O Z Q=>PA.mk λw2 y s2 R=>?_);have z:=O.then y;have A:=y.get Q id;refine⟨_,_,_,ae A rfl,PC.ok (rp (q.af z)) ?_⟩;rintro _ w3 ⟨h,i,j,S,rfl,B,k,l⟩;have z3:=k.size;have T:=B.aE;refine⟨_,_,_,rfl,PS.mk (k.get A id) (by simp[bV]) λU u s4 C=>⟨_,_,_,ae C rfl,?_⟩⟩;have F:ai w U:=(z.then k).new u λP a=>.inr (by have a:P=w.heap.size:=a;omega);refine PC.ok (zS (r.af F) I) ?_;rintro _ w5 ⟨m,n,o,V,rfl,H,g,v⟩;have z5:=g.size;have W:=H.aE;refine⟨_,_,_,rfl,PS.mk (g.get C id) (by simp[bV]) λw6 p s6 X=>ay (jo d7 h i j m n o) X (aC (jo d7 h i j m n o) (p.get (g.get (u.get (k.get R id) oM) id) oM) rfl λw7 x s7 Y=>ay (jo d7 h i j m n o) Y (Ok.mk ⟨h,i,j,m,n,o,λP=>S P\/V P,rfl,?_,?_,?_,?_⟩))⟩
 ·refine Row.mono ?_ λP a=>Or.inl a
  exact((((B.keep u λP a b=>by have b:P=w.heap.size:=b;have:=l P a;omega).af g).keep p λP a b=>by have b:P=w.heap.size:=b;have:=l P a;omega).keep x λP a b=>by have b:P=w1.heap.size:=b;have:=l P a;omega).row dC (by rw[<-K];exact L)
 ·refine Row.mono ?_ λP a=>Or.inr a
  exact py.row (((H.keep p λP a b=>by have b:P=w.heap.size:=b;have:=v P a;omega).keep x λP a b=>by have b:P=w1.heap.size:=b;have:=v P a;omega).row dC (by rw[<-M];exact N))
 ·rintro P (a|a)
  ·have:=l P a;have:=T P a;omega
  ·have:=v P a;have:=W P a;omega
 ·exact(((F.then g).new p λP a=>.inr (by have a:P=w.heap.size:=a;omega)).new x λP a=>.inr (by have a:P=w1.heap.size:=a;omega))
def bP.waits(d:bP w p F c self X):X.waits.length<=256:=by
 obtain⟨g,e,P,f⟩:=d;obtain⟨h,D,a,-,-⟩:=(show Ma w (λb=>F b/\P b=5) e.wp c.buffer.toNat X.waits from f.at' 5)
 exact Xx a.1.2.le a.1.1
def bP.ok(P:bP w p F c self X):mz c self:=P.1
def cO.after(P:ai w w1)(a:cO F w1 f w2):cO F w f w2:=⟨(ai.keep P).then a.keep,λb c=>(a.new b c).imp id λd=>by have:=P.size;omega⟩
def Jm(m:bP w p F c self X)(Q:Env w0 w F){a:zR}(n:a.Ok)(R:Row aM 8 w Dv va vn a.m.vec)(S:Row iC 96 w E ea en a.m.events)(T:∀U∈a.m.events,U.aJ.length<=100)(B:X.S.l.length<=18000000)(V:X.fM.asked.length<=1000):
  ZH 20 #[XP p,Sx a va vn vc ea en ec] w (Ok λW w'=>∃P,W= QH (zU c self X a).1/\bP w' p P c self (zU c self X a).2/\cO F w P w'/\jq X (zU c self X a).2):=by
 have C:=m.aE;have Y:=m.waits;have Z:=m.ok.zV;refine DE (PA.mk λw1 b s1 h=>⟨_,ae h rfl,?_⟩);have f:=m.af b;have o:=Q.af b;unfold zU;refine al.dU (λr=>?_) (λr=>?_)
 ·rw[Zx r]
  refine Kz (es:=g_ a.cmd) (BZ a.cmd) h (λj s=>by rcases j with _|_|_|_|_|_|_|j<;>first|rfl|exact Zz s (by simp[g_])) (PC.ok (wH f o n.cmd oM) ?_);rintro _ w2 ⟨P,⟨sa,sn,sc,xa,xn,xc,ra,rn,rc,G,rfl,-,-,-,-⟩,a2,a0⟩;refine⟨_,_,_,_,_,_,_,_,_,_,_,_,_,_,rfl,Ok.mk ⟨P,?_,a2,cO.after b a0,zW c self X a.cmd⟩⟩
  by_cases k:(dW c self X a.cmd).1≠0
  ·rw[Zx k]
  ·rw[Zq k];have k:(dW c self X a.cmd).1=0:=Classical.not_not.1 k;rw[k]
 rw[Zq r];refine al.dU (λt=>?_) (λt=>?_)
 ·rw[Zx t]
  intro w2 d2;have i:ai w1 w2:=d2.keep;have H:=i.get h id;refine⟨F,λu=>by have:=C _ u;omega,_,ae H rfl,_,ae H rfl,PC.ok Gw ?_⟩;rintro _ _ ⟨rfl,rfl⟩;refine⟨_,rfl,aj.refl _,PC.ok (uk (f.af i) n.n) ?_⟩;rintro _ l ⟨P,⟨I,J,K,L,M,rfl,-⟩,e,d⟩;exact⟨_,_,_,rfl,d.keep,Ok.mk ⟨P,rfl,e,cO.after (b.then i) d,zY c self X _ _⟩⟩
 rw[Zq t];refine al.dU (λv=>?_) (λv=>?_)
 ·rw[Zx v]
  refine Kz (es:=bV a.m va vn vc ea en ec) (jo _ _ _ _ _ _ _) h (λj s=>by rcases j with _|_|_|_|_|j<;>first|rfl|exact Zz s (by simp[bV])) (PC.ok (Gx (R.af b) (S.af b) T) ?_);rintro _ w2 ⟨a1,a3,a4,a5,a6,a7,G,rfl,a8,a9,N,i⟩;have z1:=b.size;have O:∀g,G g->g<w2.heap.size/\¬F g:=λg q=>⟨(N g q).2,λu=>by have:=C g u;have:=N g q;omega⟩
  refine cD (TG _ _ _ _ _ _ _) ⟨rfl,PC.ok (pK (f.af i) (o.af i) a8 O a9 O B) ?_⟩;rintro _ l ⟨v1,P,rfl,⟨I,J,K,L,M,rfl,-⟩,e,d⟩;exact⟨_,_,_,_,rfl,Ok.mk ⟨P,rfl,e,cO.after (b.then i) d,lE c self X a.m Y Z.2⟩⟩
 rw[Zq v];refine al.dU (λx=>?_) (λx=>?_)
 ·rw[Zx x]
  refine⟨_,ae h rfl,PC.ok Gw ?_⟩;rintro _ _ ⟨rfl,rfl⟩;refine⟨_,rfl,PC.ok (Og f V) ?_⟩;rintro _ l ⟨P,⟨I,J,K,L,M,rfl,-⟩,e,d⟩;exact⟨_,_,_,rfl,Ok.mk ⟨P,rfl,e,cO.after b d,Jn self X _⟩⟩
 rw[Zq x];refine al.dU (λy=>?_) (λy=>?_)
 ·rw[Zx y]
  refine⟨_,ae h rfl,PC.ok (Mb f o n.n) ?_⟩;rintro _ l ⟨P,rfl,e,d,b0⟩;refine⟨_,rfl,Ok.mk ⟨P,rfl,e,cO.after b d,.inr b0,?_⟩⟩;unfold iV;rw[wI];exact Qj _
 rw[Zq y];refine al.dU (λz=>?_) (λz=>?_)
 ·rw[Zx z]
  refine⟨_,ae h rfl,PC.ok (Oh f n.n) ?_⟩;rintro _ l ⟨P,rfl,e,d⟩;exact⟨rfl,Ok.mk ⟨P,rfl,e,cO.after b d,⟨.inl be,by dsimp only;omega⟩⟩⟩
 rw[Zq z];refine al.dU (λA=>?_) (λA=>?_)
 ·rw[Zx A]
  refine PC.ok (Gy f o B) ?_;rintro _ l ⟨P,rfl,e,d⟩;exact⟨_,rfl,Ok.mk ⟨P,rfl,e,cO.after b d,BE c X⟩⟩
 ·rw[Zq A]
  exact Ok.mk ⟨F,rfl,f,⟨ai.keep b,λg q=>.inl q⟩,jq.refl X⟩

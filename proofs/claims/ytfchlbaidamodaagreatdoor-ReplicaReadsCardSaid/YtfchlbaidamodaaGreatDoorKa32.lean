import Derived.Test.YtfchlbaidamodaaGreatDoorKa31
set_option linter.all false
set_option maxRecDepth 20000
namespace Go.Proofs.YtfchlbaidamodaaGreatDoor
open Go.ax
variable{d p:Option Addr}{L:aR}{b6:bD}
section
variable {w w':World} {D E:Nat->Prop} {a b:Option Addr} {n m c:Nat}
theorem ER (h:Row gC 32 w D a n b6.bH):Calls ZQ 77 #[.agg (eg b6 a n c).toArray] w (Ok λI w'=>∃q y r f,I= .agg (eg b6 q y r).toArray/\aV gC 125 f w' q y r b6.bH/\ai w w'/\∀b,f b->w.heap.size<=b):=by
 have Y:=h.len;have d:=h.d_;unfold aQ at d;refine Al (PA.mk λz J Z K=>PA.mk λs A s7 L=>?_);have M:=A.get K id;have B:=J.then A;refine⟨λC l e m i w'=>i=(e:Int)/\e<=n/\C=n-e/\∃f,aV gC 125 f w' l e m (b6.bH.take e)/\ai s w'/\∀b,f b->s.heap.size<=b,
  ⟨_,rfl,Qj _,rfl,λ_=>False,by simpa using aV.nil s,aj.refl _,λ_ h=>h.elim⟩,?_⟩
 rintro C l e m i _ w1 ⟨rfl,hj,rfl,f,o,g,j⟩;have t:=g.get M id;have E:=B.then g;have F:(b6.bH.take e).length=e:=by simp;omega
 refine⟨_,_,_,ae t rfl,al.dec (λN=>?_) (λN=>?_)⟩
 ·obtain⟨b,u,x,es,rfl,_,_,O,p,rfl,P⟩:=(h.af E).sS (i:=e) oM
  refine⟨_,_,_,ae t rfl,b,u,rfl,oM,oM,_,_,_,_,p 0 dC,p 1 dC,p 2 dC,p 3 dC,IL o Ms (x:=x) (D:=λ_=>False) ⟨rfl,P⟩ (λ_ h=>h.elim) (by rw [F];unfold aQ;omega) (by rw [F];unfold maxLen;omega) λq r Q R S T U _=>?_⟩;refine⟨_,_,_,rfl,n-(e+1),oM,an oM,oM,rfl,R,?_,g.new T λb d=>.inr (j b (o.self b d)),?_⟩
  ·rw [Qw,O];exact S
  ·intro b d
   have:=g.size;rcases U b d with h|h|h
   ·exact j b h
   ·exact h.elim
   ·omega
 ·obtain rfl:e=n:=oM
  rw [Qz oM]at o;have V:=g.get L id;refine PS.mk t sM λw2 v s2 W=>aw (cs:=eg b6 l e m) (fD _ _ _ _) W (aD (fD _ _ _ _) (v.get V oM) rfl λQ H s3 X=>aw (fD _ _ _ _) X (Ok.mk ⟨l,e,m,f,rfl,?_,?_,λb d=>by have:=j b d;have:=B.size;omega⟩))
  ·exact(o.keep v λb d k=>by have k:b=w.heap.size:=k;have:=j b d;omega).keep H λb d k=>by have k:b=z.heap.size:=k;have:=j b d;omega
  ·exact(E.new v λb d=>.inr (by have d:b=w.heap.size:=d;omega)).new H λb d=>.inr (by have d:b=z.heap.size:=d;omega)
theorem HP {tn tc W pc:Nat} (q:bh w D L d tn p W):
  Calls ZQ 39 #[.agg #[.slice d tn tc,.slice p W pc]] w (Ok λe0 w'=>∃I AW a3 J K a7 G,e0= .agg #[.slice I AW a3,.slice J K a7]/\bh w' G L I AW J K/\(∀b,G b->w.heap.size<=b/\b<w'.heap.size)/\ai w w'):=by
 have g8:=q.bd.len;have b3:=q.bd.d_;have g9:=q.Bk.len;have b4:=q.Bk.d_;refine BP (PA.mk λM k4 s4 g4=>PA.mk λi k5 s5 g5=>PA.mk λw6 k6 s6 g6=>?_);have b5:=k4.then k5;have d7:=b5.then k6;have gp:=k6.get (k5.get g4 id) id;have gr:=k6.get g5 id;have z6:=d7.size;refine⟨λm N w'=>∃g:Nat,N=g/\g<=tn/\m=tn-g/\aj (·=i.heap.size) w6 w'/\∃O P X Z,w'.heap[i.heap.size]? =some (.cells #[.slice O P X,.slice none 0 0] 25 (0,0))/\aV lv 130 Z w' O P X (L.types.take g)/\∀b,Z b->w6.heap.size<=b,
  ⟨_,0,rfl,Qj _,rfl,aj.refl _,none,0,0,λ_=>False,g6,aV.nil _,λ_ q=>q.elim⟩,?_⟩
 rintro m _ _ h ⟨g,rfl,hj,rfl,Q,O,P,X,Z,go,x,F⟩;have a4:ai w h:=d7.new Q λb c=>.inr (by have c:b=i.heap.size:=c;have:=b5.size;omega);have zk:=Q.size;have a0:=Q.get gp λe=>by have e:w.heap.size=i.heap.size:=e;omega
 refine⟨_,_,_,ae a0 rfl,al.dec (λj7=>?_) (λj8=>?_)⟩
 ·have h0:g<L.types.length:=oM
  have b6:L.types[g]? =some L.types[g]:=Qq h0;generalize L.types[g]=r at b6;obtain⟨b,B,es,ha,c,j9,e1,fa,fn,fc,rfl,b8⟩:=(q.bd.af a4).el g r b6;have c0:=e1 0 dC;have h2:lv.k=1:=rfl;rw [h2,Nat.mul_one]at c0;have h3:=b8.len;have b9:=b8.d_;refine PA.mk λk0 h4 k1 h6=>PS.mk h6 sM λa5 h7 k2 h8=>?_;have C:ai h a5:=h4.new h7 λb c=>.inr (by have c:b=h.heap.size:=c;omega);have e2:=C.get a0 id;have d9:=C.size;have e3:=a4.then C;refine⟨λm N w'=>∃l:Nat,N=l/\l<=fn/\m=fn-l/\aj (·=h.heap.size) a5 w'/\∃t u y v,w'.heap[h.heap.size]? =some (.cells #[.slice t u y] 130 (0,0))/\aV pT 123 v w' t u y (r.take l)/\∀b,v b->a5.heap.size<=b,
   ⟨_,0,rfl,Qj _,rfl,aj.refl _,none,0,0,λ_=>False,h8,aV.nil _,λ_ q=>q.elim⟩,?_⟩
  rintro m _ _ a6 ⟨l,rfl,hk,rfl,j,t,u,y,v,z,k,s⟩;have zx:=j.size;have e4:ai w a6:=e3.new j λb c=>.inr (by have c:b=h.heap.size:=c;have:=a4.size;omega);have b2:=j.get e2 λe=>by have e:w.heap.size=h.heap.size:=e;have:=aC a0;omega
  have b7:a6.cell? ⟨b,B+Int.toNat (g:Int),none⟩=some (.slice fa fn fc):=by
   rw [Qx];refine(j.cell (a:=⟨b,B+g,none⟩) (Qk c d9) λe=>by have e:b=h.heap.size:=e;omega).trans ((C.cell (a:=⟨b,B+g,none⟩) c id).trans ?_);exact c0
  refine⟨_,_,_,ae b2 rfl,b,B,ha,oM,oM,_,_,_,b7,al.dec (λe5=>?_) (λe6=>?_)⟩
  ·intro c1 h9
   have o:ai a6 c1:=h9.keep;have j6:=e4.then o;have e7:=o.get z id;have e8:=o.get b2 id;have f0:c1.cell? ⟨b,B+Int.toNat (g:Int),none⟩=some (.slice fa fn fc):=(o.cell (a:=⟨b,B+Int.toNat (g:Int),none⟩) (Qk (Qk c d9) zx) id).trans b7;have i0:l<r.length:=oM
   have c2:r[l]? =some r[l]:=Qq i0;generalize r[l]=H at c2;have f1:ai h c1:=(C.new j λb c=>.inr (by have c:b=h.heap.size:=c;omega)).then o;obtain⟨fb,fo,a8,rfl,-,-,c4,ya,yn,yc,rfl,c5,a9⟩:=(b8.af f1).el l H c2;have f3:=c5.len;have f5:=c5.d_;refine⟨λ_=>False,id,_,_,_,ae e7 rfl,_,_,_,ae e8 rfl,b,B,ha,oM,oM,_,_,_,f0,fb,fo,rfl,oM,oM,br (es:=eg H ya yn yc) (k:=4) (fD _ _ _ _) rfl (λr ht=>by rw [Qx];exact c4 r ht) (PC.ok (ER c5) ?_)⟩;rintro _ k3 ⟨a,n,cc,Fm,rfl,c6,e9,f2⟩;have f6:=c6.aF;refine⟨_,_,_,_,_,_,rfl,e9,PA.mk λf4 c7 k7 i1=>⟨c7,?_⟩⟩;have a1:ai a6 f4:=(o.then e9).then c7;have k8:=c6.len dC;have f7:Row gC 32 f4 Fm a n H.bH:=(c6.af c7).row dC (by rw [<-f3];exact f5);refine fh (c:=pT) (x:=H) (k.af a1) RX i1 (D:=Fm) ⟨a,n,cc,rfl,f7,a9⟩ (λb c=>⟨by have:=f6 b c;omega,λe=>by have:=k.aF b (k.self b e);have:=f2 b c;have:=o.size;omega⟩) (by rw [Qy];unfold aQ at*;omega) (by rw [Qy];unfold aQ at b9;unfold maxLen;omega) λR S i2 A b0 E T=>⟨_,_,_,rfl,?_⟩
   have c9:¬aI t=some h.heap.size:=λe=>by have:=s _ (k.self _ e);omega
   have k9:=a1.size;have i3:=E.size;have zd:=o.size;have f:∀b,A b->a5.heap.size<=b:=λb c=>by
    rcases T b c with Y|Y|Y
    ·exact s b Y
    ·have:=f2 b Y;omega
    ·omega
   refine PS.mk (E.get (a1.get z id) c9) sM λi4 U i5 d0=>⟨_,oM,l+1,an (by unfold aQ at b9;omega),oM,rfl,((j.af a1).new E λb c=>.inr (s b (k.self b c))).then U,R,u+1,S,A,d0,?_,f⟩
   rw [Qw,c2];exact b0.keep U λb c e=>by have e:b=h.heap.size:=e;have:=f b c;omega
  ·rw [Qz oM]at k
   have c3:=j.get (C.get go id) λe=>by have e:i.heap.size=h.heap.size:=e;have:=aC go;omega
   refine⟨_,_,_,ae c3 rfl,_,_,_,ae z rfl,PA.mk λi6 d1 l0 i7=>?_⟩;have b1:ai h i6:=(C.new j λb c=>.inr (by have c:b=h.heap.size:=c;omega)).then d1;refine fh (c:=lv) (x:=r) (x.af b1) NO i7 (D:=v) ⟨t,u,y,rfl,(k.af d1).row dC (by rw [<-h3];exact b9)⟩ (λb c=>⟨by have:=k.aF b c;omega,λe=>by have:=x.aF b (x.self b e);have:=s b c;omega⟩) (by rw [Qy];unfold aQ at*;omega) (by rw [Qy];unfold aQ at b3;unfold maxLen;omega) λR S l3 A f8 d2 T=>⟨_,_,_,rfl,?_⟩
   have i8:¬aI O=some i.heap.size:=λe=>by have:=F _ (x.self _ e);omega
   have l4:=b1.size;have l5:=d2.size;have f:∀b,A b->w6.heap.size<=b:=λb c=>by
    rcases T b c with Y|Y|Y
    ·exact F b Y
    ·have:=s b Y;omega
    ·omega
   refine PS.mk (d2.get (d1.get c3 id) i8) sM λl6 c8 l7 i9=>⟨_,oM,g+1,an (by unfold aQ at b3;omega),oM,rfl,((Q.af b1).new d2 λb c=>.inr (F b (x.self b c))).then c8,R,P+1,S,A,i9,?_,f⟩
   rw [Qw,b6];exact f8.keep c8 λb c e=>by have e:b=i.heap.size:=e;have:=f b c;omega
 ·rw [Qz oM]at x
  have f9:=x.aF;refine⟨λm N w'=>∃g:Nat,N=g/\g<=W/\m=W-g/\aj (·=i.heap.size) h w'/\∃t u y v,w'.heap[i.heap.size]? =some (.cells #[.slice O P X,.slice t u y] 25 (0,0))/\aV wH 128 v w' t u y (L.projs.take g)/\∀b,v b->h.heap.size<=b,
   ⟨_,0,rfl,Qj _,rfl,aj.refl _,none,0,0,λ_=>False,go,aV.nil _,λ_ q=>q.elim⟩,?_⟩
  rintro m _ _ d3 ⟨l,rfl,hk,rfl,j,t,u,y,v,z,k,s⟩;have zx:=j.size;have d4:ai w d3:=a4.new j λb c=>.inr (by have c:b=i.heap.size:=c;have:=b5.size;omega);have d8:=j.get a0 λe=>by have e:w.heap.size=i.heap.size:=e;omega
  refine⟨_,_,_,ae d8 rfl,al.dec (λe5=>?_) (λe6=>?_)⟩
  ·intro j0 j1
   have o:ai d3 j0:=j1.keep;have g0:=o.get z id;obtain⟨fb,fo,H,a8,rfl,-,-,j2,c4,rfl,a9⟩:=(q.Bk.af (d4.then o)).sS (i:=l) oM;have V:=λr (ht:r<5)=>c4 r ht;refine⟨λ_=>False,id,_,_,_,ae g0 rfl,_,_,_,ae (o.get d8 id) rfl,fb,fo,rfl,oM,oM,_,_,_,_,_,V 0 dC,V 1 dC,V 2 dC,V 3 dC,V 4 dC,PA.mk λj3 g1 l8 j4=>⟨g1,?_⟩⟩;have a2:ai d3 j3:=o.then g1;refine fh (c:=wH) (x:=H) (k.af a2) Mh j4 (D:=λ_=>False) ⟨rfl,a9⟩ (λb c=>c.elim) (by rw [Qy];unfold aQ at*;omega) (by rw [Qy];unfold aQ at b4;unfold maxLen;omega) λR S i2 A b0 E T=>⟨_,_,_,rfl,?_⟩
   have c9:¬aI t=some i.heap.size:=λe=>by have:=s _ (k.self _ e);omega
   have l9:=a2.size;have i3:=E.size;have zd:=o.size;have f:∀b,A b->h.heap.size<=b:=λb c=>by
    rcases T b c with Y|Y|Y
    ·exact s b Y
    ·exact Y.elim
    ·omega
   refine PS.mk (E.get (a2.get z id) c9) sM λi4 U i5 d0=>⟨_,oM,l+1,an (by unfold aQ at b4;omega),oM,rfl,((j.af a2).new E λb c=>.inr (s b (k.self b c))).then U,R,u+1,S,A,d0,?_,f⟩
   rw [Qw,j2];exact b0.keep U λb c e=>by have e:b=i.heap.size:=e;have:=f b c;omega
  ·rw [Qz oM]at k
   have g2:=k.aF;have g3:=j.get (Q.get gr λe=>by have e:M.heap.size=i.heap.size:=e;omega) λe=>by have e:M.heap.size=i.heap.size:=e;omega
   have h1:=x.keep j λb c e=>by have e:b=i.heap.size:=e;have:=F b c;omega
   refine⟨_,_,_,_,_,_,ae z rfl,ae z rfl,PS.mk g3 sM λm0 d5 m1 j5=>PS.mk j5 sM λm2 d6 m3 g7=>⟨_,_,_,_,_,_,ae g7 rfl,ae g7 rfl,Ok.mk ⟨_,_,_,_,_,_,λb=>Z b\/v b,rfl,⟨?_,?_⟩,?_,?_⟩⟩⟩
   ·exact(((h1.row (bytes:=24) dC (by rw [<-g8];exact b3)).keep (d5.then d6) λb c e=>by have e:b=M.heap.size:=e;have:=F b c;omega)).mono λb c=>.inl c
   ·exact(((k.row (bytes:=40) dC (by rw [<-g9];exact b4)).keep (d5.then d6) λb c e=>by have e:b=M.heap.size:=e;have:=s b c;omega)).mono λb c=>.inr c
   ·have z4:=k4.size
    rintro b (c|c)
    ·have:=F b c;have:=f9 b c;omega
    ·have:=s b c;have:=g2 b c;omega
   ·exact d4.new (d5.then d6) λb c=>.inr (by have c:b=M.heap.size:=c;have:=k4.size;omega)
theorem wN {c:cz} {tn u r v:Nat} (x:bh w D c.decl d tn p r):
  Calls ZQ 13 #[lK c d tn u p r v] w (Ok λy w'=>∃a AW g e f h G,y=lK c a AW g e f h/\bh w' G c.decl a AW e f/\(∀b,G b->w.heap.size<=b/\b<w'.heap.size)/\ai w w'):=by
 refine BM (PA.mk λl s J z=>PA.mk λK m L A=>?_);have n:=m.get z id;refine⟨_,_,_,_,_,_,ae n rfl,ae n rfl,PC.ok (HP (x.af (s.then m))) ?_⟩;rintro _ M ⟨a,AW,g,e,f,h,G,rfl,B,o,k⟩;have N:=k.size;refine⟨_,_,_,_,_,_,rfl,PS.mk (k.get n id) sM λO C P E=>PS.mk E sM λQ F R H=>?_⟩;have q:=C.then F;refine aw (gD c a AW g e f h) H (aD (gD c a AW g e f h) (q.get (k.get A id) λj=>by have j:l.heap.size=w.heap.size:=j;omega) rfl λS t T I=>aw (gD c a AW g e f h) I (Ok.mk ⟨_,_,_,_,_,_,G,rfl,?_,λb i=>?_,?_⟩))
 ·exact(B.keep q λb i j=>by have j:b=w.heap.size:=j;have:=o b i;omega).keep t λb i j=>by have j:b=l.heap.size:=j;have:=o b i;omega
 ·have:=o b i;omega
 ·exact(((s.then m).then k).new q λb i=>.inr (by have i:b=w.heap.size:=i;omega)).new t λb i=>.inr (by have i:b=l.heap.size:=i;omega)
end
structure yE where
 kind:Int
 n:Int
 now:Int
 cmd:jS
 m:dz
section
variable (c:cz) (self:Int)
def CO (b:bw) (a:yE):Int×bw:=
 if a.kind=0 then((cm c self b a.cmd).1,(cm c self b a.cmd).2.2)else
 if a.kind=1 then(0,(gP c self b a.n (pick a.now 4611686018427387904)).2)else
 if a.kind=2 then(bA c self b a.m).2 else
 if a.kind=3 then(0,(KC self b (pick a.now 4611686018427387904)).2)else
 if a.kind=4 then iS c b a.n else
 if a.kind=5 then(0,{b with D:=b.D.Ma a.n})else
 if a.kind=6 then eC c b else(0,b)
end
structure ke (X Y:bw):Prop where
 evs:Y.S.l.length<=X.S.l.length+300\/Y.S.l.length<=16777216
 asked:Y.fP.asked.length<=X.fP.asked.length+1
theorem ke.refl (a:bw):ke a a:=⟨.inl oM,oM⟩
theorem KE {a b:Type} [BEq a] [LawfulBEq a] (c:a) (d:b):∀(e:List (a×b)),(aJ e c d).length<=e.length+1
 |[]=>by simp [aJ]
 |(g,h)::f=>by
  unfold aJ;split
  ·simp
  ·have:=KE c d f
   simp;omega
theorem Gx {b e:Type} [BEq b] [LawfulBEq b] (a:b) (f:e):∀(d:List (b×e)),a∈d.map (·.1)->(aJ d a f).map (·.1)=d.map (·.1)
 |[],h=>by simp at h
 |(i,k)::g,h=>by
  unfold aJ
  by_cases c:(a==i)=true
  ·rw [if_pos c]
   have:=eq_of_beq c;subst this;rfl
  ·rw [if_neg c]
   have j:a∈g.map (·.1):=by
    rcases Q2.1 h with h|h
    ·exact absurd (by rw [h];simp) c
    ·exact h
   simp [Gx a f g j]
theorem KF {a d:Type} [BEq a] [LawfulBEq a] (b:a):∀(c:List (a×d)),(bV c b).length<=c.length
 |[]=>by simp [bV]
 |(f,g)::e=>by
  unfold bV;split
  ·simp
  ·have:=KF b e
   simp;omega
theorem Iq (d a:Int) (b:List Int×List (Int×Int)) (c:Int) (e:c∈b.2.map (·.1)):(gA d a b c).2.map (·.1)=b.2.map (·.1):=by
 unfold gA;split
 ·exact Gx _ _ _ e
 ·rfl
theorem xv (d a:Int):∀(c:List Int) (b:List Int×List (Int×Int)),(∀x∈c,x∈b.2.map (·.1))->(c.foldl (gA d a) b).2.map (·.1)=b.2.map (·.1)
 |[],b,_=>rfl
 |x::c,b,e=>by
  have f:=Iq d a b x (e x (QV ..));rw [List.foldl_cons,xv d a c _ λg h=>by rw [f];exact e g (QJ _ h),f]
theorem kr.SX (a:kr) (b:Int):(a.SV b).asked.length=a.asked.length:=by
 have d:=xv a.dx b (a.open.take a.open.length) ([],a.asked) λe c=>by
  have c:=List.mem_of_mem_take c;unfold kr.open at c;exact(List.mergeSort_perm _ _).mem_iff.1 c
 have:=congrArg List.length d;rw [Q8,Q8]at this;exact this
theorem sQ (a:Nat):∀(d:List ah) (f:aq) (b c:List ah),(dI a d f b c).2.1.length+(dI a d f b c).2.2.length<=b.length+c.length+d.length
 |[],f,b,c=>by simp [dI]
 |e::d,f,b,c=>by
  unfold dI;split
  ·have:=sQ a d (f.add e).2 (b++[e]) c
   simp at this⊢;omega
  split
  ·have:=sQ a d f b c
   simp;omega
  ·have:=sQ a d f b (dQ a c e).2
   have:=DI a c e;simp;omega
theorem sq:∀(b:List ah) (c:aq) (a:List ah),(dP b c a).2.length<=a.length+b.length
 |[],c,a=>by simp [dP]
 |e::b,c,a=>by
  unfold dP;split
  ·have:=sq b (c.add e).2 (a++[e])
   simp at this⊢;omega
  ·have:=sq b (c.add e).2 a
   simp;omega
theorem Gy:∀(k:Nat) (b:aq) (a c:List ah),(kW k b a c).1.length<=a.length+c.length
 |0,b,a,c=>by simp [kW]
 |k+1,b,a,c=>by
  unfold kW;have d:=xu b c;dsimp only;split
  ·simp
  ·have e:=sq (bI b c).1 b a
   have f:=Gy k (dP (bI b c).1 b a).1 (dP (bI b c).1 b a).2 (bI b c).2;omega
theorem CV (b:cz) (a:bw) (c:List ah):(fm b a c).1.length<=a.waits.length+c.length:=by
 have d:=sQ b.buffer.toNat c (dZ b a.S []) [] a.waits;have e:=Gy ((dI b.buffer.toNat c (dZ b a.S []) [] a.waits).2.2.length+1) (dI b.buffer.toNat c (dZ b a.S []) [] a.waits).1 (dI b.buffer.toNat c (dZ b a.S []) [] a.waits).2.1 (dI b.buffer.toNat c (dZ b a.S []) [] a.waits).2.2;simp at d;unfold fm;dsimp only;omega
theorem QC (c:cz) (a:aq) (b:List ah):(dZ c a b).l.length<=a.l.length+b.length:=by
 have:=aq.np (a.l++b) ⟨c.bl.toNat,[]⟩;unfold dZ;simp at this⊢;omega
theorem Gz (c:cz) (a:bw) (b:List ah):(bU c a b).2.S.l.length<=a.S.l.length+b.length/\(bU c a b).2.fP=a.fP:=by
 unfold bU
 cases a.log with
 |none=>exact⟨by dsimp only;omega,rfl⟩
 |some d=>
  dsimp only;split
  ·exact⟨by dsimp only;omega,rfl⟩
  split
  ·exact⟨by dsimp only;omega,rfl⟩
  ·exact⟨QC c a.S b,rfl⟩
theorem CP (c:cz) (b:Int) (a:bw) (d:jS):ke a (cm c b a d).2.2:=by
 unfold cm
 cases a.log with
 |none=>exact ke.refl a
 |some e=>
  dsimp only;split
  ·exact ke.refl a
  split
  ·have:=Gz c a [(kV c.decl a.S (cG c.decl a.S.l) b c.start d).1]
   simp at this;split
   ·exact⟨.inl (by dsimp only;omega),by dsimp only;rw [this.2];omega⟩
   ·exact⟨.inl (by dsimp only;omega),by dsimp only;rw [this.2];omega⟩
  ·exact ke.refl a
theorem mW (d:cz) (e:Int) (a:bw) (b:dz) (k:a.waits.length<=256) (l:d.chunk<=32):ke a (bA d e a b).2.2:=by
 unfold bA
 cases a.log with
 |none=>exact ke.refl a
 |some m=>
  dsimp only;split
  ·exact ke.refl a
  rename_i i;split
  ·exact ke.refl a
  split
  ·rename_i j
   have n:b.events.length<=32:=by
    rcases Nat.lt_or_ge 32 b.events.length with h|h
    ·exfalso
     apply i;unfold dJ;rw [if_pos j];intro c;split at c
     ·cases c
     ·unfold ez at c
      split at c
      ·cases c
      ·rw [if_pos (.inr oM)]at c;cases c
    ·exact h
   unfold ia;have o:=CV d a b.events;dsimp only;split
   ·exact⟨.inl (by dsimp only;omega),by dsimp only;omega⟩
   ·have f:=Gz d {a with waits:=(fm d a b.events).2} (fm d a b.events).1
    dsimp only at f;split
    ·exact⟨.inl (by dsimp only;omega),by dsimp only;rw [f.2];omega⟩
    ·exact⟨.inl (by dsimp only;omega),by dsimp only;rw [f.2];omega⟩
  ·have g:(a.fP.AP b.ck b.vec a.S.vec).asked.length<=a.fP.asked.length+1:=by
    unfold kr.AP;dsimp only;split
    ·have:=KF b.ck a.fP.asked;omega
    ·omega
   split
   ·exact⟨.inl (by dsimp only;omega),g⟩
   split
   ·exact⟨.inl (by dsimp only;omega),g⟩
   ·exact⟨.inl (by dsimp only;omega),g⟩
theorem CQ (e:cz) (a:Int) (c:bw) (b d:Int):ke c (gP e a c b d).2:=by
 unfold gP;split
 ·exact ke.refl c
 ·exact⟨.inl (by dsimp only;omega),KE _ _ _⟩
theorem Mx (a:Int) (c:bw) (b:Int):ke c (KC a c b).2:=by
 unfold KC;exact⟨.inl (by dsimp only;omega),by dsimp only;rw [kr.SX];omega⟩
theorem zl (b:cz) (a:bw):(eR b a).2.fP=a.fP:=by
 unfold eR;dsimp only;split<;>rfl
theorem ES (b:cz) (a:bw):ke a (eC b a).2:=by
 unfold eC
 cases a.log with
 |none=>exact ke.refl a
 |some c=>
  dsimp only;split
  ·exact⟨.inl (by dsimp only;omega),by dsimp only;omega⟩
  ·exact⟨.inl (by dsimp only;omega),by dsimp only;omega⟩
structure yE.Ok (x:yE):Prop where
 kind:aN x.kind
 n:aN x.n
 now:aN x.now
 cmd:x.cmd.Ok
def jZ (a:yE) (b:Option Addr) (c d:Nat) (e:Option Addr) (f g:Nat):List Value:=[QH a.kind,QH a.n,QH a.now]++gJ a.cmd++cD a.m b c d e f g
abbrev Wc (a:yE) (b:Option Addr) (c d:Nat) (e:Option Addr) (f g:Nat):Value:=.agg (jZ a b c d e f g).toArray
theorem Of (a:yE) (b:Option Addr) (c d:Nat) (e:Option Addr) (f g:Nat):jg ZQ 72 (jZ a b c d e f g)=true:=kR
theorem FT (a:ve) (b:Option Addr) (c d:Nat) (e:Option Addr) (f g:Nat) (h:Option Addr) (i j:Nat):TF (fe ZQ 46) (.agg (n_ a b c d e f g h i j).toArray)=true:=kR
theorem JH (a:cz) (b:Option Addr) (tn c:Nat) (d:Option Addr) (e f:Nat):TF (fe ZQ 28) (lK a b tn c d e f)=true:=kR
def PJ:kM yE where
 k:=15
 rep:=λn D i cs=>∃a b e c d f,cs=jZ i a b e c d f/\Row aP 8 n D a b i.m.vec/\Row fZ 96 n D c d i.m.events/\i.Ok
 keep:=λ⟨a,b,e,c,d,f,g,j,k,l⟩ o h=>⟨a,b,e,c,d,f,g,j.keep o h,k.keep o h,l⟩
 mono:=λ⟨a,b,e,c,d,f,g,j,k,l⟩ h=>⟨a,b,e,c,d,f,g,j.mono h,k.mono h,l⟩
 len:=λ⟨a,b,e,c,d,f,g,_⟩=>by rw [g];rfl
 one:=λ⟨a,b,e,c,d,f,g,_⟩ p m=>by
  rw [g]at m;simp only [jZ,gJ,cD,List.cons_append,List.nil_append,Q2,List.not_mem_nil,or_false]at m;rcases m with rfl|rfl|rfl|rfl|rfl|rfl|rfl|rfl|rfl|rfl|rfl|rfl|rfl|rfl|rfl<;>rfl
variable{r:Array Value}{e:Int}{h0:List yE}{a c:Nat}{f:Nat->Prop}{H:Nat×Nat}{h:Program}{g q:TypeId}{R:Value->Prop}{b:World}{f3:dz}
theorem Og {es:List Value} (i:jg h g es=true) (j:b.heap[a]? =some (.cells r q H)) (k:∀d,d<es.length->r[c+d]? =es[d]?) (l:R (.agg es.toArray)):ow h g (.pointer (some ⟨a,c,none⟩)) b R:=
 br i rfl (λd e=>by
  have f:=k d e;rw [Qq e]at f⊢;exact ae j f) l
section
variable {w w' w0 w1 w2:World} {p:Nat} {F E D Dv:Nat->Prop} {c:cz} {self:Int} {X:bw} {va ea:Option Addr} {vn vc en ec:Nat}
theorem JI :Calls ZQ 56 #[QH e] w (Ok λa w'=>a= QH (pick e 4611686018427387904)/\w=w'):=by
 refine LF (PC.ok (CN (by unfold aN;omega)) ?_);rintro _ _ ⟨rfl,rfl⟩;exact⟨_,rfl,Ok.mk ⟨rfl,rfl⟩⟩
theorem Mt (j:Row aP 8 w D va vn f3.vec) (f:Row fZ 96 w E ea en f3.events):
  Calls ZQ 28 #[kD f3 va vn vc ea en ec] w (Ok λg w'=>(∃d:Bool,g= .bool d/\(d=false->∀a∈f3.events,a.aK.length<=100))/\ai w w'):=by
 refine Hj (PA.mk λw1 b k e=>⟨_,_,_,ae e rfl,al.dec (λ_=>Ok.mk ⟨⟨_,rfl,sM⟩,b⟩) (λ_=>⟨_,_,_,ae e rfl,PC.ok (Mu (f.af b)) ?_⟩)⟩);rintro _ _ ⟨rfl,rfl⟩;refine⟨_,rfl,Ok.mk ⟨⟨_,rfl,λc a h=>?_⟩,b⟩⟩;have c:=Xy c;exact Nat.le_of_not_lt λi=>c (.inl ⟨a,h,i⟩)
theorem Mv {k l:Option Addr} {tn p m q:Nat} (h:bh w D L k tn l m):Calls ZQ 29 #[.agg #[.slice k tn p,.slice l m q]] w (Ok λr w'=>(∃e:Bool,r= .bool e)/\ai w w'):=by
 have B:=h.bd.len;have s:=h.bd.d_;unfold aQ at s;refine Hk (PA.mk λw1 a C b=>⟨_,_,_,ae b rfl,al.dec (λ_=>Ok.mk ⟨⟨_,rfl⟩,a⟩) (λ_=>⟨_,_,_,ae b rfl,al.dec (λ_=>Ok.mk ⟨⟨_,rfl⟩,a⟩) (λ_=>?_)⟩)⟩);refine⟨λf i w'=>∃c:Nat,i=c/\c<=tn/\f=tn-c/\w1=w',⟨_,0,rfl,Qj _,rfl,rfl⟩,?_⟩;rintro f _ _ _ ⟨c,rfl,E,rfl,rfl⟩;refine⟨_,_,_,ae b rfl,al.dec (λF=>?_) (λ_=>Ok.mk ⟨⟨_,rfl⟩,a⟩)⟩;obtain⟨e,j,H,I,rfl,J,-,K,t,M,n,N,rfl,o⟩:=(h.bd.af a).sS (i:=c) oM;have g:=t 0 dC;have u:lv.k=1:=rfl;rw [u,Nat.mul_one]at g;have v:=o.d_;unfold aQ at v;refine⟨_,_,_,ae b rfl,e,j,rfl,oM,oM,_,_,_,g,al.dec (λ_=>Ok.mk ⟨⟨_,rfl⟩,a⟩) (λ_=>?_)⟩;refine⟨λf i w'=>∃d:Nat,i=d/\d<=n/\f=n-d/\w1=w',⟨_,0,rfl,Qj _,rfl,rfl⟩,?_⟩;rintro f _ _ _ ⟨d,rfl,O,rfl,rfl⟩;refine⟨_,_,_,ae b rfl,e,j,rfl,oM,oM,_,_,_,g,al.dec (λP=>?_) (λ_=>⟨_,oM,c+1,an oM,oM,rfl,rfl⟩)⟩;obtain⟨x,y,Q,z,rfl,-,-,R,A,S,T,U,rfl,-,-⟩:=o.sS (i:=d) oM;exact⟨_,_,_,ae b rfl,e,j,rfl,oM,oM,_,_,_,g,x,y,rfl,oM,oM,_,_,_,A 3 dC,al.dec (λ_=>Ok.mk ⟨⟨_,rfl⟩,a⟩) (λ_=>⟨_,oM,d+1,an oM,oM,rfl,rfl⟩)⟩
theorem oX {q r s:Option Addr} {tn y t z l A:Nat} (B:bh w D c.decl q tn r t) (n:Row PJ 152 w E s l h0):
  Calls ZQ 10 #[lK c q tn y r t z,.slice s l A] w (Ok λC w'=>(∃f:Bool,C= .bool f/\(f=false->h0.length<=100/\∀d∈h0,∀h∈d.m.events,h.aK.length<=100))/\ai w w'):=by
 have U:=n.len;have F:=n.d_;unfold aQ at F;refine Hh (PA.mk λw1 m V H=>?_);refine⟨λo w'=>ai w1 w'/\(h0.length<=100->∀d∈h0,∀h∈d.m.events,h.aK.length<=100),⟨λu o b w'=>∃a:Nat,b=a/\a<=l/\u=l-a/\ai w1 w'/\∀d∈h0.take a,∀h∈d.m.events,h.aK.length<=100,⟨_,0,rfl,Qj _,rfl,aj.refl _,sM⟩,?_⟩,?_⟩
 ·rintro u o _ _ w2 ⟨a,rfl,W,rfl,i,j⟩
  refine al.dec (λX=>al.dec (λI=>?_) (λI=>⟨i,λJ=>oM⟩)) (λY=>⟨i,λ_=>by rw [Qz oM]at j;exact j⟩);obtain⟨f,k,K,Z,rfl,L,-,M,v,va,vn,vc,ea,en,ec,rfl,N,O,-⟩:=(n.af (m.then i)).sS (i:=a) oM;refine⟨f,k,rfl,oM,oM,br (es:=cD K.m va vn vc ea en ec) (k:=5) (j_ _ _ _ _ _ _ _) rfl (λb ht=>by
   rw [Qx];have:=v (10+b) (show 10+b<15 by omega);rw [show k+a*15+10+b=k+a*PJ.k+(10+b) by show _=k+a*15+_;omega,this];rcases b with _|_|_|_|_|b<;>first|rfl|omega) (PC.ok (Mt N O) ?_)⟩
  rintro _ P ⟨⟨Q,rfl,R⟩,e⟩;refine⟨_,rfl,al.mk (λ_=>Ok.mk ⟨⟨_,rfl,sM⟩,(m.then i).then e⟩) (λS=>?_)⟩;refine⟨f,k,rfl,oM,oM,_,_,_,(e.cell (a:=⟨f,_,none⟩) L id).trans (by rw [Qx];exact v 14 dC),_,oM,a+1,an oM,oM,rfl,i.then e,?_⟩;rw [Qw,M];intro d g;rcases Q6.1 g with g|g
  ·exact j d g
  ·simp at g;subst g;exact R S
 ·rintro o _ P ⟨e,j⟩
  have x:=e.get H id;refine⟨_,_,_,_,_,_,ae x rfl,ae x rfl,PC.ok (Mv (B.af (m.then e))) ?_⟩;rintro _ w4 ⟨⟨Q,rfl⟩,T⟩;have p:=(m.then e).then T;refine⟨_,rfl,al.mk (λ_=>Ok.mk ⟨⟨_,rfl,sM⟩,p⟩) (λ_=>al.dec (λ_=>Ok.mk ⟨⟨_,rfl,sM⟩,p⟩) (λJ=>Ok.mk ⟨⟨_,rfl,λ_=>⟨oM,j oM⟩⟩,p⟩))⟩
theorem JJ (r:Row aP 8 w D va vn f3.vec) (s:Row fZ 96 w E ea en f3.events) (J:∀c∈f3.events,c.aK.length<=100):
  Calls ZQ 57 #[kD f3 va vn vc ea en ec] w (Ok λK w'=>∃d e t f g u G,K=kD f3 d e t f g u/\Row aP 8 w' G d e f3.vec/\Row fZ 96 w' G f g f3.events/\(∀a,G a->w.heap.size<=a/\a<w'.heap.size)/\ai w w'):=by
 have L:=r.len;have M:=r.d_;have N:=s.len;have O:=s.d_;refine Eu (PA.mk λw1 P Z Q=>PA.mk λw2 z s2 R=>?_);have A:=P.then z;have B:=z.get Q id;refine⟨_,_,_,ae B rfl,PC.ok (tS (r.af A)) ?_⟩;rintro _ w3 ⟨i,j,k,S,rfl,C,l,m⟩;have z3:=l.size;have T:=C.aF;refine⟨_,_,_,rfl,PS.mk (l.get B id) (by simp [cD]) λU v s4 F=>⟨_,_,_,ae F rfl,?_⟩⟩;have H:ai w U:=(A.then l).new v λa b=>.inr (by have b:a=w.heap.size:=b;omega);refine PC.ok (rK (s.af H) J) ?_;rintro _ w5 ⟨n,o,p,V,rfl,I,h,x⟩;have z5:=h.size;have W:=I.aF;refine⟨_,_,_,rfl,PS.mk (h.get F id) (by simp [cD]) λw6 q s6 X=>aw (j_ f3 i j k n o p) X (aD (j_ f3 i j k n o p) (q.get (h.get (v.get (l.get R id) oM) id) oM) rfl λw7 y s7 Y=>aw (j_ f3 i j k n o p) Y (Ok.mk ⟨i,j,k,n,o,p,λa=>S a\/V a,rfl,?_,?_,?_,?_⟩))⟩
 ·refine Row.mono ?_ λa b=>Or.inl b
  exact((((C.keep v λa b c=>by have c:a=w.heap.size:=c;have:=m a b;omega).af h).keep q λa b c=>by have c:a=w.heap.size:=c;have:=m a b;omega).keep y λa b c=>by have c:a=w1.heap.size:=c;have:=m a b;omega).row dC (by rw [<-L];exact M)
 ·refine Row.mono ?_ λa b=>Or.inr b
  exact qz.row (((I.keep q λa b c=>by have c:a=w.heap.size:=c;have:=x a b;omega).keep y λa b c=>by have c:a=w1.heap.size:=c;have:=x a b;omega).row dC (by rw [<-N];exact O))
 ·rintro a (b|b)
  ·have:=m a b;have:=T a b;omega
  ·have:=x a b;have:=W a b;omega
 ·exact(((H.then h).new q λa b=>.inr (by have b:a=w.heap.size:=b;omega)).new y λa b=>.inr (by have b:a=w1.heap.size:=b;omega))
theorem bP.waits (e:bP w p F c self X):X.waits.length<=256:=by
 obtain⟨h,f,a,g⟩:=e;obtain⟨i,D,b,-,-⟩:=(show Mw w (λd=>F d/\a d=5) f.wp c.buffer.toNat X.waits from g.at' 5)
 exact Xx b.1.2.le b.1.1
theorem bP.ok (a:bP w p F c self X):kU c self:=a.1
theorem de.after (a:ai w w1) (b:de F w1 f w2):de F w f w2:=⟨(ai.keep a).then b.keep,λc d=>(b.new c d).imp id λe=>by have:=a.size;omega⟩
theorem oY (n:bP w p F c self X) (Q:Env w0 w F) {b:yE} (o:b.Ok) (R:Row aP 8 w Dv va vn b.m.vec) (S:Row fZ 96 w E ea en b.m.events) (T:∀U∈b.m.events,U.aK.length<=100) (C:X.S.l.length<=18000000) (V:X.fP.asked.length<=1000):
  Calls ZQ 24 #[.pointer (some ⟨p,0,none⟩),Wc b va vn vc ea en ec] w (Ok λW w'=>∃a,W= QH (CO c self X b).1/\bP w' p a c self (CO c self X b).2/\de F w a w'/\ke X (CO c self X b).2):=by
 have H:=n.aF;have Y:=n.waits;have Z:=n.ok.vf;refine Hi (PA.mk λw1 d s1 i=>⟨_,ae i rfl,?_⟩);have g:=n.af d;have q:=Q.af d;unfold CO;refine al.dX (λs=>?_) (λs=>?_)
 ·rw [if_pos s]
  refine Og (es:=gJ b.cmd) (BF b.cmd) i (λk t=>by rcases k with _|_|_|_|_|_|_|k<;>first|rfl|exact absurd t (by simp [gJ])) (PC.ok (rL g q o.cmd oM) ?_);rintro _ w2 ⟨a,⟨sa,sn,sc,xa,xn,xc,ra,rn,rc,G,rfl,-,-,-,-⟩,a2,a0⟩;refine⟨_,_,_,_,_,_,_,_,_,_,_,_,_,_,rfl,Ok.mk ⟨a,?_,a2,de.after d a0,CP c self X b.cmd⟩⟩
  by_cases l:(cm c self X b.cmd).1≠0
  ·rw [if_pos l]
  ·rw [if_neg l];have l:(cm c self X b.cmd).1=0:=Classical.not_not.1 l;rw [l]
 rw [if_neg s];refine al.dX (λu=>?_) (λu=>?_)
 ·rw [if_pos u]
  intro w2 d2;have j:ai w1 w2:=d2.keep;have I:=j.get i id;refine⟨F,λv=>by have:=H _ v;omega,_,ae I rfl,_,ae I rfl,PC.ok JI ?_⟩;rintro _ _ ⟨rfl,rfl⟩;refine⟨_,rfl,aj.refl _,PC.ok (wO (g.af j) o.n) ?_⟩;rintro _ m ⟨a,⟨J,K,L,M,N,rfl,-⟩,f,e⟩;exact⟨_,_,_,rfl,e.keep,Ok.mk ⟨a,rfl,f,de.after (d.then j) e,CQ c self X _ _⟩⟩
 rw [if_neg u];refine al.dX (λx=>?_) (λx=>?_)
 ·rw [if_pos x]
  refine Og (es:=cD b.m va vn vc ea en ec) (j_ _ _ _ _ _ _ _) i (λk t=>by rcases k with _|_|_|_|_|k<;>first|rfl|exact absurd t (by simp [cD])) (PC.ok (JJ (R.af d) (S.af d) T) ?_);rintro _ w2 ⟨a1,a3,a4,a5,a6,a7,G,rfl,a8,a9,O,j⟩;have z1:=d.size;have P:∀h,G h->h<w2.heap.size/\¬F h:=λh r=>⟨(O h r).2,λv=>by have:=H h v;have:=O h r;omega⟩
  refine cu (XG _ _ _ _ _ _ _) ⟨rfl,PC.ok (kf (g.af j) (q.af j) a8 P a9 P C) ?_⟩;rintro _ m ⟨v1,a,rfl,⟨J,K,L,M,N,rfl,-⟩,f,e⟩;exact⟨_,_,_,_,rfl,Ok.mk ⟨a,rfl,f,de.after (d.then j) e,mW c self X b.m Y Z.2⟩⟩
 rw [if_neg x];refine al.dX (λy=>?_) (λy=>?_)
 ·rw [if_pos y]
  refine⟨_,ae i rfl,PC.ok JI ?_⟩;rintro _ _ ⟨rfl,rfl⟩;refine⟨_,rfl,PC.ok (Sp g V) ?_⟩;rintro _ m ⟨a,⟨J,K,L,M,N,rfl,-⟩,f,e⟩;exact⟨_,_,_,rfl,Ok.mk ⟨a,rfl,f,de.after d e,Mx self X _⟩⟩
 rw [if_neg y];refine al.dX (λz=>?_) (λz=>?_)
 ·rw [if_pos z]
  refine⟨_,ae i rfl,PC.ok (FU g q o.n) ?_⟩;rintro _ m ⟨a,rfl,f,e,b0⟩;refine⟨_,rfl,Ok.mk ⟨a,rfl,f,de.after d e,.inr b0,?_⟩⟩;unfold iS;rw [zl];exact Qj _
 rw [if_neg z];refine al.dX (λA=>?_) (λA=>?_)
 ·rw [if_pos A]
  refine⟨_,ae i rfl,PC.ok (Sq g o.n) ?_⟩;rintro _ m ⟨a,rfl,f,e⟩;exact⟨rfl,Ok.mk ⟨a,rfl,f,de.after d e,⟨.inl (by dsimp only;omega),by dsimp only;omega⟩⟩⟩
 rw [if_neg A];refine al.dX (λB=>?_) (λB=>?_)
 ·rw [if_pos B]
  refine PC.ok (zn g q C) ?_;rintro _ m ⟨a,rfl,f,e⟩;exact⟨_,rfl,Ok.mk ⟨a,rfl,f,de.after d e,ES c X⟩⟩
 ·rw [if_neg B]
  exact Ok.mk ⟨F,rfl,g,⟨ai.keep d,λh r=>.inl r⟩,ke.refl X⟩
end
end Go.Proofs.YtfchlbaidamodaaGreatDoor
namespace Go.ax
open Go Go.WideShapes
variable{J:Bool}{g2:List MemPlace}{a:Nat}{h:Program}{K j:Type}{g:TypeId}{v:Value}{b:World}
theorem wM {c:TypeId×Value->j} {k:Reach} {f:DataW j} {i:kM K} {l:Array Field} (m:h.underlying g=some (.struct l)) (n:Reads h i g)
  (o:Value.okWide h b k a g v) (p:DataW.Trod c h b 0 (λ_=>true) J g v f g2) (q:jW h g f):∃e cs,v= .agg cs/\i.rep b (In b) e cs.toList:=by
 obtain⟨cs,rfl,-⟩:=okWide_struct m o;obtain⟨d,r⟩:=p;obtain⟨e,s⟩:=n j c b J d cs.toList _ r q;exact⟨e,cs,rfl,s⟩
end Go.ax
namespace Go.Proofs.YtfchlbaidamodaaGreatDoor
open Go.ax
structure YS (c:cz):Prop where
 bl:aN c.bl
 nY:aN c.nY
 aZ:aN c.aZ
 chunk:aN c.chunk
 buffer:aN c.buffer
 dx:aN c.dx
 every:aN c.every
 start:aN c.start
def XE:kM aR where
 k:=2
 rep:=λj D k cs=>∃a tn d b c e,cs=[.slice a tn d,.slice b c e]/\bh j D k a tn b c
 keep:=λ⟨a,tn,d,b,c,e,f,g⟩ l h=>⟨a,tn,d,b,c,e,f,g.keep l h⟩
 mono:=λ⟨a,tn,d,b,c,e,f,g⟩ h=>⟨a,tn,d,b,c,e,f,g.mono h⟩
 len:=λ⟨a,tn,d,b,c,e,f,_⟩=>by rw [f];rfl
 one:=λ⟨a,tn,d,b,c,e,f,_⟩ m i=>by rw [f]at i;simp at i;rcases i with rfl|rfl<;>rfl
def YT:kM cz where
 k:=10
 rep:=λl D g cs=>∃a tn d b c e,cs=cC g a tn d b c e/\bh l D g.decl a tn b c/\YS g
 keep:=λ⟨a,tn,d,b,c,e,f,h,i⟩ m j=>⟨a,tn,d,b,c,e,f,h.keep m j,i⟩
 mono:=λ⟨a,tn,d,b,c,e,f,h,i⟩ j=>⟨a,tn,d,b,c,e,f,h.mono j,i⟩
 len:=λ⟨a,tn,d,b,c,e,f,_,_⟩=>by rw [f];rfl
 one:=λ⟨a,tn,d,b,c,e,f,_,_⟩ n k=>by rw [f]at k;simp [cC]at k;rcases k with rfl|rfl|rfl|rfl|rfl|rfl|rfl|rfl|rfl|rfl<;>rfl
def XF:kM jS:=flat 7 gJ jS.Ok (λ_=>rfl) (λb c a=>by simp [gJ]at a;rcases a with rfl|rfl|rfl|rfl|rfl|rfl|rfl<;>rfl)
def YU:kM dz where
 k:=5
 rep:=λm D i cs=>∃a b e c d f,cs=cD i a b e c d f/\Row aP 8 m D a b i.vec/\Row fZ 96 m D c d i.events
 keep:=λ⟨a,b,e,c,d,f,g,j,k⟩ n h=>⟨a,b,e,c,d,f,g,j.keep n h,k.keep n h⟩
 mono:=λ⟨a,b,e,c,d,f,g,j,k⟩ h=>⟨a,b,e,c,d,f,g,j.mono h,k.mono h⟩
 len:=λ⟨a,b,e,c,d,f,g,_,_⟩=>by rw [g];rfl
 one:=λ⟨a,b,e,c,d,f,g,_,_⟩ o l=>by rw [g]at l;simp [cD]at l;rcases l with rfl|rfl|rfl|rfl|rfl<;>rfl
theorem Mn:Reads ZQ gC 125:=λz g A B b cs C h E=>by
 obtain⟨i,F,_,rfl,j,k,a⟩:=DataW.trod_struct (Tryz.underlying125) h;have l:Tryz.prog.cellsOf 125=4:=kR
 have m:cs.length=4:=j.trans l;have n:Tryz.prog.cellsOf 3=1:=kR
 match cs,m with
 |[H,I,J,K],_=>
 match i,k with
 |[L,M,N,O],_=>
  have c:=a 0 _ rfl;have d:=a 1 _ rfl;have e:=a 2 _ rfl;have f:=a 3 _ rfl;simp only [n,List.drop_zero,List.drop_succ_cons,List.take_succ_cons,List.take_zero,List.take_nil,List.getElem?_cons_zero,List.getElem?_cons_succ]at c d e f;obtain⟨o,p,-,q⟩:=DataW.trod_int Tryz.underlying3 c;obtain⟨z1,r,-,s⟩:=DataW.trod_int Tryz.underlying3 d;obtain⟨t,u,-,v⟩:=DataW.trod_int Tryz.underlying3 e;obtain⟨w,x,-,y⟩:=DataW.trod_int Tryz.underlying3 f
  cases p;cases r;cases u;cases x
  exact⟨⟨o,z1,t,w⟩,rfl,aT q,aT s,aT v,aT y⟩
theorem PG:Reads ZQ pT 123:=λL g M N b cs O h i=>by
 obtain⟨j,P,_,rfl,k,l,a⟩:=DataW.trod_struct (Tryz.underlying123) h;have m:Tryz.prog.cellsOf 123=4:=kR
 have n:cs.length=4:=k.trans m;have o:Tryz.prog.cellsOf 3=1:=kR
 have p:Tryz.prog.cellsOf 4=1:=kR
 have q:Tryz.prog.cellsOf 121=1:=kR
 match cs,n with
 |[Q,R,S,T],_=>
 match j,l with
 |[U,V,W,r],_=>
  have c:=a 0 _ rfl;have d:=a 1 _ rfl;have e:=a 2 _ rfl;have f:=a 3 _ rfl;simp only [o,p,q,List.drop_zero,List.drop_succ_cons,List.take_succ_cons,List.take_zero,List.take_nil,List.getElem?_cons_zero,List.getElem?_cons_succ]at c d e f;obtain⟨s,t,-,u⟩:=DataW.trod_int Tryz.underlying3 c;obtain⟨z1,v,-,w⟩:=DataW.trod_int Tryz.underlying3 d;obtain⟨x,y,-⟩:=DataW.trod_bool Tryz.underlying4 e;have z:jW ZQ 121 r.1:=by
   intro A B;refine i A ?_;have C:Tryz.prog.underlying 123=_:=Tryz.underlying123;simp only [DataW.weights,C,QY,List.map_nil,DataW.weightsEach,Q6];right;right;right;left;exact B
  obtain⟨E,F,H,I,J,-,-,K⟩:=open_row (bytes:=32) Tryz.underlying121 kR dC kR (Mn) f z
  cases t;cases v;cases y;cases J
  exact⟨⟨s,z1,x,I⟩,E,F,H,rfl,K,aT u,aT w⟩
theorem PH:Reads ZQ lv 130:=λx c y z a cs A d e=>by
 obtain⟨f,B,_,rfl,g,h,i⟩:=DataW.trod_struct (Tryz.underlying130) d;have j:Tryz.prog.cellsOf 130=1:=kR
 have k:cs.length=1:=g.trans j;have l:Tryz.prog.cellsOf 126=1:=kR
 match cs,k with
 |[C],_=>
 match f,h with
 |[m],_=>
  have b:=i 0 _ rfl;simp only [l,List.drop_zero,List.drop_succ_cons,List.take_succ_cons,List.take_zero,List.take_nil,List.getElem?_cons_zero,List.getElem?_cons_succ]at b;have n:jW ZQ 126 m.1:=by
   intro o p;refine e o ?_;have q:Tryz.prog.underlying 130=_:=Tryz.underlying130;simp only [DataW.weights,q,QY,List.map_nil,DataW.weightsEach,Q6];left;exact p
  obtain⟨r,s,t,u,v,-,-,w⟩:=open_row (bytes:=48) Tryz.underlying126 kR dC kR (PG) b n
  cases v
  exact⟨u,r,s,t,rfl,w⟩
theorem Mo:Reads ZQ wH 128:=λE h F H b cs I i J=>by
 obtain⟨j,K,_,rfl,k,l,a⟩:=DataW.trod_struct (Tryz.underlying128) i;have m:Tryz.prog.cellsOf 128=5:=kR
 have n:cs.length=5:=k.trans m;have o:Tryz.prog.cellsOf 3=1:=kR
 match cs,n with
 |[L,M,N,O,P],_=>
 match j,l with
 |[Q,R,S,T,U],_=>
  have c:=a 0 _ rfl;have d:=a 1 _ rfl;have e:=a 2 _ rfl;have f:=a 3 _ rfl;have g:=a 4 _ rfl;simp only [o,List.drop_zero,List.drop_succ_cons,List.take_succ_cons,List.take_zero,List.take_nil,List.getElem?_cons_zero,List.getElem?_cons_succ]at c d e f g;obtain⟨p,q,-,r⟩:=DataW.trod_int Tryz.underlying3 c;obtain⟨z1,s,-,t⟩:=DataW.trod_int Tryz.underlying3 d;obtain⟨u,v,-,w⟩:=DataW.trod_int Tryz.underlying3 e;obtain⟨x,y,-,z⟩:=DataW.trod_int Tryz.underlying3 f;obtain⟨A,B,-,C⟩:=DataW.trod_int Tryz.underlying3 g
  cases q;cases s;cases v;cases y;cases B
  exact⟨⟨p,z1,u,x,A⟩,rfl,aT r,aT t,aT w,aT z,aT C⟩
theorem CF:Reads ZQ XE 25:=λI i J K d cs L j e=>by
 obtain⟨k,M,_,rfl,l,m,f⟩:=DataW.trod_struct (Tryz.underlying25) j;have n:Tryz.prog.cellsOf 25=2:=kR
 have o:cs.length=2:=l.trans n;have p:Tryz.prog.cellsOf 22=1:=kR
 have q:Tryz.prog.cellsOf 23=1:=kR
 match cs,o with
 |[N,O],_=>
 match k,m with
 |[r,s],_=>
  have g:=f 0 _ rfl;have h:=f 1 _ rfl;simp only [p,q,List.drop_zero,List.drop_succ_cons,List.take_succ_cons,List.take_zero,List.take_nil,List.getElem?_cons_zero,List.getElem?_cons_succ]at g h;have t:jW ZQ 22 r.1:=by
   intro a b;refine e a ?_;have c:Tryz.prog.underlying 25=_:=Tryz.underlying25;simp only [DataW.weights,c,QY,List.map_nil,DataW.weightsEach,Q6];left;exact b
  obtain⟨u,v,w,x,y,-,-,z⟩:=open_row (bytes:=24) Tryz.underlying22 kR dC kR (PH) g t;have A:jW ZQ 23 s.1:=by
   intro a b;refine e a ?_;have c:Tryz.prog.underlying 25=_:=Tryz.underlying25;simp only [DataW.weights,c,QY,List.map_nil,DataW.weightsEach,Q6];right;left;exact b
  obtain⟨B,C,E,z1,F,-,-,H⟩:=open_row (bytes:=40) Tryz.underlying23 kR dC kR (Mo) h A
  cases y;cases F
  exact⟨⟨x,z1⟩,u,v,w,B,C,E,rfl,⟨z,H⟩⟩
theorem yD:Reads ZQ YT 28:=λm b n o c cs a0 p q=>by
 obtain⟨r,n2,_,rfl,s,t,a⟩:=DataW.trod_struct (Tryz.underlying28) p;have u:Tryz.prog.cellsOf 28=10:=kR
 have v:cs.length=10:=s.trans u;have w:Tryz.prog.cellsOf 3=1:=kR
 have x:Tryz.prog.cellsOf 25=2:=kR
 match cs,v with
 |[v0,v1,v2,v3,v4,v5,v6,v7,v8,v9],_=>
 match r,t with
 |[y0,y1,y2,y3,y4,y5,y6,y7,y],_=>
  have d:=a 0 _ rfl;have e:=a 1 _ rfl;have f:=a 2 _ rfl;have g:=a 3 _ rfl;have h:=a 4 _ rfl;have i:=a 5 _ rfl;have j:=a 6 _ rfl;have k:=a 7 _ rfl;have l:=a 8 _ rfl;simp only [w,x,List.drop_zero,List.drop_succ_cons,List.take_succ_cons,List.take_zero,List.take_nil,List.getElem?_cons_zero,List.getElem?_cons_succ]at d e f g h i j k l;obtain⟨z,A,-,B⟩:=DataW.trod_int Tryz.underlying3 d;obtain⟨z1,C,-,E⟩:=DataW.trod_int Tryz.underlying3 e;obtain⟨F,H,-,I⟩:=DataW.trod_int Tryz.underlying3 f;obtain⟨J,K,-,L⟩:=DataW.trod_int Tryz.underlying3 g;obtain⟨M,N,-,O⟩:=DataW.trod_int Tryz.underlying3 h;obtain⟨P,Q,-,R⟩:=DataW.trod_int Tryz.underlying3 i;obtain⟨S,T,-,U⟩:=DataW.trod_int Tryz.underlying3 j;obtain⟨V,W,-,X⟩:=DataW.trod_int Tryz.underlying3 k;have Y:jW ZQ 25 y.1:=by
   intro Z hq;refine q Z ?_;have hu:Tryz.prog.underlying 28=_:=Tryz.underlying28;simp only [DataW.weights,hu,QY,List.map_nil,DataW.weightsEach,Q6];right;right;right;right;right;right;right;right;left;exact hq
  obtain⟨z8,r8⟩:=CF m b n o _ _ _ l Y
  cases A;cases C;cases H;cases K;cases N;cases Q;cases T;cases W
  obtain⟨ta,tn,tc,pa,pn,pc,he,hd⟩:=r8
  cases he
  exact⟨⟨z,z1,F,J,M,P,S,V,z8⟩,ta,tn,tc,pa,pn,pc,rfl,hd,aT B,aT E,aT I,aT L,aT O,aT R,aT U,aT X⟩
theorem FR:Reads ZQ XF 49:=λM j N O b cs P k Q=>by
 obtain⟨l,R,_,rfl,m,n,a⟩:=DataW.trod_struct (Tryz.underlying49) k;have o:Tryz.prog.cellsOf 49=7:=kR
 have p:cs.length=7:=m.trans o;have q:Tryz.prog.cellsOf 3=1:=kR
 match cs,p with
 |[S,T,U,V,W,X,Y],_=>
 match l,n with
 |[Z,y1,y2,y3,y4,y5,y6],_=>
  have c:=a 0 _ rfl;have d:=a 1 _ rfl;have e:=a 2 _ rfl;have f:=a 3 _ rfl;have g:=a 4 _ rfl;have h:=a 5 _ rfl;have i:=a 6 _ rfl;simp only [q,List.drop_zero,List.drop_succ_cons,List.take_succ_cons,List.take_zero,List.take_nil,List.getElem?_cons_zero,List.getElem?_cons_succ]at c d e f g h i;obtain⟨r,s,-,t⟩:=DataW.trod_int Tryz.underlying3 c;obtain⟨z1,u,-,v⟩:=DataW.trod_int Tryz.underlying3 d;obtain⟨w,x,-,y⟩:=DataW.trod_int Tryz.underlying3 e;obtain⟨z,A,-,B⟩:=DataW.trod_int Tryz.underlying3 f;obtain⟨C,E,-,F⟩:=DataW.trod_int Tryz.underlying3 g;obtain⟨H,I,-,w5⟩:=DataW.trod_int Tryz.underlying3 h;obtain⟨J,K,-,L⟩:=DataW.trod_int Tryz.underlying3 i
  cases s;cases u;cases x;cases A;cases E;cases I;cases K
  exact⟨⟨r,z1,w,z,C,H,J⟩,rfl,aT t,aT v,aT y,aT B,aT F,aT L⟩
theorem PI:Reads ZQ YU 67:=λS l T U e cs V m f=>by
 obtain⟨n,W,_,rfl,o,p,a⟩:=DataW.trod_struct (Tryz.underlying67) m;have q:Tryz.prog.cellsOf 67=5:=kR
 have r:cs.length=5:=o.trans q;have s:Tryz.prog.cellsOf 3=1:=kR
 have t:Tryz.prog.cellsOf 55=1:=kR
 have u:Tryz.prog.cellsOf 50=1:=kR
 match cs,r with
 |[X,Y,Z,v3,v4],_=>
 match n,p with
 |[y0,y1,y2,v,w],_=>
  have g:=a 0 _ rfl;have h:=a 1 _ rfl;have i:=a 2 _ rfl;have j:=a 3 _ rfl;have k:=a 4 _ rfl;simp only [s,t,u,List.drop_zero,List.drop_succ_cons,List.take_succ_cons,List.take_zero,List.take_nil,List.getElem?_cons_zero,List.getElem?_cons_succ]at g h i j k;obtain⟨x,y,-,w0⟩:=DataW.trod_int Tryz.underlying3 g;obtain⟨z1,z,-,w1⟩:=DataW.trod_int Tryz.underlying3 h;obtain⟨A,B,-,w2⟩:=DataW.trod_int Tryz.underlying3 i;have C:jW ZQ 55 v.1:=by
   intro b c;refine f b ?_;have d:Tryz.prog.underlying 67=_:=Tryz.underlying67;simp only [DataW.weights,d,QY,List.map_nil,DataW.weightsEach,Q6];right;right;right;left;exact c
  obtain⟨E,F,H,I,J,-,-,K⟩:=open_row (bytes:=8) Tryz.underlying55 kR dC kR (yC Tryz.underlying3) j C;have L:jW ZQ 50 w.1:=by
   intro b c;refine f b ?_;have d:Tryz.prog.underlying 67=_:=Tryz.underlying67;simp only [DataW.weights,d,QY,List.map_nil,DataW.weightsEach,Q6];right;right;right;right;left;exact c
  obtain⟨M,N,O,P,Q,-,-,R⟩:=open_row (bytes:=96) Tryz.underlying50 kR dC kR (RW) k L
  cases y;cases z;cases B;cases J;cases Q
  exact⟨⟨x,z1,A,I,P⟩,E,F,H,M,N,O,rfl,K,R⟩
theorem rE:Reads ZQ PJ 72:=λf a g h i cs a0 r j=>by
 obtain⟨s,n2,_,rfl,t,u,b⟩:=DataW.trod_struct (Tryz.underlying72) r;have v:Tryz.prog.cellsOf 72=15:=kR
 have w:cs.length=15:=t.trans v;have x:Tryz.prog.cellsOf 3=1:=kR
 have y:Tryz.prog.cellsOf 49=7:=kR
 have z:Tryz.prog.cellsOf 67=5:=kR
 match cs,w with
 |[v0,v1,v2,v3,v4,v5,v6,v7,v8,v9,a1,a2,a3,a4,a5],_=>
 match s,u with
 |[y0,y1,y2,A,B],_=>
  have k:=b 0 _ rfl;have l:=b 1 _ rfl;have m:=b 2 _ rfl;have n:=b 3 _ rfl;have o:=b 4 _ rfl;simp only [x,y,z,List.drop_zero,List.drop_succ_cons,List.take_succ_cons,List.take_zero,List.take_nil,List.getElem?_cons_zero,List.getElem?_cons_succ]at k l m n o;obtain⟨C,E,-,F⟩:=DataW.trod_int Tryz.underlying3 k;obtain⟨z1,H,-,I⟩:=DataW.trod_int Tryz.underlying3 l;obtain⟨J,K,-,L⟩:=DataW.trod_int Tryz.underlying3 m;have M:jW ZQ 49 A.1:=by
   intro c d;refine j c ?_;have e:Tryz.prog.underlying 72=_:=Tryz.underlying72;simp only [DataW.weights,e,QY,List.map_nil,DataW.weightsEach,Q6];right;right;right;left;exact d
  obtain⟨N,O⟩:=FR f a g h _ _ _ n M;have P:jW ZQ 67 B.1:=by
   intro c d;refine j c ?_;have e:Tryz.prog.underlying 72=_:=Tryz.underlying72;simp only [DataW.weights,e,QY,List.map_nil,DataW.weightsEach,Q6];right;right;right;right;left;exact d
  obtain⟨Q,R⟩:=PI f a g h _ _ _ o P
  cases E;cases H;cases K
  obtain⟨p,S⟩:=O;obtain⟨T,U,V,W,X,Y,q,Z,he⟩:=R;simp only [gJ,cD,List.cons.injEq,and_true]at p q;obtain⟨rfl,rfl,rfl,rfl,rfl,rfl,rfl⟩:=p;obtain⟨rfl,rfl,rfl,rfl,rfl⟩:=q;exact⟨⟨C,z1,J,N,Q⟩,T,U,V,W,X,Y,rfl,Z,he,aT F,aT I,aT L,S⟩
end Go.Proofs.YtfchlbaidamodaaGreatDoor
namespace Go.Proofs.YtfchlbaidamodaaGreatDoor
open Go.ax
variable{U r:Array Value}{g4 z:FuncId}{a0 f1 h8:List PanicEntry->World->Prop}{v:Value}{a8 b k:World}{y:World->Prop}{L:aR}{f2:ve}
theorem ju.af (f:ju b f2 v k) (a:ai k a8):ju b f2 v a8:=by
 obtain⟨g,h,i,j,l,m,n,o,p,G,q,r,s,t,c⟩:=f;exact⟨g,h,i,j,l,m,n,o,p,G,q,r.af a,s.af a,t.af a,λd e=>⟨(c d e).1,by have:=(c d e).2;have:=a.size;omega⟩⟩
theorem Oh {x:ve} (o:∀a,ai b a->Calls ZQ z r a (Ok λd c=>ju a x d c/\ai a c)) (p:∀a,ai b a->Calls ZQ g4 U a (Ok λd c=>ju a x d c/\ai a c)) {q:World->Prop} (f:∀c,ai b c->y c):
  PC ZQ z r b (λd a=>yY (fe ZQ 46) λx=>d=x/\PC ZQ g4 U a (λg h=>yY (fe ZQ 46) λi=>g=i/\PC ZQ 47 #[x,i] h (λs e=>∃j:Bool,s= .bool j/\al (!j) (q e) (y e)) a0) f1) h8:=by
 refine PC.ok (o b (aj.refl _)) ?_;rintro d a ⟨k,l⟩;have t:=k;obtain⟨u,v,w,A,B,C,E,F,H,G,rfl,-⟩:=k;refine cu (FT x u v w A B C E F H) ⟨rfl,PC.ok (p a l) ?_⟩;rintro g h ⟨m,n⟩;have I:=m;obtain⟨J,tn,K,L,M,N,O,P,Q,S,rfl,-⟩:=m;refine cu (FT x J tn K L M N O P Q) ⟨rfl,PC.ok (CM (t.af n) I) ?_⟩;rintro _ e ⟨rfl,R⟩;exact⟨_,rfl,al.ff rfl (f e ((l.then n).then R))⟩
section
variable {w w' w0:World} {p q:Nat} {F G D:Nat->Prop} {c e:cz} {self other:Int} {X Y:bw}
theorem rN (l:bP w p F c self X) (m:bP w q G e other Y) (n:c.decl=e.decl) (o:X.S.l=Y.S.l) {u v:Option Addr} {tn B r C:Nat} (x:bh w D L u tn v r):
  Calls ZQ 21 #[.pointer (some ⟨p,0,none⟩),.pointer (some ⟨q,0,none⟩),.agg #[.slice u tn B,.slice v r C]] w (Ok λE w'=>E= .bool true/\ai w w'):=by
 have H:=x.bd.d_;have I:=x.Bk.d_;unfold aQ at H I;refine Ce (PA.mk λd y O z=>?_);have step:∀{a:Nat},a<1000000000000000->IntKind.wrap .i64 ((a:Int)-1+1)=((a+1:Nat):Int)-1:=λ{a} A=>by
  rw [wrap_i64 (by unfold aN;omega)];omega
 refine⟨λg k w'=>∃a:Nat,k=(a:Int)-1/\a<=tn+2/\g=tn+2-a/\ai d w',⟨_,0,rfl,Qj _,rfl,aj.refl _⟩,?_⟩;rintro g _ _ P ⟨a,rfl,A,rfl,s⟩;refine⟨_,_,_,ae (s.get z id) rfl,al.dec (λJ=>?_) (λQ=>?_)⟩
 ·refine⟨λg k w'=>∃h:Nat,k=h/\h<=4/\g=4-h/\ai d w',⟨_,0,rfl,Qj _,rfl,s⟩,?_⟩
  rintro g _ _ K ⟨h,rfl,R,rfl,i⟩;have f:=y.then i;refine al.dec (λS=>?_) (λ_=>⟨_,oM,a+1,step oM,oM,rfl,i⟩);refine Oh (x:=ET c.decl X.S.l ((a:Int)-1) h) (λd b=>A_ ((l.af f).af b)) (λd b=>by rw [n,o];exact A_ ((m.af f).af b)) λM j=>?_;refine Oh (x:=Ba c.decl X.S.l ((a:Int)-1) h h) (λd b=>CR (((l.af f).af j).af b) (by unfold aN;omega)) (λd b=>by rw [n,o];exact CR (((m.af f).af j).af b) (by unfold aN;omega)) λN t=>?_;exact⟨_,oM,h+1,an oM,oM,rfl,(i.then j).then t⟩
 ·refine⟨λg k w'=>∃a:Nat,k=(a:Int)-1/\a<=r+2/\g=r+2-a/\ai d w',⟨_,0,rfl,Qj _,rfl,s⟩,?_⟩
  rintro g _ _ K ⟨a,rfl,A,rfl,i⟩;have f:=y.then i;refine⟨_,_,_,ae (i.get z id) rfl,al.dec (λJ=>?_) (λ_=>Ok.mk ⟨rfl,f⟩)⟩;refine Oh (x:=yF c.decl X.S.l ((a:Int)-1) (-9223372036854775808)) (λd b=>sH ((l.af f).af b)) (λd b=>by rw [n,o];exact sH ((m.af f).af b)) λM j=>?_;refine Oh (x:=yF c.decl X.S.l ((a:Int)-1) 2) (λd b=>sH (((l.af f).af j).af b)) (λd b=>by rw [n,o];exact sH (((m.af f).af j).af b)) λN t=>?_;exact⟨_,oM,a+1,step oM,oM,rfl,(i.then j).then t⟩
end
end Go.Proofs.YtfchlbaidamodaaGreatDoor

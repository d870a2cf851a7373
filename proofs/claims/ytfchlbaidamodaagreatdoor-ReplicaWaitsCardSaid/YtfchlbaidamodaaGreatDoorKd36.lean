import Derived.Test.YtfchlbaidamodaaGreatDoorKd35
set_option linter.all false
set_option maxRecDepth 20000
namespace Go.Proofs.YtfchlbaidamodaaGreatDoor
open Go.ax
def dy (a:aR):cz:={cf 2 with decl:=a,nY:=262144,aZ:=65536}
theorem QG:(aM (eS 262144) 65536).no=0/\(aM (eS 262144) 65536).D.most=262144/\(aM (eS 262144) 65536).D.used<=1000:=by decide+kernel
variable{e:Int}{u:List Int}{a6 f:Nat->Prop}{C:aR}
theorem je (a:e=0\/e=1):bj (dy C) e=if dd C≠0 then(dd C,(qA (dy C)).2)else qA (dy C):=by
 have b:gG (dy C) e=true:=by rcases a with rfl|rfl<;>rfl
 unfold bj;rw [if_neg (show¬gG (dy C) e=false by rw [b];simp)]
 rfl
theorem KJ (d:dd C=0) {S:aq} (e:S.n=2):WK S 0 (bj (dy C) 1).2/\(bj (dy C) 1).2.waits=[]:=by
 obtain⟨b,f,l⟩:=QG;rw [je (.inr rfl),if_neg (by rw [d];simp)];have g:qA (dy C)=(0,⟨⟨2,[]⟩,(aM (eS 262144) 65536).D,some (aM (eS 262144) 65536).V,[],⟨5,[],[]⟩⟩):=by
  rcases rR 262144 65536 with a|⟨a,c,-⟩
  ·rw [b]at a;omega
  ·unfold qA eR
   show(if(aM (eS (Int.toNat 262144)) 65536).no≠0 then _ else _)=_;rw [show Int.toNat 262144=262144 from rfl,if_neg (by rw [a];simp)];show((0:Int),bw.mk ((⟨2,[]⟩:aq).eI (aM (eS 262144) 65536).out) _ _ _ _)=_;rw [c];rfl
 rw [g];rcases rR 262144 65536 with a|⟨a,c,h,i,j,m,k,n⟩
 ·rw [b]at a;omega
 ·exact⟨⟨by rw [e];simp,_,rfl,h,i,k,j,f,oM⟩,rfl⟩
section
variable {w w' w0:World} {p q:Nat} {F G D E:Nat->Prop} {c e:cz} {self other:Int} {X Y:bw}
theorem bP.nodup (d:bP w p F c self X):(X.waits.map aO).Nodup:=by
 obtain⟨h,e,a,f⟩:=d;obtain⟨i,D,g,-,-⟩:=(show Mw w (λb=>F b/\a b=5) e.wp c.buffer.toNat X.waits from f.at' 5)
 exact g.1.2.ids
theorem QH {x:jS} (l:kU c 0) (m:X.S.Cl) (n:X.S.n=c.bl.toNat) (o:X.S.l.length<=20000000) (b:DJ X.S):DJ (cm c 0 X x).2.2.S/\(cm c 0 X x).2.2.S.l.length<=X.S.l.length+1:=by
 obtain⟨p,q,r⟩:=Uq (x:=x) l m n o
 by_cases f:(cm c 0 X x).1=0
 ·by_cases j:(cm c 0 X x).2.2.S.l.length=X.S.l.length
  ·rw [(q f j).2];exact⟨b,oM⟩
  ·obtain⟨e,k,-,g,-⟩:=r f j
   refine⟨λd i a=>?_,by rw [k];simp⟩;rw [k]at a;rcases Nat.lt_or_ge d X.S.l.length with s|t
   ·rw [XW s]at a;exact b d i a
   ·rw [X8 t]at a
    have u:d-X.S.l.length=0:=by
     rcases Nat.eq_zero_or_pos (d-X.S.l.length)with h|h
     ·exact h
     ·rw [Q7 (by simp;omega)]at a;cases a
    rw [u]at a;simp at a;subst a;have v:X.S.sX (0:Int).toNat=X.S.l.length:=by
     unfold aq.sX;rw [List.countP_eq_length.2];intro i w;obtain⟨y,z⟩:=List.mem_iff_getElem?.1 w;simp [(b y i z).1]
    unfold aO at g;rw [v]at g;simp only [Prod.mk.injEq]at g;omega
 ·rw [p f];exact⟨b,oM⟩
set_option maxHeartbeats 2000000 in
theorem vy {d:aR} {m s ca ra:Option Addr} {tn B t H cn cc O rc:Nat} {a2:List jS} (v:eM w) (y:Laid w) (hd:bh w D d m tn s t) (hD:∀a,D a->a<w.heap.size) (i6:Row XF 56 w f ca cn a2) (o3:∀a,f a->a<w.heap.size) (i7:Row aP 8 w a6 ra O u) (u2:∀a,a6 a->a<w.heap.size):
  Calls ZX 4 #[.agg #[.slice m tn B,.slice s t H],.slice ca cn cc,.slice ra O rc] w (Ok λf9 w'=>f9= .bool true/\ai w w'):=by
 have t4:=i6.len;have t5:=i7.len;refine qs (PA.mk λw1 k1 s1 g1=>PC.ok sv ?_);rintro _ I ⟨ua,un,uc,va,vn,vc,n,rfl,u3,g2,k2⟩;refine cu (JH (cf 2) ua un uc va vn vc) ⟨rfl,PA.mk λw3 J s3 g3=>aD (gD (cf 2) ua un uc va vn vc) g3 rfl λw4 k4 s4 g4=>?_⟩;have nn:∀a,a=I.heap.size->False\/I.heap.size<=a:=λa e=>.inr (Nat.le_of_eq e.symm);have z2:=k2.size;have i8:=k4.get (J.get (k2.get g1 id) id) (show¬w.heap.size=I.heap.size by omega);refine⟨_,_,_,_,_,_,ae i8 rfl,ae i8 rfl,PS.mk g4 (by simp [cC]) λw5 k5 s5 g5=>?_⟩;have o4:w5.heap[I.heap.size]? =some (.cells (cC (cf 2) m tn B va vn vc).toArray 28 (0,0)):=by rw [g5];rfl
 refine PS.mk o4 (by simp [cC]) λw6 k6 s6 g6=>?_;have o5:w6.heap[I.heap.size]? =some (.cells (cC (cf 2) m tn B s t H).toArray 28 (0,0)):=by rw [g6];rfl
 refine PS.mk o5 (by simp [cC]) λw7 k7 s7 g7=>?_;have o6:w7.heap[I.heap.size]? =some (.cells (cC {cf 2 with nY:=262144} m tn B s t H).toArray 28 (0,0)):=by rw [g7];rfl
 refine PS.mk o6 (by simp [cC]) λw8 k8 s8 g8=>?_;have i9:w8.heap[I.heap.size]? =some (.cells (cC (dy d) m tn B s t H).toArray 28 (0,0)):=by rw [g8];rfl
 have g9:ai I w8:=((((J.new k4 nn).new k5 nn).new k6 nn).new k7 nn).new k8 nn;have j0:=(k1.then k2).then g9;have o7:=g9.get (k2.get g1 id) id;have d5:bh w D (dy d).decl m tn s t:=hd;have i3:aN (dy d).aZ/\aN (dy d).every/\aN (dy d).start:=by unfold aN dy cf;simp
 obtain⟨is,iv,it⟩:=i3;refine aw (gD (dy d) m tn B s t H) i9 (PC.ok (oX (c:=dy d) (d5.af j0) (Row.nil _ (λ_=>False))) ?_);rintro _ w9 ⟨⟨r2,rfl,-⟩,k9⟩;have C:=j0.then k9;have h0:=k9.get i9 id;refine⟨_,rfl,al.mk (λ_=>kq v y C) (λ_=>al.dec (λ_=>kq v y C) (λt6=>al.dec (λ_=>kq v y C) (λ_=>?_)))⟩;refine aw (gD (dy d) m tn B s t H) h0 (su (c:=dy d) v y C (d5.af C) is iv it (λl h3 E d6=>⟨_,_,rfl,aw (gD (dy d) m tn B s t H) (E.get h0 id) (su (c:=dy d) v y (C.then E) (d5.af (C.then E)) is iv it (λl P Q _=>⟨_,_,rfl,al.dw (λ_=>al.dX (λ_=>kq v y ((C.then E).then Q)) (λh=>absurd (by rw [je (.inl rfl),je (.inr rfl)]) h)) (λh=>absurd h d6)⟩) (λp F P hz=>absurd (by rw [je (.inr rfl),<-je (.inl rfl)]at hz;exact hz) d6))⟩) ?_);intro p F h3 hz E hA hF u4;have o8:(bj (dy d) 1).1=0:=by rw [je (.inr rfl),<-je (.inl rfl)];exact hz
 have c0:=C.then E;refine⟨_,_,rfl,aw (gD (dy d) m tn B s t H) (E.get h0 id) (su (c:=dy d) v y c0 (d5.af c0) is iv it (λl P Q d6=>absurd o8 d6) ?_)⟩;intro q G P _ Q hB hG u5;have c1:=c0.then Q;have e7:=hA.ok;have h4:(bj (dy d) 0).2.S=⟨2,[]⟩:=by
  have:=(KJ (S:=⟨2,[]⟩) e7.decl rfl).1.set;rw [je (.inr rfl),<-je (.inl rfl)]at this;exact this
 have o9:=hA.aF;refine⟨_,_,rfl,al.dw (λh=>absurd rfl h) (λ_=>al.dw (λh=>absurd rfl h) (λ_=>?_))⟩;have z9:=k9.size;have u6:=E.size;have u7:=Q.size;have u9:=g9.size;have j1:=Q.get (E.get (k9.get o7 id) id) id;have e8:∀{d4:aq},d4.n=2->WK d4 0 (bj (dy d) 1).2/\(bj (dy d) 1).2.waits=[]:=λh=>KJ e7.decl h;generalize(bj (dy d) 1).2=Y0 at hB e8;generalize(bj (dy d) 0).2=X0 at hA h4;have j2:gw w P p q F G (dy d) 0 (dy d) 1 X0 Y0:=⟨hA.af Q,hB,⟨v,y,c1,λa b=>by have:=hF a b;omega⟩,⟨v,y,c1,λa b=>by have:=hG a b;omega⟩,λa hf o=>by have:=o9 a hf;have:=hG a o;omega⟩
 have j3:=hB.aF;refine⟨λK l w'=>∃(R:Nat) (FF:Nat->Prop) (g:bw),l=R/\R<=cn/\K=cn-R/\gw w w' p q FF G (dy d) 0 (dy d) 1 g Y0/\aj (λa=>w9.heap.size<=a) P w'/\(∀a,FF a->w9.heap.size<=a)/\g.S.l.length<=R/\DJ g.S,
  ⟨_,0,F,X0,rfl,Qj _,rfl,j2,aj.refl _,hF,by rw [h4];exact Qj _,by rw [h4];intro i x j;simp at j⟩,?_⟩
 rintro K _ _ j4 ⟨R,FF,g,rfl,hj,rfl,S,a8,j5,v0,a9⟩;have kE:aj (λa=>w9.heap.size<=a) w j4:=(ai.keep c1).then a8;have j6:=a8.get j1 oM;have d7:=S.a.cl;have v2:=a8.size;refine al.dec (λv3=>?_) (λv4=>?_)
 ·obtain⟨a,T,x,es,rfl,p0,h1,j,hc,rfl,c2⟩:=(i6.keep kE λa b h=>by have:=o3 a b;omega).sS (i:=R) oM
  refine⟨a,T,rfl,oM,oM,br (es:=gJ x) (k:=7) (BF x) rfl (λl ht=>by rw [Qx];exact hc l ht) (PC.ok (rL S.a S.ea c2 oM) ?_)⟩;rintro _ v5 ⟨p1,⟨sa,sn,sc,xa,xn,xc,p2,p3,p4,-,rfl,-⟩,j7,b1⟩;obtain⟨j8,t7⟩:=QH (x:=x) S.a.ok d7.1 d7.2 oM a9;refine cu (FT _ sa sn sc xa xn xc p2 p3 p4) ⟨rfl,_,oM,R+1,p1,_,an oM,oM,rfl,S.zD j7 b1,a8.then (b1.keep.mono λa _ b=>j5 a b),λa b=>(b1.new a b).elim (j5 a) λh=>oM,oM,j8⟩
 have p5:g.S.l.length<=20:=oM
 have h5:g.S.n=2:=d7.2;obtain⟨e9,-⟩:=d7;obtain⟨p6,j9⟩:=e8 h5;refine PC.ok (e_ S.a oM) ?_;rintro _ p7 ⟨p8,p9,v6,q0,rfl,f5,h6,k0⟩;have h7:=f5.aF;have d9:Row fZ 96 p7 q0 p8 p9 g.S.l:=f5.row dC (by unfold aQ;omega);have l0:=S.af h6;have v7:=h6.size;have l3:∀e∈g.S.l,e.aK.length<=100:=λe he=>by
  obtain⟨-,-,-,-,-,-,h2,-⟩:=im (e9.ok.TC e he);rw [h2,h5];decide
 refine⟨_,_,_,rfl,PC.ok (rK d9 l3) ?_⟩;rintro _ c3 ⟨q4,q5,v8,l4,rfl,c4,d8,f6⟩;have h8:=c4.aF;have l5:=l0.af d8;have v9:=d8.size;have l6:=d8.get (h6.get j6 id) id;have i0:Row fZ 96 c3 l4 q4 q5 g.S.l:=qz.row (c4.row dC (by unfold aQ;omega));have i2:=d9.af d8;obtain⟨U,r⟩:∃U:Nat->Prop,U=λa=>(h3.heap.size<=a/\a<P.heap.size)\/c3.heap.size<=a:=⟨_,rfl⟩
 have b2:∀a,a<h3.heap.size->¬U a:=λa b h=>by rw [r]at h;rcases h with h|h<;>omega
 have l7:∀a,P.heap.size<=a->a<c3.heap.size->¬U a:=λa i4 X h=>by rw [r]at h;rcases h with h|h<;>omega
 refine⟨_,_,_,rfl,λK la L lc l w'=>∃(i:Nat) (n z:Nat->Prop) (Y:bw) (k:List ah),l=i/\i+k.length=g.S.l.length/\K=k.length/\k.Sublist g.S.l/\gw w w' p q FF n (dy d) 0 (dy d) 1 g Y/\aj U c3 w'/\(∀a,n a->U a)/\Row fZ 96 w' z la L k/\(∀a,z a->a<w'.heap.size/\j4.heap.size<=a/\¬n a)/\L<=lc/\Wt g.S (λc=>∀x,g.S.l[c]? =some x->x∉k) Y,
  ⟨_,0,G,l4,Y0,g.S.l,rfl,oM,rfl,List.Sublist.refl _,l5,aj.refl _,λa b=>by rw [r];exact .inl ⟨hG a b,j3 a b⟩,i0,λa b=>⟨h8 a b,by have:=f6 a b;omega,λh=>by have:=f6 a b;have:=j3 a h;omega⟩,c4.jx,⟨0,Qj _,p6,by rw [j9];simp,λi x Z j=>absurd (QZ j) (Z x j)⟩⟩,?_⟩
 rintro K la L lc _ _ b4 ⟨i,n,z,Y,k,rfl,x0,rfl,f7,a3,b0,g2,b9,M,q6,b5⟩;have x1:=b9.len;have l8:=a3.ea.gr;have x4:=b0.size;refine al.dec (λt8=>?_) (λx5=>?_)
 ·refine⟨λc w'=>b4=w'/\0<=c/\c<L,al.dec (λx6=>?_) (λ_=>⟨rfl,oM,oM⟩),?_⟩
  ·have c6:(i:Int).tmod (O:Int)=((i % O:Nat):Int):=by rw [Int.tmod_eq_emod_of_nonneg oM];rfl
   have q7:i % O<O:=Nat.mod_lt _ oM;obtain⟨a,T,e0,rfl,k3,l1,c5⟩:=(i7.keep ((ai.keep l8:aj (λ_=>False) w b4)) λa b h=>h).mh (i:=i % O) q7;refine aH.mk (OO oM _ _) ⟨_,rfl,a,T,rfl,by rw [c6];omega,by rw [c6];omega,e0,by rw [c6,Qx];exact c5,PC.ok (CN (by unfold aN;omega)) ?_⟩;rintro _ _ ⟨rfl,rfl⟩;have:=vm (k:=e0) (n:=(L:Int)) oM;exact⟨_,rfl,rfl,this.1,this.2⟩
  rintro kk _ _ ⟨rfl,x7,x8⟩;obtain⟨c,rfl⟩:∃c:Nat,kk=c:=⟨kk.toNat,oM⟩
  obtain⟨a,T,x,es,rfl,p0,x9,j,hc,q1,q2,q3,rfl,hq,c2⟩:=b9.sS (i:=c) oM;have q8:=QZ j;obtain⟨ix,l9⟩:=List.mem_iff_getElem?.1 (f7.subset q8);refine⟨a,T,rfl,oM,oM,br (es:=aE x q1 q2 q3) (k:=10) (bg _ _ _ _) rfl (λl ht=>by rw [Qx];exact hc l ht) (PA.mk λy0 q9 y1 r0=>aD (bg x q1 q2 q3) r0 rfl λb6 r3 y2 r4=>?_)⟩;have m0:∀a,a=b4.heap.size->False\/b4.heap.size<=a:=λa e=>.inr (Nat.le_of_eq e.symm);have a4:ai b4 b6:=q9.new r3 m0;have y3:=a4.size;have m1:=a3.b.aF;have m2:=a3.af a4;have c8:∀a,z a->¬n a:=λa b=>(M a b).2.2;refine⟨λK l w'=>∃(a0:Nat) (G3:Nat->Prop) (Y3:bw),l=a0/\K=2-a0/\a0<=2/\gw w w' p q FF G3 (dy d) 0 (dy d) 1 g Y3/\aj (λa=>n a\/b6.heap.size<=a) b6 w'/\(∀a,G3 a->n a\/b6.heap.size<=a)/\Wt g.S (λc=>(∀x,g.S.l[c]? =some x->x∉k)\/(1<=a0/\c=ix)) Y3,
   ⟨_,0,n,Y,rfl,rfl,oM,m2,aj.refl _,λa b=>.inl b,⟨b5.at'.choose,b5.at'.choose_spec.1,b5.at'.choose_spec.2.1,b5.at'.choose_spec.2.2.1,λi x Z j=>b5.at'.choose_spec.2.2.2 i x (Z.resolve_right λh=>oM) j⟩⟩,?_⟩
  rintro K _ _ N ⟨a0,G3,Y3,rfl,rfl,y4,a5,a1,b7,c9⟩;have y5:=a1.size;have nB:∀a,a<b6.heap.size->¬n a->¬(n a\/b6.heap.size<=a):=λa i4 X h=>h.elim X λh=>by omega
  have A:=a1.get r4 (nB _ oM λh=>by have:=m1 _ h;omega);refine al.dec (λhr=>⟨_,_,_,_,_,_,_,_,_,_,_,_,ae A rfl,ae A rfl,ae A rfl,ae A rfl,ae A rfl,ae A rfl,ae A rfl,ae A rfl,ae A rfl,ae A rfl,PA.mk λh9 V y6 r5=>?_⟩) (λhr=>?_)
  ·have d0:=a5.af V
   have m5:Row aP 8 h9 z q1 q2 x.aK:=((hq.af a4).keep a1 λa b=>nB a (by have:=(M a b).1;omega) (c8 a b)).af V;have l2:Row fZ 96 h9 (λa=>a=N.heap.size\/z a) (some ⟨N.heap.size,0,none⟩) 1 [x]:=row_one r5 ⟨q1,q2,q3,rfl,m5,c2⟩ dC;have a7:=a5.b.aF;have m6:Y3.S.l.length<=18000000:=by
    obtain⟨t0,-,f3,-⟩:=c9.at';rw [f3.set];simp;omega
   refine PC.ok (kf (m:=⟨3,0,1,[],[x]⟩) (va:=none) (vn:=0) (vc:=0) d0.b d0.eb (Row.nil _ (λ_=>False)) (λa h=>h.elim) l2 (λa b=>?_) m6) ?_
   ·rcases b with rfl|b
    ·exact⟨oM,λh=>by have:=a7 _ h;omega⟩
    ·exact⟨by have:=(M a b).1;omega,λh=>(b7 a h).elim (c8 a b) λh=>by have:=(M a b).1;omega⟩
   rintro _ r6 ⟨v1,G4,rfl,⟨oa,on,oc,-,-,rfl,-⟩,m7,c7⟩;obtain⟨s1,s2⟩:=c9.step (d:=dy d) e9 (by rw [h5];rfl) rfl rfl (show(1:Int)<=3 by decide) a9 p5 a5.b.nodup l9;refine⟨_,_,_,_,rfl,al.dw (λh=>absurd s1 h) (λ_=>⟨_,oM,a0+1,G4,_,an oM,rfl,oM,d0.OB m7 c7,?_,λa b=>(c7.new a b).elim (b7 a) λh=>.inr oM,?_⟩)⟩
   ·exact(a1.af V).then (c7.keep.mono λa _ b=>b7 a b)
   ·obtain⟨m4,f1,f2,f3,f4⟩:=s2.at'
    exact⟨m4,f1,f2,f3,λi x Z j=>f4 i x (Z.elim (λh=>.inl (.inl h)) λh=>.inr h.2) j⟩
  ·have m8:aj U c3 N:=(b0.af a4).then (a1.mono λa b h=>h.elim (g2 a) λh=>by rw [r];exact .inr oM)
   have m3:Row fZ 96 N z (some ⟨a,T,none⟩) L k:=(b9.af a4).keep a1 λa b=>nB a (by have:=(M a b).1;omega) (c8 a b);have i1:IntKind.wrap .i64 ((c:Int)+1)=((c+1:Nat):Int):=an oM;intro b8 r7;have e1:ai N b8:=r7.keep;refine⟨oM,show(c:Int)<=_ by omega,by rw [i1];omega,by rw [i1];omega,?_⟩;rw [i1,Qx,Qx];refine PA.mk λm9 r8 y7 n0=>?_;have n1:aV fZ 59 (·=b8.heap.size) m9 (some ⟨b8.heap.size,0,none⟩) 0 0 []:=⟨⟨[],λ_=>False,Own.xF (n:=0) n0 rfl (Qj _),rfl,λ_ h=>h.elim⟩,λa b=>by simpa [aI]using b.symm,λa b=>by subst b;exact aC n0⟩
   have d1:=e1.then r8;have y8:=e1.size;have e3:=m3.af d1;have W:∀a,z a->a<b4.heap.size:=λa b=>(M a b).1;have t9:k.length<=20:=oM
   refine sE n1 Eg (e3.take (m:=c) oM) (λh=>by cases h) (λa b=>⟨by have:=W a b;omega,λh=>by simp [aI]at h;have:=W a b;omega⟩) (by simp;unfold aQ;omega) (by simp;unfold maxLen;omega) λr9 y9 s0 z0 n2 e2 n3 d2=>⟨_,_,_,rfl,?_⟩
   have z3:=e2.size;have n5:∀a,z a->aI r9≠some a:=λa b h=>by have:=W a b;rcases d2 a h with h|h<;>omega
   have n6:Row fZ 96 s0 z (some ⟨a,T,none⟩) L k:=e3.keep e2 λa b h=>by simp [aI]at h;have:=W a b;omega
   have f0:=n6.part (lo:=c+1) (hi:=L) (cap:=lc) oM (Q4 _) q6;rw [Qz oM]at f0;refine sE n2 Eg f0 (λh=>by unfold cM at h;split at h<;>simp at h) (λa b=>⟨by have:=W a b;omega,n5 a b⟩) (by simp;unfold aQ;omega) (by simp;unfold maxLen;omega) λz4 z5 n4 s9 d3 i5 n8 u0=>⟨_,_,_,rfl,?_⟩
   have z6:=i5.size;have u1:aj (λa=>N.heap.size<=a) N n4:=(((ai.keep d1).then (e2.mono λa _ h=>by simp [aI]at h;show _<=a;omega))).then (i5.mono λa b h=>by show _<=a;rcases d2 a h with h|h<;>omega);have f8:ai N n4:=d1.new ((e2.mono (S':=λa=>m9.heap.size<=a\/a=b8.heap.size) λa _ h=>by simp [aI]at h;exact .inr oM).then (i5.mono λa b h=>(d2 a h).elim (λh=>.inr oM) λh=>.inl oM)) λa h=>.inr (by rcases h with h|h<;>omega);have a7:=a5.b.aF;refine⟨_,?_,i+1,G3,s9,Y3,k.take c++k.drop (c+1),an oM,?_,rfl,?_,a5.af f8,m8.af f8,λa b=>(b7 a b).elim (g2 a) λh=>by rw [r];exact .inr oM,d3.row dC (by simp;unfold aQ;omega),λa b=>?_,d3.jx,?_⟩
   ·simp;omega
   ·simp;omega
   ·rw [<-List.eraseIdx_eq_take_drop_succ];exact(List.eraseIdx_sublist ..).trans f7
   ·refine⟨d3.aF a b,?_⟩
    rcases n8 a b with h|h|h
    ·rcases n3 a h with h|h|h
     ·have h:a=b8.heap.size:=h
      exact⟨oM,λo=>by have:=a7 a o;omega⟩
     ·exact⟨(M a h).2.1,λo=>(b7 a o).elim (c8 a h) λX=>by have:=W a h;omega⟩
     ·exact⟨oM,λo=>by have:=a7 a o;omega⟩
    ·exact⟨(M a h).2.1,λo=>(b7 a o).elim (c8 a h) λX=>by have:=W a h;omega⟩
    ·exact⟨oM,λo=>by have:=a7 a o;omega⟩
   ·obtain⟨m4,f1,f2,f3,f4⟩:=c9.at'
    refine⟨m4,f1,f2,f3,λn7 x2 t1 e4=>f4 n7 x2 ?_ e4⟩;have X:=t1 x2 e4
    by_cases n9:x2=x
    ·right
     exact⟨oM,a9.inj (n9▸e4) l9⟩
    ·left
     intro x3 o0 t2;rw [e4]at o0;cases o0
     apply X;obtain⟨J,e5⟩:=List.mem_iff_getElem?.1 t2;rcases Nat.lt_trichotomy J c with h|h|h
     ·exact List.mem_append_left _ (QZ (i:=J) (by rw [Xw,if_pos h];exact e5))
     ·subst h;rw [j]at e5;exact absurd (XJ e5).symm n9
     ·exact List.mem_append_right _ (QZ (i:=J-(c+1)) (by rw [List.getElem?_drop,show c+1+(J-(c+1))=J by omega];exact e5))
 ·have t3:k=[]:=QW oM
  have e6:Y.S=g.S:=b5.all a9 λi Z x j=>by rw [t3];simp
  refine PC.ok (e_ a3.b (by rw [e6];omega)) ?_;rintro _ h9 ⟨z7,z8,A0,A1,rfl,o1,V,u8⟩;have r1:=(i2.keep b0 λa b=>l7 a (by have:=k0 a b;omega) (by have:=h7 a b;omega)).af V;refine⟨_,_,_,rfl,PC.ok (lL (o1.row dC (by rw [e6];unfold aQ;omega)) r1) ?_⟩;rintro _ r6 ⟨rfl,o2⟩;have b3:=(a3.af V).af o2;have g0:=o2.get (V.get (b0.get l6 (b2 _ oM)) id) id;refine⟨_,rfl,al.dec (λ_=>⟨_,_,_,_,_,_,ae g0 rfl,ae g0 rfl,?_⟩) (λh=>absurd (by rw [e6]) h)⟩;refine PC.ok (rN b3.a b3.b rfl (by rw [e6]) (hd.af b3.ea.gr)) ?_;rintro _ b8 ⟨rfl,e1⟩;exact⟨_,rfl,al.tt rfl (kq v y (b3.ea.gr.then e1))⟩
end
end Go.Proofs.YtfchlbaidamodaaGreatDoor

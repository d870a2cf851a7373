import Derived.Test.YtkpomgifkloklaaGreatDoorKe11
import Derived.RangeFuncSeq
import Derived.RangeFuncLeaves
set_option maxHeartbeats 4000000
set_option linter.all false
set_option maxRecDepth 20000
open Go.IntKind renaming wrap→PP
namespace Go.Proofs.YtkpomgifkloklaaGreatDoor
open Go.aw
def nG(n:dA)(D:ak):Int×dA×ak:=
 let b:=cI (ax n.next)
 let P:=D.sync b
 if P.1≠0 then(P.1,n,(P.2.delete b).2)else
 let a:=bD P.2 (n.bd++[n.next])
 if a.1≠0 then(a.1,n,(a.2.delete b).2)else
 (0,⟨n.size,n.bd++[n.next],0,PP .i64 (n.next+1)⟩,a.2)
def bC(P:dA)(D:ak):Int×dA×ak:=
 let n:=D.create (cI (ax P.next))
 if n.1≠0 then(n.1,P,n.2)else nG P n.2
def aN(n:dA)(D:ak):Int×dA×ak:=
 if n.bd=[]then bC n D else
 let P:=D.sync n.last
 if P.1≠0 then(P.1,n,P.2)else bC n P.2
def FF(b c:World)(d e:Nat)(P:ac)(n:Int×dA×ak)(f:Value)(a:World):Prop:=f= WP n.1/\cG b a d e n.2.1 n.2.2 P/\aj (dY P) c a
def Te(n:Int):aH (PP .i64 n):=by
 unfold aH PP;simp[IntKind.signed,IntKind.bits];omega
def HC{D:ak}{P:List Int}(n:(bD D P).1=0):P.length<=64:=by
 unfold bD at n;split at n
 ·cases n
 ·omega
variable{e:Int}{s:List Int}{u:List UInt8}{E:List ah}{a c i:Nat}{a0 f:ac}{d:be}{m:am}{b k:World}{z:bc}{l:ah}{X:bZ}{b3:dA}
def FG{D:ak}(hL:Laid b)(h:cG b k a c b3 D f):
  bn 153 #[RK c] k (Ok (FF b k a c f (aN b3 D))):=by
 have b2:=h.aE;obtain⟨p6,j7,e7⟩:=h.ZU;have p7:=h.gr.size;have e9:=h.BL;have j8:=h.many;refine uv (PA.mk λB k1 s1 g1=>PA.mk λw2 k2 s2 g2=>?_);have d8:ai k w2:=k1.then k2
 let b6:ac:=λn=>f n\/(n=k.heap.size\/n=B.heap.size)
 have hY:cG b w2 a c b3 D b6:=h.add d8 λn P=>by omega
 have b7:=k2.get g1 id;refine⟨λd=>∃C,cG b d a c b3 C b6/\aj (dY f) k d/\w2.heap.size<=d.heap.size/\d.heap[k.heap.size]? =some (.cells #[RK c] 111 (0,0))/\d.heap[B.heap.size]? =some (.cells #[WP 0] 37 (0,0))/\aN b3 D=bC b3 C,?_,?_⟩
 ·obtain⟨G,hD,hl,hG⟩:=id hY
  obtain⟨t,E,I,l,S,hr,hE,u⟩:=hl.row;refine⟨_,ae b7 rfl,c,0,rfl,_,_,_,ae S rfl,al.dec (λo9=>?_) (λy=>?_)⟩
  ·have v:b3.bd≠[]:=λg=>by rw[g]at u;simp at u;omega
   refine⟨_,ae b7 rfl,PC.ok (JZ hL hY v) ?_⟩;rintro _ w3 ⟨rfl,Y,k3⟩;have kX:aj (dY f) k w3:=(ai.keep d8).then (k3.mono λn _ P i=>P (.inl i));have b8:=k3.get b7 λu=>u (.inr (.inl rfl));have b9:=k3.get g2 λu=>u (.inr (.inr rfl));have hB:aN b3 D=if(D.sync b3.last).1≠0 then((D.sync b3.last).1,b3,(D.sync b3.last).2)else bC b3 (D.sync b3.last).2:=by unfold aN;rw[Zq v]
   refine⟨_,rfl,al.eu (λg0=>?_) (λF=>⟨_,Y,kX,k3.size,b8,b9,by rw[hB,Zq (by simpa using F)]⟩)⟩;refine PS.mk b9 sM λJ L s4 g4=>⟨_,ae g4 rfl,Ok.mk ?_⟩
   rw[hB,Zx g0];exact⟨rfl,(Y.other L λn P=>⟨P▸.inr (.inr rfl),oM⟩).mono λn P=>.inl P,kX.then (L.mono λn _ P i=>by have:=b2 n i;omega)⟩
  ·have he:b3.bd=[]:=QW oM
   exact⟨D,hY,ai.keep d8,Q4 _,b7,g2,by unfold aN;rw[Zx he]⟩
 rintro _ w3 ⟨C,Y,a1,p0,b8,b9,hB⟩;rw[hB];obtain⟨G3,p8,j9,p9⟩:=id Y;obtain⟨f6,n3,f7,E3,k0,-,-,-⟩:=j9.row;refine⟨_,ae b8 rfl,c,0,rfl,_,ae k0 rfl,PC.ok (ky (hL.af Y.gr) e9) ?_⟩;rintro _ J ⟨rfl,L⟩;refine⟨_,rfl,PA.mk λw5 k5 s5 g5=>PS.mk g5 sM λw6 k6 s6 g6=>?_⟩
 let p:ac:=λn=>b6 n\/n=J.heap.size
 have g3:=Y.af L;have q0:=g3.gr.size;have q1:=L.size;have l0:cG b w6 a c b3 C p:=(g3.add (Y:=(·=J.heap.size)) k5 λn P=>oM).other k6 λn P=>⟨.inr P,oM⟩
 have l3:aj (dY f) k w6:=((a1.af L).af k5).then (k6.mono λn _ P i=>by have:=b2 n i;have:=a1.size;omega);have e0:∀{n},f n->p n:=λi=>.inl (.inl i);intro M e4;have k7:ai w6 M:=e4.keep;have g7:=l0.af k7;have gn:w6.heap[J.heap.size]? =some (.cells #[.string (cI (ax b3.next))] 9 (0,0)):=g6;have l4:=k6.get (k5.get (L.get b8 id) id) oM;have g8:=k6.get (k5.get (L.get b9 id) id) oM
 let q:World->Int->Prop:=λd g=>d.heap[k.heap.size]? =some (.cells #[RK c] 111 (0,0))/\d.heap[B.heap.size]? =some (.cells #[WP g] 37 (0,0))/\d.heap[J.heap.size]? =some (.cells #[.string (cI (ax b3.next))] 9 (0,0))
 have C6:q w6 0:=⟨l4,g8,gn⟩
 have e:∀{d w:World} {g:Int} {d0:ac},q d g->aj d0 d w->(∀n,d0 n->¬(n=k.heap.size\/n=B.heap.size\/n=J.heap.size))->q w g:=λN o hS=>
  ⟨o.get N.1 λO=>hS _ O (.inl rfl),o.get N.2.1 λO=>hS _ O (.inr (.inl rfl)),o.get N.2.2 λO=>hS _ O (.inr (.inr rfl))⟩
 have j:∀{d w:World} {g:Int},q d g->aj (dY p) d w->q w g:=λN o=>e N o λn P hc=>P (by
  rcases hc with rfl|rfl|rfl
  ·exact .inl (.inr (.inl rfl))
  ·exact .inl (.inr (.inr rfl))
  ·exact .inr rfl)
 have c1:∀{d w:World},aj (dY f) k d->aj (dY p) d w->aj (dY f) k w:=λt n=>t.then (n.mono λn _ P i=>P (e0 i));have C7:q M 0:=e C6 k7 λn P=>P.elim;obtain⟨G7,q2,l5,q3⟩:=id g7;obtain⟨f8,n7,f9,E7,l6,-,-,-⟩:=l5.row;refine⟨_,ae C7.1 rfl,c,0,rfl,_,ae l6 rfl,_,ae C7.2.2 rfl,PC.ok (g7.on (λp hZ T=>T.create)) ?_⟩;rintro _ w8 ⟨rfl,c2,k8⟩;have C8:=j C7 k8;have h2:=c1 (l3.af k7) k8;have l7:bC b3 C=if(C.create (cI (ax b3.next))).1≠0 then((C.create (cI (ax b3.next))).1,b3,(C.create (cI (ax b3.next))).2)else nG b3 (C.create (cI (ax b3.next))).2:=rfl
 rw[l7];generalize q4:C.create (cI (ax b3.next))=cr at c2⊢;obtain⟨h0,K⟩:=cr;simp only at c2⊢;have q5:B.heap.size<w2.heap.size:=oM
 have h3:∀{d:World} {z:Int×dA×ak} {g:Int} {w:World},cG b d a c z.2.1 z.2.2 p->aj (dY f) k d->aj (·=B.heap.size) d w->g=z.1->FF b k a c f z (WP g) w:=by
  intro d z g w u o O he;exact⟨by rw[he],(u.other O λn P=>⟨P▸.inl (.inr (.inr rfl)),oM⟩).mono λn P=>e0 P,o.then (O.mono λn _ P i=>by have:=b2 n i;omega)⟩
 refine⟨_,rfl,al.eu (λv=>?_) (λF=>?_)⟩
 ·refine PS.mk C8.2.1 sM λw9 k9 s9 g9=>⟨_,ae g9 rfl,Ok.mk ?_⟩
  rw[Zx v];exact h3 c2 h2 k9 rfl
 rw[Zq (by simpa using F)];have A:∀{z:Int×dA×ak} (g:Int) (l:ak) (d:World),cG b d a c b3 l p->aj (dY f) k d->q d g->g≠0->z=(g,b3,(l.delete (cI (ax b3.next))).2)->
   Lv LL (λh4=>∃h5:Int,h4.cell? ⟨B.heap.size,0,none⟩=some (WP h5)/\Ok (FF b k a c f z) (.returned (WP h5)) h4) (λch d=>Ok (FF b k a c f z) (.panicked ch) d)
    ([{target:=.fn (.func 206) #[RK B.heap.size,RK k.heap.size,RK J.heap.size],args:= #[]}]:List Deferred) .returning d:=by
  intro z g l d u o N v hr;refine Lv.one sM kR (CallsD.mono (jD (R:=λe' M=>e'= .returned (.tuple #[])/\∃h6:Int,M.cell? ⟨B.heap.size,0,none⟩=some (WP h6)/\Ok (FF b k a c f z) (.returned (WP h6)) M) ⟨_,ae N.2.1 rfl,al.eu (λ_=>?_) (λF=>Zz F v)⟩) ?_)
  ·intro wa da
   have ka:ai d wa:=da.keep;have h7:=u.af ka;have e1:q wa g:=e N ka λn P=>P.elim;obtain⟨Ga,q6,l8,q7⟩:=id h7;obtain⟨aa,na,ca,Ea,c0,-,-,-⟩:=l8.row;refine⟨_,ae e1.1 rfl,c,0,rfl,_,ae c0 rfl,_,ae e1.2.2 rfl,PC.ok (h7.on (λp hZ T=>T.delete)) ?_⟩;rintro _ U ⟨rfl,l9,kb⟩;have m0:=j e1 kb;refine⟨_,rfl,rfl,_,ae m0.2.1 rfl,Ok.mk ?_⟩;rw[hr];exact⟨rfl,l9.mono λn P=>e0 P,c1 (o.af ka) kb⟩
  ·rintro e' u' M ⟨rfl,rfl,hX⟩
   exact Lv.ret rfl hX
 intro w9 e5;have k9:ai w8 w9:=e5.keep;have h8:=c2.af k9;have C9:q w9 0:=e C8 k9 λn P=>P.elim;obtain⟨G9,q8,m1,q9⟩:=id h8;obtain⟨k4,n9,l1,E9,m2,-,-,-⟩:=m1.row;refine⟨_,ae C9.1 rfl,c,0,rfl,_,ae m2 rfl,_,ae C9.2.2 rfl,PC.ok (h8.on (λp hZ T=>T.sync)) ?_⟩;rintro _ Z ⟨rfl,V,h9⟩;have b0:=j C9 h9;have d1:=c1 (h2.af k9) h9;have m3:nG b3 K=if(K.sync (cI (ax b3.next))).1≠0 then((K.sync (cI (ax b3.next))).1,b3,((K.sync (cI (ax b3.next))).2.delete (cI (ax b3.next))).2)else
   if(bD (K.sync (cI (ax b3.next))).2 (b3.bd++[b3.next])).1≠0 then((bD (K.sync (cI (ax b3.next))).2 (b3.bd++[b3.next])).1,b3,((bD (K.sync (cI (ax b3.next))).2 (b3.bd++[b3.next])).2.delete (cI (ax b3.next))).2)else
   (0,⟨b3.size,b3.bd++[b3.next],0,PP .i64 (b3.next+1)⟩,(bD (K.sync (cI (ax b3.next))).2 (b3.bd++[b3.next])).2):=rfl
 rw[m3];generalize r0:K.sync (cI (ax b3.next))=sy at V⊢;obtain⟨r3,c4⟩:=sy;dsimp only at V;refine⟨_,rfl,al.eu (λv=>?_) (λF=>?_)⟩
 ·refine PS.mk b0.2.1 sM λr s r4 m4=>?_
  rw[Zx v];exact A _ c4 r (V.other s λn P=>⟨P▸.inl (.inr (.inr rfl)),oM⟩) (d1.then (s.mono λn _ P i=>by have:=b2 n i;omega)) ⟨s.get b0.1 oM,m4,s.get b0.2.2 (by have:=a1.size;omega)⟩ v rfl
 rw[Zq (by simpa using F)];have p1:J.heap.size<Z.heap.size:=az b0.2.2;refine⟨λt E I d=>∃l,aS aO 3 l d t E I (b3.bd++[b3.next])/\(∀n,l n->Z.heap.size<=n)/\ai Z d,?_,?_⟩
 ·intro r m5
  have s:ai Z r:=m5.keep;have a5:=V.af s;have b1:q r 0:=e b0 s λn P=>P.elim;obtain⟨m6,i0,W,i1⟩:=id a5;obtain⟨m7,m8,m9,n0,a6,d2,d3,p2⟩:=W.row;have p3:=W.aE c W.self;have a2:∀{wa U wc:World} {S:Nat} {t E I:_} {a3:ac},aS aO 3 a3 U t E I b3.bd->(∀n,a3 n->r.heap.size<=n/\n≠S)->U.heap[S]? =some (.cells #[WP b3.next] 3 (0,0))->ai r U->
    ∀κ ε,(∀X n' c' d,(∃l,aS aO 3 l d X n' c' (b3.bd++[b3.next])/\(∀n,l n->Z.heap.size<=n)/\ai Z d)->aj (λn=>r.heap.size<=n) U d->κ (.slice X n' c') d)->
    aK LL (Builtin.append_ #[52,52] 52 #[.slice t E I,.slice (UV S) 1 1]) U κ ε:=by
   intro wa U wc S t E I a3 Q hF hg o κ ε c3;refine lW Q vr (D:=(·=S)) (Row.lit hg [b3.next] rfl (λd4 i=>by simp at i;subst i;exact e9) (by unfold aP;simp)) (λn g=>⟨g▸az hg,λe8=>(hF n (Q.self n e8)).2 g⟩) (by unfold aP;simp;omega) (by unfold maxLen;simp;omega) λX c' d F' c7 a4 _ c9=>?_;refine c3 X _ c' d ⟨λn=>aI X=some n,c7.alone,λn P=>?_,?_⟩ (a4.mono λn _ P=>(hF n (Q.self n P)).1)
   ·have:=s.size;have:=o.size
    rcases c9 n P with h|h
    ·have:=(hF n h).1;omega
    ·omega
   ·exact(s.then o).new a4 λn P=>.inr (by have:=(hF n (Q.self n P)).1;have:=s.size;omega)
  have r5:k.heap.size<r.heap.size:=az b1.1;refine⟨λn=>r.heap.size<=n,oM,_,ae b1.1 rfl,c,0,rfl,oM,_,_,_,ae a6 rfl,oM,_,ae b1.1 rfl,c,0,rfl,oM,_,ae a6 rfl,?_,?_⟩
  ·refine PC.ok (bV d2 λn P=>W.aE n (d3 n P).1) ?_
   rintro _ b4 ⟨r6,r7,r8,r9,rfl,a7,H,i2⟩;refine⟨_,_,_,rfl,H.keep,PA.mk λx m n1 e3=>⟨m.keep,a2 (wa:=x) (wc:=x) (a7.af m) (λn P=>⟨i2 n P,by have:=a7.aE n P;omega⟩) e3 (H.then m) _ _ λX n' c' d hJ o=>⟨_,_,_,rfl,o,trivial,hJ⟩⟩⟩
  ·refine PA.mk λb4 H s0 n2=>⟨H.keep,PC.ok (bV (d2.af H) λn P=>by have:=W.aE n (d3 n P).1;have:=H.size;omega) ?_⟩
   rintro _ x ⟨n4,n8,o0,s3,rfl,a8,m,d5⟩;exact⟨_,_,_,rfl,m.keep,a2 (wa:=x) (wc:=x) a8 (λn P=>⟨by have:=d5 n P;omega,by have:=d5 n P;omega⟩) (m.get n2 id) (H.then m) _ _ λX n' c' d hJ o=>⟨_,_,_,rfl,o,trivial,hJ⟩⟩
 rintro t E I _ r ⟨l,Q,hE,s⟩;have p4:(b3.bd++[b3.next]).length<=65:=by simp;omega
 have a5:cG b r a c b3 c4 (λn=>p n\/l n):=V.add s λn P=>⟨hE n P,Q.aE n P⟩
 have b1:q r 0:=e b0 s λn P=>P.elim;have d6:Row aO 8 r l t E (b3.bd++[b3.next]):=Q.row dC cw;have f0:∀d4∈b3.bd++[b3.next],aH d4:=Oj d6;obtain⟨m6,i0,W,i1⟩:=id a5;obtain⟨m7,m8,m9,n0,a6,-,-,-⟩:=W.row;refine⟨_,ae b1.1 rfl,c,0,rfl,_,ae a6 rfl,PC.ok (a5.on λZ' o1 T=>T.bD hL.qp d6 f0 λn P=>.inr (o1 n (.inr P))) ?_⟩;rintro _ b4 ⟨rfl,a9,H⟩;have R:aj (dY p) r b4:=H.mono λn _ P y=>P (.inl y);have c5:=j b1 R;have d7:=c1 (d1.af s) R;have a7:=Q.keep H λn P u=>u (.inr P);have b5:= @HC c4 (b3.bd++[b3.next]);have i3:True:=trivial;generalize s7:bD c4 (b3.bd++[b3.next])=mw at a9 b5 i3⊢;obtain⟨s8,c6⟩:=mw;dsimp only at a9 b5 i3⊢;refine⟨_,rfl,al.eu (λv=>?_) (λF=>?_)⟩
 ·refine PS.mk c5.2.1 sM λx m n1 e3=>?_
  rw[Zx v];have f1:cG b b4 a c b3 c6 p:=a9.mono λn P=>.inl P;exact A _ c6 x (f1.other m λn P=>⟨P▸.inl (.inr (.inr rfl)),oM⟩) (d7.then (m.mono λn _ P i=>by have:=b2 n i;omega)) ⟨m.get c5.1 oM,e3,m.get c5.2.2 (by have:=a1.size;omega)⟩ v rfl
 rw[Zq (by simpa using F)];have b5:=b5 F;intro x o2;have m:ai b4 x:=o2.keep;have i4:=a9.af m;have e6:q x 0:=e c5 m λn P=>P.elim;have a8:=a7.af m;obtain⟨t0,i5,d9,p5⟩:=id i4;obtain⟨n4,n8,o0,t1,i6,-,-,-⟩:=d9.row;have i7:∀n,l n->n≠c:=λn P g=>by have:=hE n P;omega
 have o3:c≠k.heap.size/\c≠B.heap.size/\c≠J.heap.size:=by have:=a1.size;omega
 refine⟨(·=c),_,ae e6.1 rfl,λg=>o3.1 g.symm,_,ae e6.1 rfl,c,0,rfl,PS.mk i6 sM λt2 i8 t3 o4=>⟨i8,c,0,rfl,PS.mk o4 sM λo5 i9 t4 j0=>⟨i9,?_⟩⟩⟩;have e2:=i8.then i9;have j1:q o5 0:=e e6 e2 λn P hc=>by subst P;omega
 refine⟨_,ae j1.1 rfl,c,0,rfl,_,ae j0 rfl,c,0,rfl,PS.mk j0 sM λc8 j2 t5 j3=>?_⟩;have o6:q c8 0:=e j1 j2 λn P hc=>by subst P;omega
 have a0:aj (·=c) x c8:=e2.then j2;refine PS.mk o6.2.1 sM λo7 o8 t6 j4=>Lv.one sM kR (CallsD.mono (jD (R:=λe' M=>e'= .returned (.tuple #[])/\M=o7) ⟨_,ae j4 rfl,al.eu (λhc=>Zz rfl hc) (λ_=>⟨rfl,rfl⟩)⟩) ?_);rintro e' u' _ ⟨rfl,rfl,rfl⟩;refine Lv.ret rfl ⟨_,ae j4 rfl,Ok.mk ?_⟩;have j5:c8.heap[c]? =some (.cells #[RK a,WP b3.size,.slice t E I,WP 0,WP (PP .i64 (b3.next+1))] 256 (0,0)):=j3;have j6:cG b c8 a c ⟨b3.size,b3.bd++[b3.next],0,PP .i64 (b3.next+1)⟩ c6 p:=by
  refine⟨λn=>n=c\/l n,?_,⟨⟨t,E,I,l,j5,a8.keep a0 λn P g=>i7 n P g,λn P=>⟨.inr P,i7 n P⟩⟩,.inl rfl,?_,b5,?_⟩,?_⟩
  ·have h1:bb b x a c6 (λn=>p n\/(n=c\/l n)):=i5.mono λn P=>by
    rcases P with P|P|P
    ·exact .inl (.inl P)
    ·exact .inr (P▸d9.self)
    ·exact .inl (.inr P)
   obtain⟨a3,f2,f4,f3,f5⟩:=h1;exact⟨a3,f2.keep a0 λn P g=>(f3 n P).2 (.inr (.inl g)),f4.new a0 λn P=>.inr oM,f3,λn P=>Qk (f5 n P) a0.size⟩
  ·rintro n (rfl|P)
   ·exact az j3
   ·exact Qk (a8.aE n P) a0.size
  ·show aH (PP .i64 (b3.next+1))
   exact Te _
  ·rintro n (rfl|P)
   ·exact⟨j7,λy=>by
     rcases y with(y|y|y)|y
     ·exact e7 y
     ·omega
     ·omega
     ·omega⟩
   ·have:=hE n P
    exact⟨by have:=V.gr.size;omega,λy=>by have:=V.aE n y;omega⟩
 exact h3 j6 ((d7.af m).then (a0.mono λn _ P i=>e7 (P▸i))) o8 rfl
def ay(no:Int):ByteArray:=cI (ax no)
structure pC where
 no:Int
 out:List ah
 V:dA
 D:ak
def cQ:List Int->List ah->dA->ak->pC
 |[],n,P,D=>⟨0,n,P,D⟩
 |no::a,n,P,D=>
  if(D.read (ay no)).2≠0 then⟨0,n,P,D⟩else
  if(bL (D.read (ay no)).1).2<(D.read (ay no)).1.length then
   ⟨(D.oD (ay no) (bL (D.read (ay no)).1).2).1,n++(bL (D.read (ay no)).1).1,⟨P.size,P.bd++[no],(bL (D.read (ay no)).1).2,P.next⟩,(D.oD (ay no) (bL (D.read (ay no)).1).2).2⟩
  else cQ a (n++(bL (D.read (ay no)).1).1) ⟨P.size,P.bd++[no],(bL (D.read (ay no)).1).2,P.next⟩ D
section
variable {w0 w w1 w':World} {p q:Nat} {D D':ak} {V V':dA} {X Y Z G S:ac}
def bb.fv(b:bb w0 w p D X)(c:aj Y w w')(d:∀n,Y n->X n/\w0.heap.size<=n)(e:∀n,Z n->(X n\/w.heap.size<=n)/\n<w'.heap.size):bb w0 w' p D Z:=by
 obtain⟨g,f,h,a,k⟩:=b;exact⟨g,f.keep c λn P i=>(a n P).2 (d n i).1,h.new c λn P=>.inr (d n P).2,λn P=>⟨(a n P).1,λj=>(e n j).1.elim (a n P).2 λb=>by have:=f.aE n P;omega⟩,λn P=>(e n P).2⟩
def cG.fv(f:cG w0 w p q V D X)(a:aj Y w w')(b:∀n,Y n->X n/\w0.heap.size<=n)(c:∀n,Z n->(X n\/w.heap.size<=n)/\n<w'.heap.size):cG w0 w' p q V D Z:=by
 obtain⟨G,g,d,e⟩:=f;refine⟨G,g.fv a (λn P=>⟨.inl (b n P).1,(b n P).2⟩) λn P=>?_,d.keep a λn P h=>(e n P).2 (b n h).1,λn P=>⟨(e n P).1,λi=>(c n i).1.elim (e n P).2 λf=>by have:=d.aE n P;omega⟩⟩;rcases P with P|P
 ·exact⟨(c n P).1.imp .inl id,(c n P).2⟩
 ·exact⟨.inl (.inr P),Qk (d.aE n P) a.size⟩
def Tf{no B:Int}(h:cG w0 w p q V D X)(O:aH no)(Q:V.bd.length+1<=64)(s:∀w',cG w0 w' p q ⟨V.size,V.bd++[no],B,V.next⟩ D X->aj (dY X) w w'->z w'):
  ∃C E,(UV q:be)=some ⟨C,E,none⟩/\∃(g:be) (t u:Nat),w.cell? ⟨C,E+2,none⟩=some (.slice g t u)/\
   PA w (.cells #[WP no] 3) λR=>aK LL (Builtin.append_ #[52,52] 52 #[.slice g t u,.slice (UV w.heap.size) 1 1]) R (λS T=>
    ∃(c:be) (F i:Nat),S= .slice c F i/\∃H I,(UV q:be)=some ⟨H,I,none⟩/\PS T ⟨H,I+2,none⟩ (.slice c F i) λU=>
     ∃J K,(UV q:be)=some ⟨J,K,none⟩/\PS U ⟨J,K+3,none⟩ (WP B) z) m:=by
 obtain⟨G,W,b,d⟩:=id h;obtain⟨g,t,u,a0,L,e,f⟩:=b.body;have a8:=b.aE q b.self;refine⟨q,0,rfl,_,_,_,ae L rfl,PA.mk λw1 j s1 Y=>?_⟩;refine lW (e.af j) vr (D:=(·=w.heap.size)) (Row.lit Y [no] rfl (λa1 k=>by simp at k;subst k;exact O) (by unfold aP;simp)) (λn a=>⟨oM,λZ=>by have:=e.aE n (e.self n Z);omega⟩) (by unfold aP;simp;omega) (by unfold maxLen;simp;omega) λc i w2 F' l o _ v=>?_
 replace l:=l.alone
 have a6:¬aI g=some q:=λa=>(f q (e.self q a)).2 rfl;have g2:=o.get (j.get L id) a6;have z2:=o.size;have x:¬aI c=some q:=λa=>by
  rcases v q a with h|h
  ·exact(f q h).2 rfl
  ·omega
 refine⟨_,_,_,rfl,q,0,rfl,PS.mk g2 sM λw3 y s3 g3=>⟨q,0,rfl,PS.mk g3 sM λr A s4 g4=>s r ?_ ?_⟩⟩
 ·have a7:aj (λn=>aI g=some n\/n=q) w1 r:=((o.mono λn _ P=>.inl P).then (y.mono λn _ P=>.inr P)).then (A.mono λn _ P=>.inr P)
  have kG:aj G w r:=(ai.keep j).then (a7.mono λn _ P=>P.elim (λh=>(f n (e.self n h)).1) λh=>h▸b.self);have M:∀n,aI c=some n->n<r.heap.size:=λn P=>by have:=l.aE n P;omega
  refine⟨λn=>n=q\/aI c=some n,W.fv kG (λn P=>⟨.inr P,(d n P).1⟩) λn P=>?_,⟨⟨c,_,i,(λn=>aI c=some n),g4,?_,λn P=>⟨.inr P,λa=>x (a▸P)⟩⟩,.inl rfl,?_,by simpa using Q,b.BL⟩,?_⟩
  ·rcases P with P|rfl|P
   ·exact⟨.inl (.inl P),by have:=h.aE n P;omega⟩
   ·exact⟨.inl (.inr b.self),oM⟩
   ·refine⟨?_,M n P⟩
    rcases v n P with h|h
    ·exact .inl (.inr (f n h).1)
    ·exact .inr oM
  ·exact(l.keep y λn P a=>x (a▸P)).keep A λn P a=>x (a▸P)
  ·rintro n (rfl|P)
   ·omega
   ·exact M n P
  ·rintro n (rfl|P)
   ·exact d _ b.self
   ·rcases v n P with N|N
    ·exact d n (f n N).1
    ·exact⟨by have:=h.gr.size;omega,λk=>by have:=h.aE n k;omega⟩
 ·refine(((ai.keep j).then (o.mono λn _ P=>?_)).then (y.mono λn _ P=>?_)).then (A.mono λn _ P=>?_)
  ·exact(d n (f n (e.self n P)).1).2
  ·exact(d n (P▸b.self)).2
  ·exact(d n (P▸b.self)).2
def Xh{j n:Nat}(P:j<=64)(a:n<=j*262144):n<=16777216:=oM
def Vq(w0 w:World)(p q:Nat)(X:ac)(n:pC)(d:Value)(w':World):Prop:=
 ∃a b c G,d= .tuple #[.slice a b c,WP n.no]/\aS wu 82 G w' a b c n.out/\cG w0 w' p q n.V n.D (λP=>X P\/G P)/\aj (dY X) w w'/\(∀P,G P->w.heap.size<=P)/\n.out.length<=16777216
def Tg(C:Laid w0)(h:cG w0 w p q V D X)(Q:Row aO 8 w f d a s)(c4:∀n,f n->X n)(g2:V.bd.length+s.length<=64):
  bn 152 #[RK q,.agg #[.slice d a c]] w (Ok (Vq w0 w p q X (cQ s [] V D))):=by
 have k:=Q.len;have R:=h.aE;have g5:=h.gr.size;refine uQ (PA.mk λw1 S s1 g1=>⟨_,_,_,ae g1 rfl,λT U W Y Z w'=>∃(e:Nat) (g:dA) (b:List ah) (G:ac),Z=e/\e<=s.length/\T=s.length-e/\cQ s [] V D=cQ (s.drop e) b g D/\g.bd.length=V.bd.length+e/\b.length<=e*262144/\
  aS wu 82 G w' U W Y b/\cG w0 w' p q g D (λn=>X n\/G n)/\aj (dY X) w w'/\∀n,G n->w.heap.size<=n,
  ⟨_,0,V,[],λ_=>False,rfl,Qj _,rfl,rfl,rfl,Qj _,aS.nil w1,(h.af S).mono λn P=>P.elim id λh=>h.elim,ai.keep S,λ_ h=>h.elim⟩,?_⟩)
 rintro T U W Y Z _ w2 ⟨e,g,b,G,rfl,hj,rfl,a4,g6,a0,l,hN,r,u⟩;rw[a4];refine al.dec (λg7=>?_) (λg8=>?_)
 rotate_left
 ·obtain rfl:e=s.length:=oM
  rw[List.drop_of_length_le (Q4 _)];exact Ok.mk ⟨_,_,_,G,rfl,l,hN,r,u,Xh oM a0⟩
 obtain⟨n,E,no,rfl,m,i,F⟩:=(Q.keep r λn P k=>k (c4 n P)).nK (i:=e) oM;have a2:s.drop e=no::s.drop (e+1):=by
  obtain⟨c8,rfl⟩:=Qv.1 m;exact X4 c8
 rw[a2]at a4⊢;refine⟨n,E,rfl,oM,oM,no,F,λw3 d3=>?_⟩;have k3:ai w2 w3:=d3.keep;have H:=hN.af k3;obtain⟨G3,d0,d1,g9⟩:=id H;obtain⟨a3,n3,c3,E3,d2,-,-,-⟩:=d1.row;refine⟨λ_=>False,q,0,rfl,id,_,ae d2 rfl,PC.ok (ky (C.af H.gr) i) ?_⟩;rintro _ w4 ⟨rfl,z⟩;have d4:=H.af z;refine⟨_,rfl,z,PC.ok ((d0.af z).read (k:=ay no)) ?_⟩;rintro _ w5 ⟨a5,n5,c5,F5,rfl,d5,h2,-,I⟩;have v:=d4.af I;have x:ai w2 w5:=(k3.then z).then I;have h3:=d5.len dC;have h4:=JP v.ok (ay no);refine⟨_,_,_,_,rfl,I,al.eu (λd6=>?_) (λhe=>?_)⟩
 ·rw[show cQ (no::s.drop (e+1)) b g D=⟨0,b,g,D⟩ by unfold cQ;rw[Zx d6]]
  exact Ok.mk ⟨_,_,_,G,rfl,l.af x,v,r.af x,u,Xh oM a0⟩
 obtain⟨G5,d7,d8,h5⟩:=id v;obtain⟨h6,h7,h8,E5,e0,-,-,-⟩:=d8.row;obtain⟨a7,e1,-,-,-⟩:=id d7;refine⟨q,0,rfl,_,ae e0 rfl,PC.ok (Th (C.af v.gr) e1 i) ?_⟩;rintro _ w6 ⟨a6,n6,c6,F6,rfl,t,J,K,a8⟩;have e2:cG w0 w6 p q g D (λn=>(X n\/G n)\/F6 n):=v.add J λn P=>⟨K n P,t.aE n P⟩
 have b0:=x.then J;have e3:=l.aE;generalize e4:bL (D.read (cI (ax no))).1=sl at t a8;obtain⟨j,o⟩:=sl;dsimp only at t a8;have a1:bL (D.read (ay no)).1=(j,o):=e4;have b1:Row wu 96 w6 F6 a6 n6 j:=t.row dC cw;refine⟨_,_,_,_,rfl,AD (l.af b0) Ik b1 (λL=>t.Pq L) (λn P=>⟨t.aE n P,λF=>by have:=e3 n (l.self n F);have:=K n P;have:=x.size;omega⟩) cw (by unfold maxLen;omega) λa9 c7 w7 A b2 M b3 _=>?_⟩;have h9:=x.size;have z6:=J.size;have b4:=b2.aE;have e5:cG w0 w7 p q g D (λn=>X n\/A n):=e2.fv M (λn P=>⟨.inl (.inr (l.self n P)),by have:=u n (l.self n P);omega⟩) λn P=>by
  rcases P with P|P
  ·exact⟨.inl (.inl (.inl P)),by have:=R n P;have:=r.size;have:=M.size;omega⟩
  ·refine⟨?_,b4 n P⟩
   rcases b3 n P with h|h|h
   ·exact .inl (.inl (.inr h))
   ·exact .inl (.inr h)
   ·exact .inr h
 have e6:aj (dY X) w w7:=(r.af b0).then (M.mono λn _ P m=>by have:=u n (l.self n P);have:=R n m;omega);have b5:∀n,A n->w.heap.size<=n:=λn P=>by
  have:=r.size;rcases b3 n P with h|h|h
  ·exact u n h
  ·have:=K n h;omega
  ·omega
 refine⟨_,_,_,rfl,Tf e5 i oM λw8 b6 k8=>?_⟩;have b7:aj (dY X) w w8:=e6.then (k8.mono λn _ P m=>P (.inl m));have b8:=b2.keep k8 λn P k=>k (.inr P);refine al.dec (λg3=>?_) (λg4=>?_)
 ·rw[show cQ (no::s.drop (e+1)) b g D=⟨(D.oD (ay no) o).1,b++j,⟨g.size,g.bd++[no],o,g.next⟩,(D.oD (ay no) o).2⟩ by
   unfold cQ;rw[a1,Zq (by simpa using he),Zx (by show o<_;omega)]]
  intro w9 d9;have N:ai w8 w9:=d9.keep;have b9:=b6.af N;obtain⟨G9,e7,O,e8⟩:=id b9;obtain⟨c0,n9,c9,E9,e9,-,-,-⟩:=O.row;refine⟨λn=>n≠q,q,0,rfl,λhs=>hs rfl,_,ae e9 rfl,PC.ok (ky (C.af b9.gr) i) ?_⟩;rintro _ f2 ⟨rfl,y⟩;refine⟨_,rfl,y.keep,PC.ok ((e7.af y).oD (k:=ay no)) ?_⟩;rintro _ g0 ⟨rfl,c1,B⟩;have c2:aj (dY X) f2 g0:=B.mono λn _ P m=>P (.inl (.inl m));refine⟨_,rfl,B.mono λn _ P L=>P (.inr (L▸O.self)),Ok.mk ⟨_,_,_,A,rfl,?_,⟨G9,c1,(O.af y).keep B λn P k=>k (.inr P),e8⟩,((b7.af N).af y).then c2,b5,?_⟩⟩
  ·exact((b8.af N).af y).keep B λn P k=>k (.inl (.inr P))
  ·exact Xh (j:=e+1) oM dg
 ·refine⟨_,?_,e+1,⟨g.size,g.bd++[no],o,g.next⟩,b++j,A,an oM,oM,rfl,?_,by simp;omega,by simp;omega,b8,b6,b7,b5⟩
  ·omega
  ·conv=>lhs;unfold cQ
   rw[a1,Zq (by simpa using he),Zq (by show¬o<_;omega)]
end
def dS(D:ak)(n:Int):dA:=⟨n,[],0,iD D⟩
def told(D:ak):List Int:=(dI D).getD []
def gB(P:Nat)(n:pC):pC:=
 if n.no≠0 then n else
 if n.V.bd=[]then⟨(aN n.V n.D).1,n.out,(aN n.V n.D).2.1,(aN n.V n.D).2.2⟩else
 if n.V.bd.length<P then⟨(bD n.D n.V.bd).1,n.out,n.V,(bD n.D n.V.bd).2⟩else n
def aT(D:ak)(n:Int):pC:=gB (told D).length (cQ (told D) [] (dS D n) D)
def Vr(e b:World)(f:Nat)(c:ac)(n:pC)(g:Value)(P:World):Prop:=
 (n.no≠0/\g= .tuple #[.pointer none,.slice none 0 0,WP n.no]/\bb e P f n.D c/\aj (dY c) b P)\/
 (n.no=0/\∃d h i j G,g= .tuple #[RK d,.slice h i j,WP 0]/\aS wu 82 G P h i j n.out/\cG e P f d n.V n.D (λa=>c a\/G a)/\aj (dY c) b P/\(∀a,G a->b.heap.size<=a)/\b.heap.size<=d/\n.out.length<=16777216)
def Jo{D:ak}{size:Int}(s:Laid b)(h:bb b k a D f):
  bn 95 #[RK a,WP size] k (Ok (Vr b k a f (aT D size))):=by
 have S:∀n,f n->n<k.heap.size:=by obtain⟨a0,h1,h2,h3,h4⟩:=h;exact h4
 have d1:=h.gr.size;obtain⟨a0,hF,-,-,-⟩:=id h;refine DO (PC.ok (JX (s.af h.gr) hF) ?_);rintro _ d ⟨rfl,F⟩;have T:=h.af F;have d2:=sA D.list;refine⟨_,rfl,PA.mk λw2 U s2 g2=>PC.ok ((T.af U).iY s.qp) ?_⟩;rintro _ t ⟨x,y,V,z,rfl,W,X,-,H⟩;have z1:=F.size;have z3:=H.size
 change aS aO 3 z t x y V (told D)at W
 have d3:(told D).length<=64:=ER;have b4:ai d t:=U.then H;refine⟨_,_,_,_,rfl,PA.mk λw4 k4 s4 g4=>PS.mk g4 sM λj k5 s5 Y=>⟨_,_,_,ae Y rfl,?_⟩⟩;have b5:j.heap[t.heap.size]? =some (.cells #[.slice x y V] 258 (0,0)):=Y;have I:ai t j:=k4.new k5 λn P=>.inr oM;have Z:ai d j:=b4.then I;have a8:ai k j:=F.then Z;have b6:=I.get (H.get g2 id) id;have a9:=W.af I
 let J:ac:=λn=>f n\/(z n\/n=t.heap.size)
 have b7:cG b j a d.heap.size (dS D size) D J:=by
  refine⟨(·=d.heap.size),T.fv Z (Y:=λ_=>False) (λn P=>P.elim) λn P=>?_,⟨⟨none,0,0,λ_=>False,b6,aS.nil j,λ_ h=>h.elim⟩,rfl,λn P=>oM,Qj _,?_⟩,λn P=>⟨oM,λE=>?_⟩⟩
  ·rcases P with(P|P|P)|P
   ·exact⟨.inl P,by have:=S n P;omega⟩
   ·exact⟨.inr (by have:=X n P;omega),a9.aE n P⟩
   ·exact⟨.inr oM,oM⟩
   ·exact⟨.inr oM,oM⟩
  ·show aH (tQ D.list);unfold aH;omega
  ·subst P
   rcases E with E|E|E
   ·have:=S _ E;omega
   ·have:=X _ E;omega
   ·omega
 have K:Row aO 8 j z x y (told D):=a9.row dC cw;refine PC.ok (Tg s b7 K (λn P=>.inr (.inl P)) (by show 0+_<=_;omega)) ?_;rintro _ L ⟨a6,n6,c6,l,rfl,A,u,M,b8,b0⟩;have z5:=a8.size;have hq:k.heap.size<=d.heap.size:=z1;have N:aj (dY f) k L:=(ai.keep a8).then (M.mono λn _ P E=>P (.inl E));have g6:=M.get b5 λi=>i (.inr (.inr rfl));have b9:Row aO 8 L z x y (told D):=K.keep M λn P i=>i (.inr (.inl P));have d4:=K.len;show _;unfold aT;generalize cQ (told D) [] (dS D size) D=e at A u b0;have b1:∀n,l n->k.heap.size<=n:=λn P=>by have:=b8 n P;omega
 refine⟨_,_,_,_,rfl,λno m=>∃o p,gB (told D).length e=⟨no,e.out,o,p⟩/\aS wu 82 l m a6 n6 c6 e.out/\cG b m a d.heap.size o p (λn=>f n\/l n)/\aj (dY f) k m,?_,?_⟩
 ·have c:∀{m o p},cG b m a d.heap.size o p (λn=>J n\/l n)->cG b m a d.heap.size o p (λn=>f n\/l n):=λh=>h.mono λn P=>P.imp .inl id
  refine al.eu (λq=>⟨e.V,e.D,by unfold gB;rw[Zx q],A,c u,N⟩) (λv=>?_);obtain⟨GL,c1,b2,c2⟩:=id u;obtain⟨aL,nL,cL,EL,O,b3,c4,c5⟩:=b2.row;refine⟨_,_,rfl,_,_,_,ae O rfl,al.eT (λhz=>?_) (λc7=>?_)⟩
  ·have Q:e.V.bd=[]:=QW oM
   refine PC.ok (FG s u) ?_;rintro _ B ⟨rfl,r,g⟩;exact⟨_,rfl,_,_,by unfold gB;rw[Zq (by simpa using v),Zx Q],A.keep g λn P i=>i (.inr P),c r,N.then (g.mono λn _ P E=>P (.inl (.inl E)))⟩
  ·have q:¬e.V.bd=[]:=λa1=>c7 (by rw[c5,a1];rfl)
   refine⟨_,_,rfl,_,_,_,ae O rfl,_,_,_,ae g6 rfl,λB d7=>?_⟩;have g:ai L B:=d7.keep;have r:=u.af g;have C:=A.af g;have w:aj (dY f) k B:=N.af g;refine al.dec (λd5=>?_) (λd6=>⟨_,_,by unfold gB;rw[Zq (by simpa using v),Zq q,Zq oM],C,c r,w⟩);have c8:=g.get O id;refine⟨_,_,rfl,_,_,_,ae c8 rfl,PC.ok ((c1.af g).bD s.qp (b3.af g) (Oj b3) λn P=>.inr (.inr (c4 n P).1)) ?_⟩;rintro _ w8 ⟨rfl,c9,R⟩;have d0:cG b w8 a d.heap.size e.V (bD e.D e.V.bd).2 (λn=>J n\/l n):=⟨GL,c9,(b2.af g).keep R λn P i=>i (.inr P),c2⟩
   exact⟨_,rfl,_,_,by unfold gB;rw[Zq (by simpa using v),Zq q,Zx oM],C.keep R λn P i=>i (.inl (.inr P)),c d0,w.then (R.mono λn _ P E=>P (.inl (.inl (.inl E))))⟩
 ·rintro no _ B ⟨o,p,Q,C,r,w⟩
  rw[Q];refine al.eu (λq=>Ok.mk (.inl ⟨q,rfl,r.uV.mono λn P=>.inl P,w⟩)) (λv=>Ok.mk (.inr ⟨v,d.heap.size,a6,n6,c6,l,by rfl,C,r,w,b1,hq,b0⟩))
def eV(n:ah):Bool:=decide (64<n.aM.length)
def aG(P:dA)(D:ak)(a:List ah):Int×dA×ak:=
 if a.any eV then(3,P,D)else if a=[]then(0,P,D)else
 let n:=if P.size<=P.bytes then aN P D else(0,P,D)
 if n.1≠0 then n else
 let b:=n.2.2.append n.2.1.last (aB a)
 if b.1≠0 then(b.1,n.2.1,b.2)else(0,⟨n.2.1.size,n.2.1.bd,PP .i64 (n.2.1.bytes+((aB a).length:Nat)),n.2.1.next⟩,b.2)
def tR{D:ak}(n:(aN b3 D).1=0):(aN b3 D).2.1.bd≠[]:=by
 have c:∀P:ak,(nG b3 P).1=0->(nG b3 P).2.1.bd≠[]:=by
  intro P;unfold nG;dsimp only;split
  ·rename_i a;intro n;exact Zz n a
  ·split
   ·rename_i a;intro n;exact Zz n a
   ·intro _;simp
 have b:∀P:ak,(bC b3 P).1=0->(bC b3 P).2.1.bd≠[]:=by
  intro P;unfold bC;dsimp only;split
  ·rename_i a;intro n;exact Zz n a
  ·exact c _
 revert n
 unfold aN;dsimp only;split
 ·exact b D
 ·split
  ·rename_i a;intro n;exact Zz n a
  ·exact b _
def NP(n:l.Ok)(P:l.aM.length<=64):(oA l).length<=675:=by
 have:=FE n P;have a:=ry n P;unfold oA at*;rw[ft];omega
def pB(n:List ah)(P:ah):aB (n++[P])=aB n++oA P:=by simp[aB]
def MS{D:ak}{v b6:Nat}(V:Laid b)(u:cG b k a c b3 D f)(d1:b3.bd≠[])(hr:Row iz 96 k a0 d v E)(d4:∀n,a0 n->n<k.heap.size)(hl:E.length<=20000000):
  bn 117 #[RK c,.slice d v b6] k (Ok (FF b k a c f (aG b3 D E))):=by
 have z:=hr.len;have e9:=u.aE;refine sX ⟨λa5 K L W a6 w=>∃(g:Nat) (x:ac),a6=g/\g<=v/\a5=v-g/\(∀e∈E.take g,e.Ok/\e.aM.length<=64)/\(aB (E.take g)).length<=675*g/\aS gC 5 x w K L W (aB (E.take g))/\ai k w/\∀n,x n->k.heap.size<=n,
  ⟨_,0,λ_=>False,rfl,Qj _,rfl,sM,by simp[aB],aS.nil k,aj.refl _,λ_ u=>u.elim⟩,?_⟩
 rintro a5 K L W a6 _ X ⟨g,x,rfl,hj,rfl,Z,d5,p,l,hF⟩;have a7:=p.len dC;refine al.dec (λd6=>?_) (λd7=>?_)
 ·obtain⟨n,a1,e,es,rfl,_,_,q,h,c0,n1,c1,rfl,hd,M⟩:=(hr.af l).vv (i:=g) oM
  have m:=λi (hi:i<10)=>h i hi;refine⟨n,a1,rfl,oM,oM,_,_,_,_,_,_,_,_,_,_,_,_,m 0 dC,m 1 dC,m 2 dC,m 3 dC,m 4 dC,m 5 dC,m 6 dC,m 7 dC,m 8 dC,m 9 dC,PA.mk λA B s2 g2=>?_⟩;refine storeAll (aF e c0 n1 c1) g2 rfl λC r s3 o=>?_;have y:ai X C:=B.new r λn P=>.inr oM;refine⟨_,_,_,_,_,_,_,_,_,_,_,_,ae o rfl,ae o rfl,ae o rfl,ae o rfl,ae o rfl,ae o rfl,ae o rfl,ae o rfl,ae o rfl,ae o rfl,?_⟩;refine PC.ok (ES (V.af ((u.gr.then l).then y)) (hd.af y) M λn P=>by have:=d4 n P;have:=(l.then y).size;omega) ?_;rintro _ w4 ⟨c2,n4,f0,F4,rfl,s,t,b4⟩
  by_cases N:e.aM.length<=64
  ·have a8:=ry M N
   rw[a8]at s⊢;have f1:=NP M N;refine⟨_,_,_,_,rfl,al.eu (λh=>Zz rfl h) (λ_=>?_)⟩;have a9:=y.then t;have c3:Row gC 1 w4 F4 c2 n4 (oA e):=s.row (bytes:=1) dC (by unfold aP;dsimp only;omega);have f2:=a9.size;have g0:=y.size;refine AD (p.af a9) ue c3 (λe=>s.Pq e) (λn P=>⟨s.aE n P,λh=>by have:=p.aE n (p.self n h);have:=b4 n P;omega⟩) cw (by unfold maxLen;omega) λb5 c5 w5 F5 b0 d8 d9 _=>?_;have b1:E.take (g+1)=E.take g++[e]:=by rw[Qw,q];rfl
   refine⟨_,_,_,rfl,v-(g+1),oM,g+1,F5,an oM,oM,rfl,?_,?_,?_,(l.then a9).new d8 λn P=>.inr (by have:=hF n (p.self n P);omega),?_⟩
   ·rw[b1]
    intro c4 a2;rcases Q6.1 a2 with Y|Y
    ·exact Z c4 Y
    ·simp at Y;subst Y;exact⟨M,N⟩
   ·rw[b1,pB];simp;omega
   ·rw[b1,pB];exact b0
   ·intro n P
    have:=l.size;rcases d9 n P with Y|Y|Y
    ·exact hF n Y
    ·have:=b4 n Y;omega
    ·omega
  ·have a8:=yK N
   rw[a8]at s⊢;refine⟨_,_,_,_,rfl,al.eu (λ_=>?_) (λh=>Zz h dC)⟩;have c7:E.any eV=true:=List.any_eq_true.2 ⟨e,QZ q,by unfold eV;simp;omega⟩;refine Ok.mk ?_;rw[show aG b3 D E=(3,b3,D) by unfold aG;rw[Zx c7]];have b7:=(l.then y).then t;exact⟨rfl,u.af b7,ai.keep b7⟩
 ·obtain rfl:g=v:=oM
  rw[Qz oM]at Z d5 p a7;have b8:E.any eV=false:=by
   rw[<-Bool.not_eq_true];intro h;obtain⟨e,he,h2⟩:=List.any_eq_true.1 h;have:=(Z e he).2;unfold eV at h2;simp at h2;omega
  refine al.eT (λhz=>?_) (λe0=>?_)
  ·have he:E=[]:=QW oM
   refine Ok.mk ?_;rw[show aG b3 D E=(0,b3,D) by unfold aG;rw[Zq (by simp[b8]),Zx he]];exact⟨rfl,u.af l,ai.keep l⟩
  have e2:E≠[]:=λe=>e0 (by rw[z,e];rfl)
  let F:ac:=λn=>f n\/x n
  have b9:cG b X a c b3 D F:=u.add l λn P=>⟨hF n P,p.aE n P⟩
  have d2:aG b3 D E=if(if b3.size<=b3.bytes then aN b3 D else(0,b3,D)).1≠0 then(if b3.size<=b3.bytes then aN b3 D else(0,b3,D))else
    if((if b3.size<=b3.bytes then aN b3 D else(0,b3,D)).2.2.append (if b3.size<=b3.bytes then aN b3 D else(0,b3,D)).2.1.last (aB E)).1≠0 then(((if b3.size<=b3.bytes then aN b3 D else(0,b3,D)).2.2.append (if b3.size<=b3.bytes then aN b3 D else(0,b3,D)).2.1.last (aB E)).1,(if b3.size<=b3.bytes then aN b3 D else(0,b3,D)).2.1,((if b3.size<=b3.bytes then aN b3 D else(0,b3,D)).2.2.append (if b3.size<=b3.bytes then aN b3 D else(0,b3,D)).2.1.last (aB E)).2)
    else(0,⟨(if b3.size<=b3.bytes then aN b3 D else(0,b3,D)).2.1.size,(if b3.size<=b3.bytes then aN b3 D else(0,b3,D)).2.1.bd,PP .i64 ((if b3.size<=b3.bytes then aN b3 D else(0,b3,D)).2.1.bytes+((aB E).length:Nat)),(if b3.size<=b3.bytes then aN b3 D else(0,b3,D)).2.1.next⟩,((if b3.size<=b3.bytes then aN b3 D else(0,b3,D)).2.2.append (if b3.size<=b3.bytes then aN b3 D else(0,b3,D)).2.1.last (aB E)).2):=by
   unfold aG;rw[Zq (by simp[b8]),Zq e2]
  obtain⟨GL,g1,e3,g4⟩:=id b9;obtain⟨aL,nL,cL,EL,gL,g5,g7,g8⟩:=e3.row;rw[d2];refine⟨λw=>∃H O,(if b3.size<=b3.bytes then aN b3 D else(0,b3,D))=(0,H,O)/\H.bd≠[]/\cG b w a c H O F/\aj (dY f) k w/\aS gC 5 x w K L W (aB E),?_,?_⟩
  ·refine⟨c,0,rfl,_,ae gL rfl,c,0,rfl,_,ae gL rfl,λA d3=>?_⟩
   have B:ai X A:=d3.keep;have Q:=b9.af B;have R:=p.af B;have S:aj (dY f) k A:=ai.keep (l.then B);refine al.dec (λd7=>?_) (λd6=>⟨b3,D,by rw[Zq oM],d1,Q,S,R⟩);refine PC.ok (FG V Q) ?_;rintro _ C ⟨rfl,I,r⟩;have c6:aj (dY f) k C:=S.then (r.mono λn _ P q=>P (.inl q));have a3:(if b3.size<=b3.bytes then aN b3 D else(0,b3,D))=aN b3 D:=Zx oM;rw[a3];refine⟨_,rfl,al.eu (λa4=>?_) (λT=>⟨_,_,by rw[<-T],tR T,I,c6,R.keep r λn P z=>z (.inr P)⟩)⟩;rw[Zx a4];exact Ok.mk ⟨rfl,I.mono λn P=>.inl P,c6⟩
  ·rintro _ A ⟨H,O,a3,e1,Q,S,R⟩ C e4
   rw[a3];have r:ai A C:=e4.keep;have I:=Q.af r;have e5:=R.af r;obtain⟨G3,e6,U,J⟩:=id I;obtain⟨f3,n3,f4,E3,e7,-,-,-⟩:=U.row;refine⟨λn=>n≠c,c,0,rfl,λhs=>hs rfl,_,ae e7 rfl,PC.ok (JY (V.af I.gr) U e1) ?_⟩;rintro _ w4 ⟨rfl,t⟩;have s:=e5.af t;have e8:Row gC 1 w4 x K L (aB E):=s.row (bytes:=1) dC cw;refine⟨_,rfl,t.keep,PC.ok ((e6.af t).append e8 (λe=>s.Pq e) λn P=>.inr (.inl (.inr P))) ?_⟩;rintro _ w5 ⟨rfl,b2,k5⟩;have j:=(U.af t).keep k5 λn P z=>z (.inr P);have c8:aj (dY f) k w5:=((S.af r).af t).then (k5.mono λn _ P q=>P (.inl (.inl q)));refine⟨_,rfl,k5.mono λn _ P e=>P (.inr (e▸U.self)),?_⟩;rw[Zq (λh:((0,H,O):Int×dA×ak).1≠0=>h rfl)];refine al.eu (λa4=>?_) (λT=>?_)
   ·rw[Zx a4]
    exact Ok.mk ⟨rfl,cG.mono (X:=F) ⟨G3,b2,j,J⟩ λn P=>.inl P,c8⟩
   ·rw[Zq (by simpa using T)]
    obtain⟨b5,n5,c5,E5,c9,b0,d0⟩:=j.body;refine⟨c,0,rfl,_,ae c9 rfl,c,0,rfl,PS.mk c9 sM λw6 k6 s6 g6=>Ok.mk ⟨rfl,?_,c8.then (k6.mono λn _ P q=>(J n (P▸j.self)).2 (.inl q))⟩⟩;rw[a7]at g6;refine cG.mono (X:=F) ⟨G3,b2.fv k6 (λn P=>⟨.inr (P▸j.self),(J n (P▸j.self)).1⟩) (λn P=>⟨.inl P,by have:=(P.elim (cG.aE (X:=F) ⟨G3,b2,j,J⟩ n) (j.aE n):n<w5.heap.size);omega⟩),⟨⟨b5,n5,c5,E5,g6,b0.keep k6 λn P e=>(d0 n P).2 e,d0⟩,j.self,λn P=>by have:=j.aE n P;omega,j.many,j.BL⟩,J⟩ λn P=>.inl P
def dV(n:List UInt8):bZ:=⟨n,n.length,true⟩
structure cu (D:ak):Prop where
 dead:D.dead=false
 jF:D.jF=false
section
variable {D E:ak} {k:ByteArray} {l:List Int}
def BR(D:ak)(n:ak->Int×ak):D.op n=(15,D.gone)\/D.op n=n D.cV:=by
 unfold ak.op;split
 ·exact .inl rfl
 ·exact .inr rfl
def cu.op(P:cu D)(n:ak->Int×ak):D.op n=n D:=by
 unfold ak.op ak.dies ak.cV;rw[P.dead,P.jF]
 rfl
def cu.same(n:cu D)(P:E.dead=D.dead)(a:E.jF=D.jF):cu E:=⟨P.trans n.dead,a.trans n.jF⟩
def Sm(n:bZ):n.cut n.bytes.length=dV n.bytes:=by
 have P:iq (n.bytes.length:Int) n.bytes.length=n.bytes.length:=by unfold iq;omega
 simp[bZ.cut,P,dV]
def lQ(D:ak)(k:ByteArray):((D.create k).1≠0/\(D.create k).2.files=D.files)\/((D.create k).1=0/\dd k=true/\au D.files k=none/\(D.create k).2.files=aJ D.files k ⟨[],0,false⟩):=by
 unfold ak.create;rcases BR D λD=>if dd k then(if(au D.files k).isSome then(16,D)else if 64<=D.files.length then(12,D)else(0,D.fP k ⟨[],0,false⟩))else(1,D)with h|h
 ·rw[h];exact .inl ⟨sM,rfl⟩
 ·rw[h]
  have n:=eJ D;split
  ·rename_i P
   split
   ·exact .inl ⟨sM,n⟩
   ·split
    ·exact .inl ⟨sM,n⟩
    ·rename_i a _
     refine .inr ⟨rfl,P,?_,?_⟩
     ·rw[<-n];simpa using a
     ·show aJ D.cV.files k _=_;rw[n]
  ·exact .inl ⟨sM,n⟩
def cu.create(n:cu D)(k:ByteArray):cu (D.create k).2/\(dd k=true->au D.files k=none->(D.create k).1=0\/(D.create k).1=12):=by
 unfold ak.create;rw[n.op];split
 ·split
  ·rename_i c a;exact⟨n,λ_ P=>by rw[P]at a;cases a⟩
  ·split
   ·exact⟨n,λ_ _=>.inr rfl⟩
   ·exact⟨n.same rfl rfl,λ_ _=>.inl rfl⟩
 ·rename_i P;exact⟨n,λb=>Zz b P⟩
def wh(D:ak)(k:ByteArray)(n:ak->bZ->Int×ak):((D.op (ak.BS k n)).1≠0/\(D.op (ak.BS k n)).2.files=D.files)\/∃P,au D.files k=some P/\D.op (ak.BS k n)=n D.cV P:=by
 rcases BR D (ak.BS k n)with h|h
 ·rw[h];exact .inl ⟨sM,rfl⟩
 ·rw[h]
  unfold ak.BS;rw[eJ];split
  ·exact .inl ⟨sM,eJ D⟩
  ·rename_i P a;exact .inr ⟨P,a,rfl⟩
def cu.on(P:cu D)(a:au D.files k=some X)(n:ak->bZ->Int×ak):D.op (ak.BS k n)=n D X:=by
 rw[P.op];unfold ak.BS;rw[a]
def cu.ZD(P:cu D){n:ak->bZ->Int×ak}(a:∀b,cu (n D b).2):cu (D.op (ak.BS k n)).2:=by
 rw[P.op];unfold ak.BS;split
 ·exact P
 ·exact a _
def pd(D:ak)(k:ByteArray)(P:List UInt8):((D.append k P).1≠0/\(D.append k P).2.files=D.files)\/((D.append k P).1=0/\∃n,au D.files k=some n/\(D.append k P).2.files=aJ D.files k {n with bytes:=n.bytes++P}):=by
 unfold ak.append;rcases wh D k λD n=>if(P.length:Int)>D.room then(12,D)else(0,D.fP k {n with bytes:=n.bytes++P})with a|⟨n,b,a⟩
 ·exact .inl a
 ·rw[a]
  split
  ·exact .inl ⟨sM,eJ D⟩
  ·exact .inr ⟨rfl,n,b,by show aJ D.cV.files k _=_;rw[eJ]⟩
def cu.append(n:cu D)(k:ByteArray)(P:List UInt8):cu (D.append k P).2/\∀a,au D.files k=some a->(D.append k P).1=0\/(D.append k P).1=12:=by
 refine⟨?_,λa b=>?_⟩
 ·unfold ak.append
  refine n.ZD λa=>?_;split
  ·exact n
  ·exact n.same rfl rfl
 ·unfold ak.append
  rw[n.on b];split
  ·exact .inr rfl
  ·exact .inl rfl
def om(D:ak)(k:ByteArray):((D.sync k).1≠0/\(D.sync k).2.files=D.files)\/((D.sync k).1=0/\∃n,au D.files k=some n/\(D.sync k).2.files=aJ D.files k (dV n.bytes)):=by
 unfold ak.sync;rcases wh D k λD n=>(0,D.fP k (n.cut n.bytes.length))with P|⟨n,a,P⟩
 ·exact .inl P
 ·rw[P,Sm];exact .inr ⟨rfl,n,a,by show aJ D.cV.files k _=_;rw[eJ]⟩
def cu.sync(n:cu D)(k:ByteArray):cu (D.sync k).2/\∀P,au D.files k=some P->(D.sync k).1=0:=by
 refine⟨?_,λP a=>?_⟩
 ·unfold ak.sync;exact n.ZD λP=>n.same rfl rfl
 ·unfold ak.sync;rw[n.on a]
def cu.oD(P:cu D)(a:au D.files k=some X)(n:Int):(D.oD k n).1=0/\(D.oD k n).2=D.fP k (X.cut n)/\cu (D.oD k n).2:=by
 unfold ak.oD;rw[P.on a];exact⟨rfl,rfl,P.same rfl rfl⟩
def jO(D:ak)(k:ByteArray):(D.delete k).2.files=D.files\/(D.delete k).2.files=bR D.files k:=by
 unfold ak.delete;rcases wh D k λD P=>(0,D.wi k)with n|⟨P,a,n⟩
 ·exact .inl n.2
 ·rw[n];exact .inr (by show bR D.cV.files k=_;rw[eJ])
def cu.delete(n:cu D)(k:ByteArray):cu (D.delete k).2/\((D.delete k).2.files=bR D.files k\/(au D.files k=none/\(D.delete k).2.files=D.files)):=by
 unfold ak.delete;refine⟨n.ZD λa=>n.same rfl rfl,?_⟩;rw[n.op];unfold ak.BS;split
 ·rename_i P;exact .inr ⟨P,rfl⟩
 ·exact .inl rfl
def uo(k:ByteArray)(D E:ak):Prop:=Tidy E.files/\∀n,n≠k->au E.files n=au D.files n
def uo.refl(n:Tidy D.files):uo k D D:=⟨n,λ_ _=>rfl⟩
def uo.of(n:uo k D E){P:ak}(a:P.files=E.files):uo k D P:=⟨by rw[a];exact n.1,λb c=>by rw[a];exact n.2 b c⟩
def uo.put(n:uo k D E){P:ak}(a:P.files=aJ E.files k X):uo k D P:=⟨by rw[a];exact n.1.aJ _ _,λc b=>by rw[a,bE,Zq (by simpa using b)];exact n.2 c b⟩
def uo.del(n:uo k D E){F:ak}(P:F.files=bR E.files k):uo k D F:=⟨by rw[P];exact n.1.bR _,λb a=>by rw[P,gy n.1,Zq (by simpa using a)];exact n.2 b a⟩
def uo.clean(n:uo aQ D E):uo aQ D (eE E).2:=by
 unfold eE;split
 ·rcases jO E aQ with e|e
  ·exact n.of e
  ·exact n.del e
 ·exact n
def NO:aQ≠cj:=λn=>by have:=tn;rw[n]at this;simp at this
def UG(D:ak)(l:List Int)(n:Int×ak):Prop:=(n.1≠0/\uo aQ D n.2)\/
  (n.1=0/\l.length<=64/\Tidy n.2.files/\au n.2.files cj=some (dV (bT l))/\∀P,P≠aQ->P≠cj->au n.2.files P=au D.files P)
def UG.step{P k:Nat}{r:Int×ak}(g:qb l P E=r)(a:r.1≠0->uo aQ D r.2)(b:r.1=0->UG D l (pD l (P+1) k r.2)):UG D l (pD l P (k+1) E):=by
 rw[pD,g];split
 ·rename_i n;exact .inl ⟨n,(a n).clean⟩
 ·rename_i n;exact b (by simpa using n)
def LO(o:Tidy D.files)(l:List Int):UG D l (bD D l):=by
 unfold bD;split
 ·exact .inl ⟨sM,uo.refl o⟩
 rename_i z;have h:uo aQ D (eE D).2:=(uo.refl o).clean;refine UG.step (r:=eE D) rfl (λ_=>h) λ_=>?_;generalize(eE D).2=d at h;have B:=lQ d aQ;refine UG.step (r:=d.create aQ) rfl (λc=>?_) λu=>?_
 ·rcases B with B|B
  ·exact h.of B.2
  ·exact Zz B.1 c
 rcases B with B|⟨_,_,_,B⟩
 ·exact Zz u B.1
 have j:uo aQ D (d.create aQ).2:=h.put B;have p:au (d.create aQ).2.files aQ=some ⟨[],0,false⟩:=by rw[B,bE];simp
 generalize(d.create aQ).2=e at j p;have a:=pd e aQ (bT l);refine UG.step (r:=e.append aQ (bT l)) rfl (λc=>?_) λv=>?_
 ·rcases a with a|a
  ·exact j.of a.2
  ·exact Zz a.1 c
 rcases a with a|⟨_,i,b,a⟩
 ·exact Zz v a.1
 rw[p]at b;cases b
 have k:uo aQ D (e.append aQ (bT l)).2:=j.put a;have q:au (e.append aQ (bT l)).2.files aQ=some ⟨bT l,0,false⟩:=by rw[a,bE];simp
 generalize(e.append aQ (bT l)).2=f at k q;have F:=om f aQ;refine UG.step (r:=f.sync aQ) rfl (λc=>?_) λw=>?_
 ·rcases F with F|F
  ·exact k.of F.2
  ·exact Zz F.1 c
 rcases F with F|⟨_,i,b,F⟩
 ·exact Zz w F.1
 rw[q]at b;cases b
 have g:uo aQ D (f.sync aQ).2:=k.put F;have r:au (f.sync aQ).2.files aQ=some (dV (bT l)):=by rw[F,bE];simp
 generalize(f.sync aQ).2=n at g r;have P:((n.rename aQ cj).1≠0/\(n.rename aQ cj).2.files=n.files)\/((n.rename aQ cj).1=0/\(n.rename aQ cj).2.files=aJ (bR n.files aQ) cj (dV (bT l))):=by
  unfold ak.rename;rcases wh n aQ λD i=>if dd cj then(0,(D.wi aQ).fP cj {i with jZ:=true})else(1,D)with m|⟨i,b,m⟩
  ·exact .inl m
  ·rw[m,Zx Js]
   rw[r]at b;cases b
   exact .inr ⟨rfl,by show aJ (bR n.cV.files aQ) cj _=_;rw[eJ];rfl⟩
 refine UG.step (r:=n.rename aQ cj) rfl (λc=>?_) λx=>?_
 ·rcases P with P|P
  ·exact g.of P.2
  ·exact Zz P.1 c
 rcases P with P|⟨_,P⟩
 ·exact Zz x P.1
 refine .inr ⟨rfl,oM,?_,?_,λs t y=>?_⟩
 ·show Tidy (n.rename aQ cj).2.files;rw[P];exact(g.1.bR _).aJ _ _
 ·show au (n.rename aQ cj).2.files cj=_;rw[P,bE];simp
 ·show au (n.rename aQ cj).2.files s=_
  rw[P,bE,Zq (by simpa using y),gy g.1,Zq (by simpa using t)];exact g.2 s t
def UH(n:Int×ak):Prop:=cu n.2/\(n.1=0\/n.1=3\/n.1=12)
def cu.clean(n:cu D):cu (eE D).2:=by
 unfold eE;split
 ·exact(n.delete _).1
 ·exact n
def Mk(a:cu D)(n:Tidy D.files):(eE D).1=0/\au (eE D).2.files aQ=none/\Tidy (eE D).2.files:=by
 unfold eE;split
 ·rename_i P
  obtain⟨d,b⟩:=Option.isSome_iff_exists.1 P;have c:D.delete aQ=(0,D.wi aQ):=by unfold ak.delete;rw[a.on b]
  rw[c];exact⟨rfl,by show au (bR _ _) _=_;rw[gy n];simp,n.bR _⟩
 ·rename_i P;exact⟨rfl,by simpa using P,n⟩
def UH.step{n k:Nat}{r:Int×ak}(g:qb l n E=r)(P:cu r.2)(a:r.1=0\/r.1=3\/r.1=12)(b:r.1=0->UH (pD l (n+1) k r.2)):UH (pD l n (k+1) E):=by
 rw[pD,g];split
 ·exact⟨P.clean,a⟩
 ·rename_i c;exact b (by simpa using c)
def cu.bD(h:cu D)(s:Tidy D.files)(l:List Int):UH (bD D l):=by
 unfold Go.Proofs.YtkpomgifkloklaaGreatDoor.bD;split
 ·exact⟨h,.inr (.inl rfl)⟩
 obtain⟨z1,p,t⟩:=Mk h s;have i:=h.clean;refine UH.step (r:=eE D) rfl i (.inl z1) λ_=>?_;generalize(eE D).2=d at i p t;have n:=lQ d aQ;obtain⟨j,u⟩:=i.create aQ;refine UH.step (r:=d.create aQ) rfl j ((u UI p).imp id .inr) λv=>?_;rcases n with n|⟨_,_,_,n⟩
 ·exact Zz v n.1
 have q:au (d.create aQ).2.files aQ=some ⟨[],0,false⟩:=by rw[n,bE];simp
 generalize(d.create aQ).2=e at j q;have P:=pd e aQ (bT l);obtain⟨k,w⟩:=j.append aQ (bT l);refine UH.step (r:=e.append aQ (bT l)) rfl k ((w _ q).imp id .inr) λx=>?_;rcases P with P|⟨_,a,A,P⟩
 ·exact Zz x P.1
 have f:∃a,au (e.append aQ (bT l)).2.files aQ=some a:=by rw[P,bE];simp
 generalize(e.append aQ (bT l)).2=g at k f;obtain⟨B,f⟩:=f;have b:=om g aQ;obtain⟨c,y⟩:=k.sync aQ;refine UH.step (r:=g.sync aQ) rfl c (.inl (y _ f)) λz=>?_;rcases b with b|⟨_,a,C,b⟩
 ·exact Zz z b.1
 have r:au (g.sync aQ).2.files aQ=some (dV a.bytes):=by rw[b,bE];simp
 generalize(g.sync aQ).2=m at c r;have o:m.rename aQ cj=(0,(m.wi aQ).fP cj {dV a.bytes with jZ:=true}):=by
  unfold ak.rename;rw[c.on r,Zx Js]
 refine UH.step (r:=m.rename aQ cj) rfl (by rw[o];exact c.same rfl rfl) (.inl (by rw[o])) λE=>?_;rw[o];exact⟨c.same rfl rfl,.inl rfl⟩
def Pv{l:List (ByteArray×bZ)}(a:Tidy l)(b:bZ->Bool)(d:bZ->bZ)(k:ByteArray):
  au ((l.filter λn=>b n.2).map λn=>(n.1,d n.2)) k=(au l k).bind λf=>if b f then some (d f)else none:=by
 induction l with
 |nil=>rfl
 |cons j l e=>
  obtain⟨n,g⟩:=j;unfold Tidy at a e;simp only[QY,List.nodup_cons]at a;rw[List.filter_cons]
  by_cases h:(k==n)=true
  ·have m:k=n:=eq_of_beq h
   subst m;have o:au ((l.filter λn=>b n.2).map λn=>(n.1,d n.2)) k=none:=by
    rw[jS];intro i;apply a.1;simp only[List.map_map,Xk,List.mem_filter]at i⊢;obtain⟨p,⟨q,_⟩,r⟩:=i;exact⟨p,q,r⟩
   by_cases P:b g=true
   ·simp[P,au]
   ·rw[Zq (by simpa using P),o];simp[P,au]
  ·have c:(k==n)=false:=by simpa using h
   by_cases P:b g=true
   ·simp only[P,if_true,QY,au,c,Bool.false_eq_true,if_false]
    exact e a.2
   ·rw[Zq (by simpa using P)]
    simp only[au,c,Bool.false_eq_true,if_false];exact e a.2
def EV(a:Tidy D.files)(P:Int)(k:ByteArray):au (D.eA P).files k=(au D.files k).bind λn=>if n.jZ then some (tv P n)else none:=
 Pv a (λn=>n.jZ) (tv P) k
def Ml(a:Tidy D.files)(P:Int):Tidy (D.eA P).files:=by
 show(((D.files.filter λn=>n.2.jZ).map λn=>(n.1,tv P n.2)).map (·.1)).Nodup;rw[List.map_map];exact(rz a λn=>n.2.jZ)
def Jt(D:ak)(n:Int):cu (D.eA n):=⟨rfl,rfl⟩
def EW(P:Int)(n:List UInt8)(c:a<=n.length):∃b,a<=b/\b<=n.length/\tv P ⟨n,a,true⟩=dV (n.take b):=by
 refine⟨iq (Hd P ⟨n,a,true⟩) n.length,?_,oE _ _,?_⟩
 ·unfold iq Hd;simp only;omega
 ·have:=oE (Hd P ⟨n,a,true⟩) n.length
  unfold tv bZ.cut dV;simp only[Qy,X2 this]
def uS(P:Tidy D.files)(n:Int){k:ByteArray}(a:au D.files k=some (dV u)):au (D.eA n).files k=some (dV u):=by
 rw[EV P,a];obtain⟨c,d,e,b⟩:=EW n u (Q4 _);show(if true then some (tv n ⟨u,u.length,true⟩)else none)=_;rw[b,Qz oM];rfl
end
abbrev qo:=List (Int×List ah)
def cY(n:qo):List Int:=n.map (·.1)
def cx(n:qo)(P:List ah):List ah:=(n.map (·.2)).flatten++P
structure cO (D:ak) (A:qo) (no:Int) (l:List ah) (k:Nat):Prop where
 tidy:Tidy D.files
 full:∀x∈A,au D.files (ay x.1)=some (dV (aB x.2))
 last:∃s,au D.files (ay no)=some ⟨aB l,s,true⟩/\(aB (l.take k)).length<=s/\s<=(aB l).length
 kl:k<=l.length
 XR:au D.files cj=some (dV (bT (cY A++[no])))
 zF:∀n∈cY A++[no],1<=n/\n<1000000000000
 zD:(cY A++[no]).Pairwise (·<·)
 evs:∀e∈cx A l,e.Ok/\e.aM.length<=64
 many:A.length+1<=64
structure Ic (V:dA) (A:qo) (no:Int) (l:List ah):Prop where
 bd:V.bd=cY A++[no]
 bytes:V.bytes=((aB l).length:Nat)
 next:no<V.next/\V.next<=1000000000000
def fI{n:Int}(d:dd (ay n)=true\/0<=n/\n<1000000000000):ay n≠cj/\ay n≠aQ:=by
 have b:cj.data.toList.take 4≠dN:=by decide+kernel
 have c:aQ.data.toList.take 4≠dN:=by decide+kernel
 have P:(ay n).data.toList.take 4=dN\/(ay n).data.toList=[]:=by
  unfold ay;rw[oK];unfold ax;split
  ·exact .inr rfl
  ·exact .inl (by simp[dN])
 refine⟨λa=>?_,λa=>?_⟩
 ·rw[a]at P
  rcases P with P|P
  ·exact b P
  ·revert P;decide+kernel
 ·rw[a]at P
  rcases P with P|P
  ·exact c P
  ·revert P;decide+kernel
def sv{a n:Int}(P:0<=a/\a<1000000000000)(b:ay n=ay a):n=a:=J_ P.1 P.2 (Ol b)
def um(P:0<=e):dd (ay e)=true↔e<1000000000000:=by
 constructor
 ·intro n
  by_cases a:e<1000000000000
  ·exact a
  ·have:ay e=cI []:=by unfold ay ax;rw[Zx (.inr oM)]
   have b:dd (cI [])=false:=by decide+kernel
   rw[this,b]at n;cases n
 ·intro n;exact Ka P n
def km(n:List ah)(P:Nat):(aB (n.take P)).length<=(aB n).length:=by
 have a:=ZX P n
 conv=>rhs;rw[<-a,gF,QX]
 omega
def CE(n:qo)(no:Int)(P a:List ah):cx (n++[(no,P)]) a=cx n P++a:=by simp[cx]
section
variable {D E:ak} {A:qo} {no:Int} {l x:List ah} {k j:Nat} {V:dA}
def cO.same(n:cO D A no l k)(c:Tidy E.files)(P:∀a∈cY A++[no],au E.files (ay a)=au D.files (ay a))(d:au E.files cj=au D.files cj):cO E A no l k:=
 ⟨c,λx b=>(P x.1 (ZV _ (Xk.2 ⟨x,b,rfl⟩))).trans (n.full x b),by
  obtain⟨e,f,g⟩:=n.last;exact⟨e,(P no (ZW _ (List.mem_singleton.2 rfl))).trans f,g⟩,n.kl,d.trans n.XR,n.zF,n.zD,n.evs,n.many⟩
def cO.files(P:cO D A no l k)(n:E.files=D.files):cO E A no l k:=P.same (by rw[n];exact P.tidy) (λ_ _=>by rw[n]) (by rw[n])
def cO.uq(n:cO D A no l k):1<=no/\no<1000000000000:=n.zF no (ZW _ (List.mem_singleton.2 rfl))
def cO.Wl(P:cO D A no l k):∀n∈A,ay n.1≠ay no:=λn b c=>by
 have d:=P.uq;have:=sv ⟨oM,d.2⟩ c;have a:=P.zD;rw[List.pairwise_append]at a;have:=a.2.2 n.1 (Xk.2 ⟨n,b,rfl⟩) no (List.mem_singleton.2 rfl);omega
def cO.put(n:cO D A no l k){P:List ah}{s b:Nat}(a:E.files=aJ D.files (ay no) ⟨aB P,s,true⟩)(f:b<=P.length)(g:(aB (P.take b)).length<=s)(h:s<=(aB P).length)(i:∀e∈P,e.Ok/\e.aM.length<=64):cO E A no P b:=
 ⟨by rw[a];exact n.tidy.aJ _ _,λc d=>by rw[a,bE,Zq (by simpa using n.Wl c d)];exact n.full c d,⟨s,by rw[a,bE];simp,g,h⟩,f,by
  have:=(fI (n:=no) (.inr (by have:=n.uq;omega))).1;rw[a,bE,Zq (by simpa using this.symm)];exact n.XR,n.zF,n.zD,λe a=>by
  rcases Q6.1 a with F|F
  ·exact n.evs e (ZV _ F)
  ·exact i e F,n.many⟩
def cO.Zb(P:cO D A no l k):∀n∈l,n.Ok/\n.aM.length<=64:=λn a=>P.evs n (ZW _ a)
def cO.MK(n:Ic V A no l):V.last=ay no:=by unfold dA.last;rw[n.bd];simp[ay]
def cO.mono(n:cO D A no l k)(P:j<=k):cO D A no l j:=by
 obtain⟨a,b,c,d⟩:=n.last;exact⟨n.tidy,n.full,⟨a,b,Xx (CF P) c,d⟩,Xx P n.kl,n.XR,n.zF,n.zD,n.evs,n.many⟩
def Fy(n:cO D A no l k):((D.sync (ay no)).1=0/\cO (D.sync (ay no)).2 A no l l.length)\/((D.sync (ay no)).1≠0/\cO (D.sync (ay no)).2 A no l k):=by
 rcases om D (ay no)with⟨P,a⟩|⟨P,d,b,a⟩
 ·exact .inr ⟨P,n.files a⟩
 ·obtain⟨e,c,f,g⟩:=n.last
  rw[c]at b;cases b
  exact .inl ⟨P,n.put a (Q4 _) (by rw[List.take_length];exact Q4 _) (Q4 _) n.Zb⟩
def CG(m:Tidy D.files)(o:0<=V.next):((bC V D).1≠0/\(bC V D).2.1=V/\Tidy (bC V D).2.2.files/\∀x,x≠ay V.next->x≠aQ->au (bC V D).2.2.files x=au D.files x)\/
  ((bC V D).1=0/\V.next<1000000000000/\V.bd.length+1<=64/\au D.files (ay V.next)=none/\(bC V D).2.1=⟨V.size,V.bd++[V.next],0,V.next+1⟩/\Tidy (bC V D).2.2.files/\au (bC V D).2.2.files (ay V.next)=some (dV [])/\
   au (bC V D).2.2.files cj=some (dV (bT (V.bd++[V.next])))/\∀x,x≠ay V.next->x≠aQ->x≠cj->au (bC V D).2.2.files x=au D.files x):=by
 unfold bC;dsimp only;rw[show cI (ax V.next)=ay V.next from rfl];rcases lQ D (ay V.next)with⟨d,f⟩|⟨d,f,w,p⟩
 ·rw[Zx d]
  exact .inl ⟨d,rfl,by show Tidy (D.create _).2.files;rw[f];exact m,λx _ _=>by show au (D.create (ay V.next)).2.files x=_;rw[f]⟩
 have q:=(um o).1 f;obtain⟨y,nt⟩:=fI (n:=V.next) (.inr ⟨o,q⟩);rw[Zq (show¬(D.create (ay V.next)).1≠0 by simpa using d)];have g:uo (ay V.next) D (D.create (ay V.next)).2:=(uo.refl m).put p;have r:au (D.create (ay V.next)).2.files (ay V.next)=some ⟨[],0,false⟩:=by rw[p,bE];simp
 generalize(D.create (ay V.next)).2=P at g r;unfold nG;dsimp only;rw[show cI (ax V.next)=ay V.next from rfl];have a:∀{F:ak},Tidy F.files->(∀x,x≠ay V.next->x≠aQ->au F.files x=au D.files x)->Tidy (F.delete (ay V.next)).2.files/\∀x,x≠ay V.next->x≠aQ->au (F.delete (ay V.next)).2.files x=au D.files x:=by
  intro F l s;rcases jO F (ay V.next)with e|e
  ·rw[e];exact⟨l,s⟩
  ·rw[e];exact⟨l.bR _,λx n b=>by rw[gy l,Zq (by simpa using n)];exact s x n b⟩
 rcases om P (ay V.next)with⟨h,c⟩|⟨h,E,t,c⟩
 ·rw[Zx h]
  have:=a (F:=(P.sync (ay V.next)).2) (by rw[c];exact g.1) λx n _=>by rw[c];exact g.2 x n
  exact .inl ⟨h,rfl,this⟩
 rw[r]at t;cases t
 have i:uo (ay V.next) D (P.sync (ay V.next)).2:=g.put c;have u:au (P.sync (ay V.next)).2.files (ay V.next)=some (dV []):=by rw[c,bE];simp
 rw[Zq (show¬(P.sync (ay V.next)).1≠0 by simpa using h)];generalize(P.sync (ay V.next)).2=z at i u;rcases LO i.1 (V.bd++[V.next])with⟨j,k⟩|⟨j,k,A,B,v⟩
 ·rw[Zx j]
  have:=a (F:=(bD z (V.bd++[V.next])).2) k.1 λx n b=>(k.2 x b).trans (i.2 x n);exact .inl ⟨j,rfl,this⟩
 ·rw[Zq (by simpa using j)]
  refine .inr ⟨rfl,q,by simpa using k,w,?_,A,(v _ nt y).trans u,B,λx n b C=>(v x b C).trans (i.2 x n)⟩;rw[wrap_i64 cS]
def cO.bC(b:cO D A no l l.length)(i:Ic V A no l):((bC V D).1≠0/\(bC V D).2.1=V/\cO (bC V D).2.2 A no l l.length)\/
  ((bC V D).1=0/\(bC V D).2.1.size=V.size/\cO (bC V D).2.2 (A++[(no,l)]) V.next [] 0/\Ic (bC V D).2.1 (A++[(no,l)]) V.next []/\(bC V D).2.1.next=V.next+1):=by
 have H:=b.uq;have I:=i.next;have q:∀n∈cY A++[no],n<V.next:=λn a=>by
  rcases Q6.1 a with P|P
  ·have j:=b.zD
   rw[List.pairwise_append]at j;have:=j.2.2 n P no (List.mem_singleton.2 rfl);omega
  ·have:=List.mem_singleton.1 P;omega
 have k:∀n∈cY A++[no],ay n≠ay V.next:=λn a d=>by
  have P:=b.zF n a;have j:=q n a;have:=sv (a:=n) ⟨oM,P.2⟩ d.symm;omega
 have e:∀n∈cY A++[no],ay n≠cj/\ay n≠aQ:=λn a=>fI (.inr (by have:=b.zF n a;omega));have u:cj≠ay V.next:=λd=>by
  by_cases J:V.next<1000000000000
  ·exact(fI (n:=V.next) (.inr oM)).1 d.symm
  ·have v:ay V.next=cI []:=by unfold ay ax;rw[Zx (.inr oM)]
   rw[v]at d
   revert d;decide+kernel
 rcases CG (V:=V) b.tidy oM with⟨m,r,g,o⟩|⟨m,r,g,o,f,w,x,s,t⟩
 ·exact .inl ⟨m,r,b.same g (λn a=>o _ (k n a) (e n a).2) (o _ u λd=>NO d.symm)⟩
 ·rw[i.bd]at g s
  have y:A.length+1+1<=64:=by simpa[cY]using g
  have h:cY (A++[(no,l)])=cY A++[no]:=by simp[cY]
  refine .inr ⟨m,by rw[f],⟨w,λp z=>?_,⟨0,x,by simp[aB],Qj _⟩,Q4 _,by rw[h];exact s,?_,?_,by rw[CE,List.append_nil];exact b.evs,by simpa using y⟩,⟨by rw[f,h,i.bd],by rw[f];simp[aB],by rw[f];simp only;omega⟩,by rw[f]⟩
  ·rcases Q6.1 z with P|P
   ·have c:p.1∈cY A++[no]:=ZV _ (Xk.2 ⟨p,P,rfl⟩)
    rw[t _ (k _ c) (e _ c).2 (e _ c).1];exact b.full p P
   ·rw[List.mem_singleton]at P
    subst P;have c:no∈cY A++[no]:=ZW _ (List.mem_singleton.2 rfl);obtain⟨B,C,E,K⟩:=b.last;rw[List.take_length]at E;have F:B=(aB l).length:=oM
    show au _ (ay no)=_;rw[t _ (k _ c) (e _ c).2 (e _ c).1,C,F];rfl
  ·rw[h]
   intro n a;rcases Q6.1 a with P|P
   ·exact b.zF n P
   ·have:=List.mem_singleton.1 P;omega
  ·rw[h,List.pairwise_append]
   exact⟨b.zD,List.pairwise_singleton _ _,λn a L c=>by have:=List.mem_singleton.1 c;have:=q n a;omega⟩
def cO.begin(c:cO D A no l k)(P:Ic V A no l):((aN V D).1≠0/\(aN V D).2.1=V/\cO (aN V D).2.2 A no l k)\/
  ((aN V D).1=0/\(aN V D).2.1.size=V.size/\cO (aN V D).2.2 (A++[(no,l)]) V.next [] 0/\Ic (aN V D).2.1 (A++[(no,l)]) V.next []/\(aN V D).2.1.next=V.next+1):=by
 have d:¬V.bd=[]:=by rw[P.bd];simp
 have e:aN V D=if(D.sync (ay no)).1≠0 then((D.sync (ay no)).1,V,(D.sync (ay no)).2)else Go.Proofs.YtkpomgifkloklaaGreatDoor.bC V (D.sync (ay no)).2:=by
  unfold aN;rw[Zq d,cO.MK P]
 rw[e];rcases Fy c with⟨n,a⟩|⟨n,a⟩
 ·rw[Zq (by simpa using n)]
  rcases a.bC P with⟨f,g,h⟩|b
  ·exact .inl ⟨f,g,h.mono c.kl⟩
  ·exact .inr b
 ·rw[Zx n];exact .inl ⟨n,rfl,a⟩
end
def bQ(n:List ah):List UInt8×Int:=if n.any eV then([],3)else(aB n,0)
def Md(V:Laid b)(C:Row iz 96 b f d a E)(W:∀n,f n->n<b.heap.size)(hl:E.length<=20000000):
  bn 125 #[.slice d a c] b (Ok λX q=>∃F H I l,X= .tuple #[.slice F H I,WP (bQ E).2]/\aS gC 5 l q F H I (bQ E).1/\ai b q/\∀n,l n->b.heap.size<=n):=by
 have hn:=C.len;refine xQ ⟨λJ K L N O q=>∃(P:Nat) (l:ac),O=P/\P<=a/\J=a-P/\(∀e∈E.take P,e.Ok/\e.aM.length<=64)/\(aB (E.take P)).length<=675*P/\aS gC 5 l q K L N (aB (E.take P))/\ai b q/\∀n,l n->b.heap.size<=n,
  ⟨_,0,λ_=>False,rfl,Qj _,rfl,sM,by simp[aB],aS.nil b,aj.refl _,λ_ u=>u.elim⟩,?_⟩
 rintro J K L N O _ Y ⟨P,l,rfl,hj,rfl,v,Z,o,m,w⟩;refine al.dec (λa9=>?_) (λb0=>?_)
 ·obtain⟨n,x,e,es,rfl,_,_,Q,j,a1,n1,c1,rfl,hd,s⟩:=(C.af m).vv (i:=P) oM
  have g:=λi (hi:i<10)=>j i hi;refine⟨n,x,rfl,oM,oM,_,_,_,_,_,_,_,_,_,_,_,_,g 0 dC,g 1 dC,g 2 dC,g 3 dC,g 4 dC,g 5 dC,g 6 dC,g 7 dC,g 8 dC,g 9 dC,PA.mk λw2 k2 s2 g2=>?_⟩;refine storeAll (aF e a1 n1 c1) g2 rfl λw3 k3 s3 h=>?_;have p:ai Y w3:=k2.new k3 λn k=>.inr oM;refine⟨_,_,_,_,_,_,_,_,_,_,_,_,ae h rfl,ae h rfl,ae h rfl,ae h rfl,ae h rfl,ae h rfl,ae h rfl,ae h rfl,ae h rfl,ae h rfl,?_⟩;refine PC.ok (ES (V.af (m.then p)) (hd.af p) s λn k=>by have:=W n k;have:=(m.then p).size;omega) ?_;rintro _ R ⟨a4,n4,c4,F4,rfl,r,S,T⟩
  by_cases t:e.aM.length<=64
  ·have y:=ry s t
   rw[y]at r⊢;have b1:=NP s t;refine⟨_,_,_,_,rfl,al.eu (λj=>Zz rfl j) (λ_=>?_)⟩;have z:=p.then S;have a0:Row gC 1 R F4 a4 n4 (oA e):=r.row (bytes:=1) dC (by unfold aP;dsimp only;omega);have b2:=z.size;have b3:=p.size;refine AD (o.af z) ue a0 (λe=>r.Pq e) (λn k=>⟨r.aE n k,λj=>by have:=o.aE n (o.self n j);have:=T n k;omega⟩) cw (by unfold maxLen;omega) λb4 c5 w5 F5 a3 a6 a7 _=>?_;have A:E.take (P+1)=E.take P++[e]:=by rw[Qw,Q];rfl
   refine⟨_,_,_,rfl,a-(P+1),oM,P+1,F5,an oM,oM,rfl,?_,?_,?_,(m.then z).new a6 λn k=>.inr (by have:=w n (o.self n k);omega),?_⟩
   ·rw[A]
    intro a2 B;rcases Q6.1 B with M|M
    ·exact v a2 M
    ·simp at M;subst M;exact⟨s,t⟩
   ·rw[A,pB];simp;omega
   ·rw[A,pB];exact a3
   ·intro n k
    have:=m.size;rcases a7 n k with M|M|M
    ·exact w n M
    ·have:=T n M;omega
    ·omega
  ·have y:=yK t
   rw[y]at r⊢;refine⟨_,_,_,_,rfl,al.eu (λ_=>?_) (λj=>Zz j dC)⟩;have a5:E.any eV=true:=List.any_eq_true.2 ⟨e,QZ Q,by unfold eV;simp;omega⟩;rw[show bQ E=([],3) by unfold bQ;rw[Zx a5]];exact Ok.mk ⟨none,0,0,λ_=>False,rfl,aS.nil R,(m.then p).then S,λ_ u=>u.elim⟩
 ·obtain rfl:P=a:=oM
  rw[Qz oM]at v Z o;have a8:E.any eV=false:=by
   rw[<-Bool.not_eq_true];intro j;obtain⟨e,he,U⟩:=List.any_eq_true.1 j;have:=(v e he).2;unfold eV at U;simp at U;omega
  rw[show bQ E=(aB E,0) by unfold bQ;rw[Zq (by simp[a8])]];exact Ok.mk ⟨_,_,_,l,rfl,o,m,w⟩
def bI(no:Int)(d:List UInt8)(D:ak):Int×ak:=
 let n:=cI (ax no)
 let P:=D.create n
 if P.1≠0 then(P.1,P.2)else
 let a:=P.2.append n d
 if a.1≠0 then(a.1,(a.2.delete n).2)else
 let b:=a.2.sync n
 if b.1≠0 then(b.1,(b.2.delete n).2)else
 let c:=bD b.2 [no]
 (c.1,if c.1≠0 then(c.2.delete n).2 else c.2)
def Ps{D:ak}{no:Int}(hL:Laid b)(L:bb b k a D f)(R:aH no)(e:Row gC 1 k a0 d c u)(c3:d=none->c=0/\i=0)(b2:∀n,a0 n->f n):
  bn 126 #[RK a,WP no,.slice d c i] k (Ok (oB b k a f (bI no u D))):=by
 have e3:=L.gr.size;have S:∀n,f n->n<k.heap.size:=by obtain⟨a4,f1,f2,T,U⟩:=L;exact U
 refine zO (PA.mk λx k1 s1 g1=>PA.mk λw2 V s2 g2=>PC.ok (ky (hL.af ((L.gr.then k1).then V)) R) ?_);rintro _ W ⟨rfl,M⟩;have z3:=M.size;refine⟨_,rfl,PA.mk λw4 X s4 g4=>PS.mk g4 sM λY Z s5 g5=>?_⟩
 let s:ac:=λn=>f n\/(n=k.heap.size\/n=x.heap.size\/n=W.heap.size)
 have b3:ai k Y:=((((k1.then V).then M).then X)).new Z λn e=>.inr oM;have d0:bb b Y a D s:=L.add b3 λn e=>by omega
 let y:World->Int->Prop:=λh l=>h.heap[k.heap.size]? =some (.cells #[RK a] 110 (0,0))/\h.heap[x.heap.size]? =some (.cells #[WP l] 37 (0,0))/\h.heap[W.heap.size]? =some (.cells #[.string (cI (ax no))] 9 (0,0))
 have C5:y Y 0:=⟨Z.get (X.get (M.get (V.get g1 id) id) id) oM,Z.get (X.get (M.get g2 id) id) oM,g5⟩
 have g:∀{h o:World} {l:Int},y h l->aj (dY s) h o->y o l:=λm t=>
  ⟨t.get m.1 λp=>p (.inr (.inl rfl)),t.get m.2.1 λp=>p (.inr (.inr (.inl rfl))),t.get m.2.2 λp=>p (.inr (.inr (.inr rfl)))⟩
 have H:∀{h o:World},aj (dY f) k h->aj (dY s) h o->aj (dY f) k o:=λd n=>d.then (n.mono λn _ e q=>e (.inl q));have P:∀{h:World} {l B:Int} {v:ak} {κ:bc},y h l->bb b h a v s->aj (dY f) k h->(∀o,y o B->bb b o a v s->aj (dY f) k o->aj (·=x.heap.size) h o->κ o)->PS h ⟨x.heap.size,0,none⟩ (WP B) κ:=by
  intro h l B v κ m hN t a1;have h1:=az m.2.1;refine PS.mk m.2.1 sM λo z e4 d1=>a1 o ⟨z.get m.1 oM,d1,z.get m.2.2 oM⟩ ?_ (t.then (z.mono λn _ e q=>by have:=S n q;omega)) z;obtain⟨a4,f1,f2,T,U⟩:=hN;exact⟨a4,f1.keep z λn e l=>(T n e).2 (.inr (.inr (.inl l))),f2.new z λn e=>.inr oM,T,λn e=>Qk (U n e) z.size⟩
 have j:∀{I:Int×ak} (l:Int) (v:ak) (h:World),bb b h a v s->aj (dY f) k h->y h l->I=(l,if l≠0 then(v.delete (cI (ax no))).2 else v)->
   Lv LL (λb4=>∃b5:Int,b4.cell? ⟨x.heap.size,0,none⟩=some (WP b5)/\Ok (oB b k a f I) (.returned (WP b5)) b4) (λch h=>Ok (oB b k a f I) (.panicked ch) h)
    ([{target:=.fn (.func 187) #[RK x.heap.size,RK k.heap.size,RK W.heap.size],args:= #[]}]:List Deferred) .returning h:=by
  intro I l v h p t m hr;refine Lv.one sM kR (CallsD.mono (ux (R:=λB J=>B= .returned (.tuple #[])/\∃b6:Int,J.cell? ⟨x.heap.size,0,none⟩=some (WP b6)/\Ok (oB b k a f I) (.returned (WP b6)) J) ⟨_,ae m.2.1 rfl,al.eu (λr=>⟨_,ae m.1 rfl,_,ae m.2.2 rfl,PC.ok p.delete ?_⟩) (λA=>⟨rfl,_,ae m.2.1 rfl,Ok.mk ?_⟩)⟩) ?_)
  ·rintro _ wb ⟨rfl,d2,kb⟩
   have d3:=g m kb;refine⟨_,rfl,rfl,_,ae d3.2.1 rfl,Ok.mk ?_⟩;rw[hr,Zx r];exact⟨rfl,d2.mono λn e=>.inl e,H t kb⟩
  ·rw[hr,Zq (by simpa using A)]
   exact⟨rfl,p.mono λn e=>.inl e,t⟩
  ·rintro B u' J ⟨rfl,rfl,S⟩
   exact Lv.ret rfl S
 refine⟨_,ae C5.1 rfl,_,ae C5.2.2 rfl,PC.ok d0.create ?_⟩;rintro _ w6 ⟨rfl,b7,k6⟩;have C6:=g C5 k6;have d4:=H (ai.keep b3) k6;have hW:bI no u D=if(D.create (cI (ax no))).1≠0 then((D.create (cI (ax no))).1,(D.create (cI (ax no))).2)else
   if((D.create (cI (ax no))).2.append (cI (ax no)) u).1≠0 then(((D.create (cI (ax no))).2.append (cI (ax no)) u).1,(((D.create (cI (ax no))).2.append (cI (ax no)) u).2.delete (cI (ax no))).2)else
   if((((D.create (cI (ax no))).2.append (cI (ax no)) u).2).sync (cI (ax no))).1≠0 then(((((D.create (cI (ax no))).2.append (cI (ax no)) u).2).sync (cI (ax no))).1,(((((D.create (cI (ax no))).2.append (cI (ax no)) u).2).sync (cI (ax no))).2.delete (cI (ax no))).2)else
   ((bD ((((D.create (cI (ax no))).2.append (cI (ax no)) u).2).sync (cI (ax no))).2 [no]).1,if(bD ((((D.create (cI (ax no))).2.append (cI (ax no)) u).2).sync (cI (ax no))).2 [no]).1≠0 then((bD ((((D.create (cI (ax no))).2.append (cI (ax no)) u).2).sync (cI (ax no))).2 [no]).2.delete (cI (ax no))).2 else(bD ((((D.create (cI (ax no))).2.append (cI (ax no)) u).2).sync (cI (ax no))).2 [no]).2):=rfl
 rw[hW];generalize D.create (cI (ax no))=cr at b7⊢;refine⟨_,rfl,P C6 b7 d4 λJ C b8 a5 k7=>⟨_,ae C.2.1 rfl,al.eu (λr=>?_) (λA=>?_)⟩⟩
 ·refine⟨_,ae C.2.1 rfl,P C b8 a5 λw8 C8 N a6 k8=>⟨_,ae C8.2.1 rfl,Ok.mk ?_⟩⟩
  rw[Zx r];exact⟨rfl,N.mono λn e=>.inl e,a6⟩
 rw[Zq (by simpa using A)];have d5:Row gC 1 J a0 d c u:=e.keep a5 λn e p=>p (b2 n e);refine⟨_,ae C.1 rfl,_,ae C.2.2 rfl,PC.ok (b8.append d5 c3 λn e=>.inr (.inl (b2 n e))) ?_⟩;rintro _ w8 ⟨rfl,N,k8⟩;have C8:=g C k8;have a6:=H a5 k8;generalize cr.2.append (cI (ax no)) u=ap at N⊢;refine⟨_,rfl,P C8 N a6 λw9 E b9 c1 k9=>⟨_,ae E.2.1 rfl,al.eu (λr=>?_) (λA=>?_)⟩⟩
 ·refine⟨_,ae E.2.1 rfl,P E b9 c1 λc2 a7 O a2 a8=>?_⟩
  rw[Zx r];exact j _ _ c2 O a2 a7 (by rw[Zx r])
 rw[Zq (by simpa using A)];refine⟨_,ae E.1 rfl,_,ae E.2.2 rfl,PC.ok b9.sync ?_⟩;rintro _ c2 ⟨rfl,O,a8⟩;have a7:=g E a8;have a2:=H c1 a8;generalize ap.2.sync (cI (ax no))=sy at O⊢;refine⟨_,rfl,P a7 O a2 λa9 K b1 c0 e5=>⟨_,ae K.2.1 rfl,al.eu (λr=>?_) (λA=>?_)⟩⟩
 ·refine⟨_,ae K.2.1 rfl,P K b1 c0 λF b0 a3 c5 Q=>?_⟩
  rw[Zx r];exact j _ _ F a3 c5 b0 (by rw[Zx r])
 rw[Zq (by simpa using A)];refine⟨_,ae K.1 rfl,PA.mk λF Q e6 c4=>?_⟩;have a3:bb b F a sy.2 (λn=>s n\/n=a9.heap.size):=b1.add Q λn e=>by subst e;exact⟨Q4 _,az c4⟩
 have c6:Row aO 8 F (·=a9.heap.size) (UV a9.heap.size) 1 [no]:=Row.lit c4 [no] rfl (λc7 q=>by simp at q;subst q;exact R) (by unfold aP;simp);refine PC.ok (a3.bD hL.qp c6 (λc7 q=>by simp at q;subst q;exact R) λn e=>.inr (.inr e)) ?_;rintro _ d6 ⟨rfl,c8,d7⟩;have w:aj (dY s) F d6:=d7.mono λn _ e hy=>e (.inl hy);have b0:y F sy.1:=g K (ai.keep Q);have d8:=g b0 w;have c9:=H (c0.af Q) w;exact⟨_,rfl,P d8 (c8.mono λn e=>.inl e) c9 λd9 e0 e1 e2 e7=>j _ _ d9 e1 e2 e0 rfl⟩
def jW:List Int->ak->ak
 |[],D=>D
 |no::n,D=>if(D.delete (ay no)).1≠0 then(D.delete (ay no)).2 else jW n (D.delete (ay no)).2
def aR(n:dA)(D:ak)(P:List ah)(a:Int):pC:=
 if(bQ P).2≠0 then⟨(bQ P).2,[],n,D⟩else
 if(bI n.next (bQ P).1 D).1≠0 then⟨(bI n.next (bQ P).1 D).1,[],n,(bI n.next (bQ P).1 D).2⟩else
 aT (jW n.bd (bI n.next (bQ P).1 D).2) a
def Me(c g:World)(d h:Nat)(i:dA)(a:ac)(P:pC)(e:Value)(b:World):Prop:=
 ∃G,jE b d h G i/\(∀n,G n->c.heap.size<=n/\¬a n)/\aj (dY a) g b/\
  ((P.no≠0/\e= .tuple #[.pointer none,WP P.no]/\bb c b d P.D (λn=>a n\/G n))\/
   (P.no=0/\∃f,e= .tuple #[RK f,WP 0]/\cG c b d f P.V P.D (λn=>a n\/G n)))
def Jm{D:ak}{U a4:Nat}(z:Laid b)(V:cG b k a c b3 D f)(W:Row iz 96 k a0 d U E)(a5:∀n,a0 n->n<k.heap.size)(hl:E.length<=20000000):
  bn 80 #[RK a,RK c,.slice d U a4,WP e] k (Ok (Me b k a c b3 f (aR b3 D E e))):=by
 obtain⟨G,I,u,A⟩:=id V;have c4:=u.many;refine vH (PC.ok (Md (z.af V.gr) W a5 hl) ?_);rintro _ w1 ⟨b4,n1,c1,F1,rfl,J,p,b5⟩;have hz:∀n,(f n\/G n)->n<k.heap.size:=by obtain⟨d1,f1,f2,f3,f4⟩:=I;exact f4
 refine⟨_,_,_,_,rfl,al.eu (λh=>Ok.mk ?_) (λq=>PC.ok (Si (u.af p)) ?_)⟩
 ·rw[show aR b3 D E e=⟨(bQ E).2,[],b3,D⟩ by unfold aR;rw[Zx h]]
  exact⟨G,u.af p,A,ai.keep p,.inl ⟨h,rfl,I.af p⟩⟩
 rintro _ _ ⟨rfl,rfl⟩;have b6:bb b w1 a D (λn=>(f n\/G n)\/F1 n):=I.add p λn P=>⟨b5 n P,J.aE n P⟩
 have d2:(bQ E).1.length<=13500000000:=by
  unfold bQ;split
  ·simp
  ·rename_i b8
   have:∀m∈E,m.Ok/\m.aM.length<=64:=λm X=>by
    obtain⟨i,hi⟩:=List.mem_iff_getElem?.1 X;obtain⟨n,v,es,-,-,-,-,b4,n1,c1,-,-,b9⟩:=W.el i m hi;refine⟨b9,?_⟩;have:¬eV m=true:=λK=>b8 (List.any_eq_true.2 ⟨m,X,K⟩);unfold eV at this;simp at this;omega
   have:=Jn this;show(aB E).length<=_;omega
 refine⟨_,rfl,PC.ok (Ps z b6 u.BL (J.row (bytes:=1) dC cw) (λm=>J.Pq m) λn P=>.inr P) ?_⟩;rintro _ Y ⟨rfl,c2,Z⟩;have L:bb b Y a (bI b3.next (bQ E).1 D).2 (λn=>f n\/G n):=c2.mono λn P=>.inl P;have M:=(u.af p).keep Z λn P j=>j (.inl (.inr P));have a6:aj (dY f) k Y:=(ai.keep p).then (Z.mono λn _ P l=>P (.inl (.inl l)));have hC:aR b3 D E e=if(bI b3.next (bQ E).1 D).1≠0 then⟨(bI b3.next (bQ E).1 D).1,[],b3,(bI b3.next (bQ E).1 D).2⟩else aT (jW b3.bd (bI b3.next (bQ E).1 D).2) e:=by
  unfold aR;rw[Zq (by simpa using q)]
 rw[hC];generalize bI b3.next (bQ E).1 D=w at L⊢;refine⟨_,rfl,al.eu (λh=>Ok.mk ?_) (λq=>?_)⟩
 ·rw[Zx h]
  exact⟨G,M,A,a6,.inl ⟨h,rfl,L⟩⟩
 rw[Zq (by simpa using q)];refine⟨λo=>bb b o a (jW b3.bd w.2) (λn=>f n\/G n)/\jE o a c G b3/\aj (dY f) k o,PC.ok (Hc M) ?_,?_⟩
 ·rintro _ w3 ⟨a3,s,c3,B,rfl,N,O,c5⟩
  have d3:=N.len dC;have Q:bb b w3 a w.2 (λn=>(f n\/G n)\/B n):=L.add O λn P=>⟨c5 n P,N.aE n P⟩
  refine⟨_,_,_,rfl,λa1 a2 o=>∃(g:Nat) (r:ak),a2=g/\g<=s/\a1=s-g/\jW b3.bd w.2=jW (b3.bd.drop g) r/\bb b o a r (λn=>(f n\/G n)\/B n)/\aS aO 3 B o a3 s c3 b3.bd/\jE o a c G b3/\aj (dY f) k o,
   ⟨_,0,w.2,rfl,Qj _,rfl,rfl,Q,N,M.af O,a6.af O⟩,?_⟩
  rintro a1 a2 _ w4 ⟨g,r,rfl,hj,rfl,C,x,R,a7,a8⟩;refine al.dec (λd4=>?_) (λd5=>?_)
  ·have c6:Row aO 8 w4 B a3 s b3.bd:=R.row dC cw
   obtain⟨n,v,t,rfl,l,c7,K⟩:=c6.nK (i:=g) oM;refine⟨n,v,rfl,oM,oM,t,K,PC.ok (ky (z.af x.gr) c7) ?_⟩;rintro _ w5 ⟨rfl,F⟩;refine⟨_,rfl,PC.ok (x.af F).delete ?_⟩;rintro _ w6 ⟨rfl,S,T⟩;have b7:b3.bd.drop g=t::b3.bd.drop (g+1):=by
    obtain⟨c8,rfl⟩:=Qv.1 l;exact X4 c8
   rw[b7]at C;have H:jW b3.bd w.2=if(r.delete (cI (ax t))).1≠0 then(r.delete (cI (ax t))).2 else jW (b3.bd.drop (g+1)) (r.delete (cI (ax t))).2:=C
   have a9:=(a7.af F).keep T λn P j=>j (.inl (.inr P));have b0:aj (dY f) k w6:=(a8.af F).then (T.mono λn _ P l=>P (.inl (.inl l)));have c9:=(R.af F).keep T λn P j=>j (.inr P);generalize r.delete (cI (ax t))=c0 at H S⊢;refine⟨_,rfl,al.eu (λh=>?_) (λq=>?_)⟩
   ·rw[H,Zx h]
    exact⟨S.mono λn P=>.inl P,a9,b0⟩
   ·rw[Zq (by simpa using q)]at H
    exact⟨s-(g+1),oM,g+1,c0.2,an oM,oM,rfl,H,S,c9,a9,b0⟩
  ·obtain rfl:g=s:=oM
   rw[List.drop_of_length_le oM]at C;rw[C];exact⟨x.mono λn P=>.inl P,a7,a8⟩
 ·rintro _ w3 ⟨Q,b1,b2⟩
  refine PC.ok (Jo (size:=e) z Q) ?_;rintro _ w4 (⟨h,rfl,x,y⟩|⟨q,q2,d6,n4,d7,G4,rfl,R,d0,y,-,-,-⟩)
  ·exact⟨_,_,_,_,_,rfl,Ok.mk ⟨G,b1.keep y λn P j=>j (.inr P),A,b2.then (y.mono λn _ P l=>P (.inl l)),.inl ⟨h,rfl,x⟩⟩⟩
  ·exact⟨_,_,_,_,_,rfl,Ok.mk ⟨G,b1.keep y λn P j=>j (.inr P),A,b2.then (y.mono λn _ P l=>P (.inl l)),.inr ⟨q,q2,rfl,d0.mono λn P=>.inl P⟩⟩⟩
end Go.Proofs.YtkpomgifkloklaaGreatDoor
namespace Go.aw
open Go
abbrev FW(n:Option Nat):Fence:={Fence.wide with round:=n}
variable{J:Act}{V:Array Oper}{o:Array Value}{H:Bool}{h5 h6:Bool->bc}{a2:Code}{B:ba}{e5:Exit}{d6:Exit->Act->bc}{a8:Func}{A:FuncId}{b5:List Nat}{a4 e4:List Value}{a c i:Nat}{f:ac}{c8:Obj}{S:Oper}{U:Operand}{e3:Operand->Value}{c9:Option Nat}{h:Program}{m:am}{b k:World}{Q:c_}{W:cz}{c4:jj}{e2:lq}
def vf:CallsIn (FW c9) a h A o b B↔Calls h A o b B:=
 ⟨λn=>callsIn_wide.1 (show CallsIn Fence.wide a h A o b B from n),λn=>show CallsIn (FW c9) a h A o b B from(callsIn_wide (n:=a)).2 n⟩
def VA(n:Nat):(FW c9).room n:=λ_ P=>by simp[Fence.wide]at P
def QG{n:String}(P:Rows h n o b m):RowsIn (FW c9) a h n o b m:=by
 intro c cs _;obtain⟨d,e,f,g⟩:=P c cs;exact⟨d,e,f,(stepsIn_wide (P:=h)).2 g⟩
def xj(n:Oper):Bool:=match n.op with
 | .defer _=>false
 |_=>true
def xj.out(n:xj S=true):∀P,S.op≠.defer P:=by
 intro P a;unfold xj at n;rw[a]at n;cases n
section
variable {P:Program} {ro:Option Nat} {n:Nat}
def Oy{next:Act->bc}(d:ro=none\/xj S=true)(a:S.wp P J b next d6):S.wpIn (FW ro) n P J b next d6:=by
 refine⟨λ_ _=>trivial,?_⟩;have f:S.semAt (FW ro).round J.eval=execOp J.eval S:=by
  rcases d with rfl|d
  ·rfl
  ·exact Oper.semAt_eq _ _ _ (xj.out d)
 rw[f];unfold Oper.wp at a;generalize(execOp J.eval S).run P b=g at a⊢
 cases g with
 |ok e h=>
  cases e with
  |value i=>exact a
  |skip=>exact a
  |defer j=>exact a
  |enter k c=>exact⟨λa=>by simp[Fence.wide]at a,vf.2 a⟩
  |row row c=>exact⟨λa=>by simp[Fence.wide]at a,QG a⟩
  |_=>exact a.elim
 |halt e h=>cases e<;>first|exact a|exact a.elim
def sj{b:Array Oper}{g:Exit->Act->bc}(h:∀d c,¬g .outgrown d c)(e:ro=none\/∀i∈b.toList,xj i=true):∀(f:List Nat) (d:Act) (c:World),wpOps P b g f d c->wpOpsIn (FW ro) n P b g f d c
 |[],d,c,a=>a
 |l::f,d,c,a=>by
  unfold wpOps at a;unfold wpOpsIn
  cases j:b[l]? with
  |none=>rw[j]at a;exact sj h e f d c a
  |some i=>
   rw[j]at a;simp only at a⊢;split
   ·rename_i k
    rw[Zx k]at a;rcases a with a|⟨-,m,o,a⟩
    ·have p:i.wp P d c (wpOpsIn (FW ro) n P b g f) g:=Oper.wp_mono (λd c a=>sj h e f d c a) a
     refine Oy ?_ p;rcases e with e|e
     ·exact .inl e
     ·refine .inr (e i ?_)
      obtain⟨q,rfl⟩:=Q5.1 j;simp
    ·exact Zz a (h m o)
   ·rename_i k
    rw[Zq k]at a;exact⟨λ_ _=>trivial,sj h e f _ c a⟩
end
section
variable {F:Fence} {n:Nat} {P:Program} {Q:Exit->Act->bc} {a:Act} {w:World} {b:Frame} {k:List Item} {cs:List Frame}
def iI:step P (lone (b.atR a (.code (.scope a2)::k)) cs w)= .next (lone (b.atR a (.code a2:: .inScope a2::k)) cs w):=
 step_lone_go (by simp[stepG,stepG.exec,Frame.atR])
def Et:step P (lone (b.atR a (.inScope a2::k)) cs w)= .next (lone (b.atR a k) cs w):=
 step_lone_go (by simp[stepG,stepG.exec,Frame.atR])
def Ni(o:a2.wpIn F n P (Exit.noGoto Q) a w):(Code.scope a2).wpIn F n P Q a w:=by
 intro b k cs p h i;have e:(lone (b.atR a (.code (.scope a2)::k)) cs w).fenced P F:=fenced_calm h i rfl;obtain⟨q,c,d,f,g⟩:=o b (.inScope a2::k) cs p h i
 cases q with
 |normal=>exact⟨.normal,c,d,f,.head e iI (StepsIn.trans g (.one (fenced_calm h i rfl) Et))⟩
 |exit id=>
  have m:exitTo id (.inScope a2::k)=exitTo id k:=by simp[exitTo]
  exact⟨.exit id,c,d,f,λr j=>.head e iI (g.1 r (by rw[m];exact j)),
   λl j=>let⟨k₁,h1,h2⟩:=g.2 l (by rw[m];exact j);⟨k₁,h1,.head e iI h2⟩⟩
 |goto s=>exact f.elim
 |ret=>exact⟨_,c,d,f,.of_steps (.one e iI) g⟩
 |panic t=>exact⟨_,c,d,f,.of_steps (.one e iI) g⟩
 |outgrown=>exact⟨_,c,d,f,.of_steps (.one e iI) g⟩
def wpIn_loop_ghost(b:Nat->Act->bc)(c:Nat)(g:b c a w)(d:∀e a w,b e a w->a2.wpIn F n P (Exit.then (λh i=>∃l,l<e/\b l h i) Q) a w):(Code.loop a2).wpIn F n P Q a w:=by
 refine wpIn_loop (λa w=>∃e,b e a w) (λa w=>leastOf (λe=>b e a w)) ⟨c,g⟩ ?_;intro a w m;refine wpIn_mono (d _ a w (leastOf_spec m).1) ?_;intro o h i f
 cases o with
 |normal=>
  obtain⟨j,p,k⟩:=f;exact show(∃n,b n h i)/\leastOf (λn=>b n h i)<leastOf (λn=>b n a w)from⟨⟨j,k⟩,Nat.lt_of_le_of_lt ((leastOf_spec ⟨j,k⟩).2 j k) p⟩
 |exit id=>exact f
 |goto q=>exact f
 |ret=>exact f
 |panic r=>exact f
 |outgrown=>exact f
end
def Nj(A:h.follows .mixedOrders=true){n id:Nat}(B:∀a,a∈writes (.region id V H)->a<n)(p:Rel n W Q J)(P:D h e2 (.region id V H) c4 W Q J.defers b):
  (H=false->wpOps h V (dy n W Q (writes (.region id V H)) c4) (List.range V.size) J b)/\
  (H=true->∀a,wpOps h V (dy n W Q (writes (.region id V H)) c4) (Region.schedule (h.follows .mixedOrders) V a) J {b with drawn:=b.drawn+1}):=by
 have m:∀j∈V.toList,∀k,j.dst=some k->k<n/\k∈writes (.region id V H):=λj g k y=>⟨B k (lK g y),lK g y⟩
 have q:∀r a,kH V r=some a->a<n:=by
  intro r a l;unfold kH at l
  cases g:V[r]? with
  |none=>rw[g]at l;simp at l
  |some j=>
   rw[g]at l;have C:j∈V.toList:=by
    have:=Q5.1 g;obtain⟨N,rfl⟩:=this;simp
   exact(m j C a l).1
 cases H with
 |false=>
  refine⟨λ_=>?_,λP=>by cases P⟩;rw[List.range_eq_range',<-XK,wpOps_eq_wpList V.toList 0 sM];exact AI q V.toList Q J b m p (λ_ _=>rfl) P
 |true=>
  refine⟨λP=>(by cases P),λ_ a=>?_⟩;simp only[Region.schedule,A,Bool.true_or,if_true];refine wpAny_sound V.size a _ J _ ?_;unfold D at P;simp only at P;split at P
  ·obtain⟨s,P⟩:=fR.out P
   simp only[Region.lexB,QK]at s;have E:=rR (B0:=W) (e0:=Q) (W:=writes (.region id V true)) q V.toList Q J m p (λ_ _=>rfl) P;have F:wpQuiet h V (bW b) (λo=>∀c,bW b c->dy n W Q (writes (.region id V true)) c4 .normal o c) V.toList J:=by
    refine lD ?_ _ _ E;rintro o ⟨I,t,u,K,L⟩ c f;exact⟨W,I,t,K,by rw[u];exact L c f⟩
   refine wpAny_of_quiet (C:=bW b) (Q:=λo=>∀c,bW b c->dy n W Q (writes (.region id V true)) c4 .normal o c) (λ_ c f P=>P c f) _ _ _ _ ⟨1,rfl⟩ ?_;have:=wpAnyQ_lex (C:=bW b) (md:=.any) s.1 V.toList 0 (Array.replicate V.size false) J sM (by simpa using s.2) F;simpa using this
  ·obtain⟨M,P⟩:=fR.out P
   have d:∀(e:Bool) (i:ac) (v:Nat->Bool),wQ h W V e i (λw x b=>∀W Q,c4 (.panic w) W Q x b) (λQ x b=>c4 .normal W Q x b) v V.size (Array.replicate V.size false) Q J.defers (b.drewN 1)->
     wpAny h .any V (dy n W Q (writes (.region id V true)) c4) V.size (Array.replicate V.size false) J {b with drawn:=b.drawn+1}:=λe i v P=>
    pI (λw J b P=>Cy.post w J b P) (λ_ _ P=>P) _ _ _ _ _ (mU (B0:=W) (e0:=Q) (W:=writes (.region id V true)) q M m v _ _ Q J _ p (λ_ _=>rfl) P)
   split at P
   ·split at P
    ·obtain⟨i,P⟩:=P _ ⟨1,rfl⟩
     exact d _ i _ P
    ·exact d _ _ _ (P _ ⟨1,rfl⟩)
   ·obtain⟨z,P⟩:=fR.out P
    split at P
    ·obtain⟨i,P⟩:=P _ ⟨1,rfl⟩
     rw[rX z _ _ (Hz.init _)]at P;exact d _ i _ P
    ·have P:=P _ ⟨1,rfl⟩
     rw[rX z _ _ (Hz.init _)]at P;exact d _ _ _ P
def kV(P:Program)(a:Nat)(b:List Value)(c:World)(d:Bool->bc):Prop:=
 YieldAt (FW none) 0 P a b.toArray c λe f=>∃n,e= .returned (.bool n)/\d n f
def kV.mono(f:kV h a a4 b h5)(g:∀P e,h5 P e->h6 P e):kV h a a4 b h6:=by
 obtain⟨i,c,n,d,j,k⟩:=f;exact⟨i,c,n,d,j,k.mono λm e ⟨P,l,f⟩=>⟨P,l,g P e f⟩⟩
def Xu(a:Program)(b:Value)(n:Array Value)(c:World)(d:am):Prop:=
 ∃P,b= .func (.yield P) #[] #[]/\kV a P n.toList c λe f=>d (.bool e) f
def AK(n:Oper):Option (Operand×Array Operand):=match n.op with
 | .call {callee:=.value (.func _),..}=>none
 | .call {callee:=.value f,args,..}=>some (f,args)
 |_=>none
def Tx(d:Program)(a:cz)(b:Array Oper)(h:jj)(c:Oper)(e:c_->List Deferred->bc)(P:c_)(f:List Deferred)(g:World):Prop:=match AK c with
 |some (i,n)=>Xu d (ev a P i) (n.map (ev a P)) g λj k=>e (cD P c.dst j) f k
 |none=>Vk d b a c h e P f g
def sk(b:Program)(a:cz)(n:Array Oper)(c:jj):List Oper->(c_->List Deferred->bc)->c_->List Deferred->bc
 |[],e,d,f,g=>e d f g
 |i::P,e,d,f,g=>match i.guard with
  |none=>Tx b a n c i (sk b a n c P e) d f g
  |some (k,h)=>match kH n k with
   |none=>False
   |some j=>match get a d j with
    | .bool l=>al l
     (match h with
      |true=>Tx b a n c i (sk b a n c P e) ((j,.bool true)::d) f g
      |false=>sk b a n c P e (cD ((j,.bool true)::d) i.dst undef) f g)
     (match h with
      |true=>sk b a n c P e (cD ((j,.bool false)::d) i.dst undef) f g
      |false=>Tx b a n c i (sk b a n c P e) ((j,.bool false)::d) f g)
    | .tuple _=>sk b a n c P e (cD d i.dst undef) f g
    |_=>False
def Nk{n P:Code}(d:RoundIn (FW none) c h i A o n P b B):RoundIn (FW c9) a h i A o n P b B:=
 ⟨trivial,λe cs _=>d.2 e cs (VA _)⟩
def HQ{n:Array Operand}{l:Nat}(P:AK S=some (U,n))(c:e3 U= .func (.yield l) #[] #[]):
  (execOp e3 S).run h b=(Instr.yield l (n.map e3)).run h b:=by
 unfold AK at P;split at P
 ·cases P
 ·rename_i e a f d
  simp only[Q1,Prod.mk.injEq]at P;obtain⟨rfl,rfl⟩:=P;simp only[execOp,d,resolve,c];simp[Deferred.ofValue,invoke,Sem.run_bind,Sem.run_pure,Result.andThen]
 ·cases P
def xk{w:Program}{B:Option Nat}{L o:Nat}{e t:cz}{u:c_}{k:List Nat}{P:Array Oper}{l:jj}(M:∀m a,kH P m=some a->a<o)(S:∀a1 e n y f,l a1 e n y f->a1≠.outgrown)(v:B=none\/∀d∈P.toList,xj d=true):
  ∀(N:List Oper) (p:Nat) (n:c_) (i:Act) (f:World),(∀m,N[m]? =P[p+m]?)->(∀d∈N,∀g,d.dst=some g->g<o/\g∈k)->Rel o e n i->(∀a,a∉k->get e n a=get t u a)->
   sk w e P l N (λn y f=>l .normal e n y f) n i.defers f->wpOpsIn (FW B) L w P (dy o t u k l) (List.range' p N.length) i f
 |[],p,n,i,f,_,_,j,h,c=>⟨e,n,j,h,c⟩
 |d::b,p,n,i,f,a2,T,j,h,c=>by
  have h0:P[p]? =some d:=by simpa using(a2 0).symm
  have a4:d∈P.toList:=by
   obtain⟨a7,rfl⟩:=Q5.1 h0;simp
  have U:∀m,b[m]? =P[p+1+m]? :=λm=>by have:=a2 (m+1);simpa[Nat.add_assoc,Nat.add_comm 1 m]using this
  have V:∀g,d.dst=some g->g<o:=λg v=>(T d (QV ..) g v).1;have W:∀(n:c_),(∀a,a∉k->get e n a=get t u a)->∀C a,a∉k->get e (cD n d.dst C) a=get t u a:=by
   intro n h C a X
   cases v:d.dst with
   |none=>exact h a X
   |some g=>
    have a5:=(T d (QV ..) g v).2;show get e ((g,C)::n) a=_;rw[eM,Zq (by rintro rfl;exact X a5)];exact h a X
  have z:∀d∈b,∀g,d.dst=some g->g<o/\g∈k:=λd ho=>T d (QJ _ ho);have A:∀(n:c_),Rel o e n i->(∀a,a∉k->get e n a=get t u a)->Tx w e P l d (sk w e P l b λn y f=>l .normal e n y f) n i.defers f->
    d.wpIn (FW B) L w i f (wpOpsIn (FW B) L w P (dy o t u k l) (List.range' (p+1) b.length)) (dy o t u k l):=λn j h c=>by
   unfold Tx at c;split at c
   ·rename_i a8 E q
    obtain⟨Y,hf,fn,F,x,H,h1,h2⟩:=c;refine⟨λ_ _=>trivial,?_⟩;have Z:∀a3,d.op≠.defer a3:=by
     intro a3 Z;unfold AK at q;rw[Z]at q;cases q
    rw[Oper.semAt_eq _ _ _ Z,j.eval,HQ (l:=Y) q hf];have a6:(Instr.yield Y (E.map (ev e n))).run w f= .ok (.round Y fn F x H) f:=by
     have:=h1
     rwa [Array.toArray_toList]at this
    rw[a6,Oper.uponIn_round];refine⟨λc=>by simp[Fence.wide]at c,(Nk h2).mono ?_⟩;rintro _ w' ⟨I,rfl,hK⟩;exact xk M S v b (p+1) _ _ _ U z (j.put _ V _) (W n h _) (by rw[put_defers];exact hK)
   ·refine Oy (v.imp id λv=>v d a4) ?_
    exact MM j V c (λC a' w' a0 hK=>xk M S v b (p+1) _ _ _ U z a0 (W n h C) hK) (λch w' hq=>⟨e,n,j,h,hq⟩)
  have r:∀(n:c_),Rel o e n i->(∀a,a∉k->get e n a=get t u a)->sk w e P l b (λn y f=>l .normal e n y f) (cD n d.dst undef) i.defers f->
    wpOpsIn (FW B) L w P (dy o t u k l) (List.range' (p+1) b.length) (i.put d.dst undef) f:=λn j h c=>
   xk M S v b (p+1) _ _ _ U z (j.put _ V _) (W n h _) (by rw[put_defers];exact c)
  simp only[Xq,List.range'_succ];unfold wpOpsIn;rw[h0];simp only;unfold sk at c;split at c
  ·rename_i O
   rw[Zx (by simp[Region.wanted,O])];exact A n j h c
  ·rename_i m s O
   split at c
   ·exact c.elim
   ·rename_i a hj
    have q:=pH j hj (M m a hj);split at c
    ·rename_i I J
     rw[J]at q;simp only at q;have hw:Region.wanted d (yielded P i.tmps)=(I==s):=by
      simp only[Region.wanted,O,q]
      cases I<;>cases s<;>rfl
     rw[hw];have Q:=j.again J;have R:∀K,K∉k->get e ((a,.bool I)::n) K=get t u K:=λK hu=>by rw[sC J];exact h K hu
     cases I<;>cases s<;>simp only[al]at c
     ·exact A _ Q R c
     ·exact⟨λ_ _=>trivial,r _ Q R c⟩
     ·exact⟨λ_ _=>trivial,r _ Q R c⟩
     ·exact A _ Q R c
    ·rename_i vs J
     rw[J]at q;simp only at q;have hw:Region.wanted d (yielded P i.tmps)=false:=by
      simp[Region.wanted,O,q]
     rw[hw];exact⟨λ_ _=>trivial,r _ j h c⟩
    ·exact c.elim
def qY(a:Nat)(n P:World):Prop:=aj (λb=>b=a) n P/\P.heap.size=n.heap.size
def ru(n:Nat)(P:World):Prop:=P.heap[n]? =some (.deferred (some []))
def Oz(n:Nat):Deferred:={target:=.collected n,args:= #[]}
def Nl:List Value->(List Value->Prop)->Prop
 |[],n=>n []
 |z::b,n=>match z with
  | .agg cs=>nE cs.toList λP=>Nl b λa=>n (.agg P.toArray::a)
  |z=>nE [z] λP=>Nl b λa=>n (P++a)
def oZ(n:World):ac:=λP=>P≠n.heap.size/\P≠n.heap.size+1
def uj(P a:List Value):Prop:=∀n:List Value->Prop,Nl P n->n a
def QH:List (Exit×(bc))->(Exit->(bc)->Prop)->Prop
 |[],_=>True
 |(P,a)::b,n=>n P a/\QH b n
def YL(n:Exit->bc):List Exit->List (Exit×(bc))
 |[]=>[]
 |x::P=>(x,λa=>n x a)::YL n P
def Ze(n:Exit):List (Exit×(bc))->Prop
 |[]=>False
 |(P,_)::a=>n=P\/Ze n a
def QH.out{a:Exit->bc}{φ:Exit->(bc)->Prop}:∀{l:List Exit},QH (YL a l) φ->∀n,Ze n (YL a l)->n∈l/\φ n (λb=>a n b)
 |[],_,n,P=>P.elim
 |y::h,c,n,P=>by
  obtain⟨d,e⟩:=c;rcases P with rfl|P
  ·exact⟨QV ..,d⟩
  ·obtain⟨f,g⟩:=QH.out e n P
   exact⟨QJ _ f,g⟩
def Hb(m:Program)(v:Value)(w:List Value)(a:World)(y:(List Value->Prop)->(List Value->Exit->bc)->bc)(z:bc)(p:List (Exit×(bc))):Prop:=
 ∃o k,v= .func (.func o) #[] k/\enters m o=true/\
 ∃(q:Type) (r:q) (f:q->List (List Value)->bc) (j:Exit->List (List Value)->bc) (s:List (List Value)->List Value->Prop) (t:List (List Value)->Prop),
  (∀h,aj (λ_=>False) a h->h.heap.size=a.heap.size+2->f r [] h)/\
  (∀b n P d,f b n P->qY (a.heap.size+1) P d->f b n d)/\
  (∀x n P d,j x n P->qY (a.heap.size+1) P d->j x n d)/\
  (∀b n P,f b n P->a.heap.size+2<=P.heap.size->y (s n) (λg x c=>match x with
   | .normal=>f b (n++[g]) c
   |x=>Ze x p/\j x (n++[g]) c) P)/\
  (∀(i:bc) (l:Exit->bc),(∀P d,i P->aj (oZ a) P d->i d)->(∀x P d,l x P->aj (oZ a) P d->l x d)->
   (∀P,i P->a.heap.size+2<=P.heap.size)->
   (∀b n g P,f b n P->i P->uj w g->s n g->kV m (a.heap.size+1) g P λu c=>(u=true/\f b (n++[g]) c/\i c)\/(u=false/\∃x,j x (n++[g]) c/\l x c))->
   ∀h,f r [] h->i h->Calls m o (#[.func (.yield (a.heap.size+1)) #[] #[]]++k) h λA c=>(∃B,A= .returned B)/\((i c/\∃b e,f b e c/\t e)\/∃x n,j x n c/\l x c))/\
  (∀b e P,f b e P->t e->ru a.heap.size P->z P)/\
  QH p λx C=>∀n P,j x n P->ru a.heap.size P->C P
def OA:List Nat->List Value->c_->c_
 |P::a,b::c,n=>OA a c ((P,b)::n)
 |_,_,n=>n
def QI:List (Nat×Value)->List Nat
 |[]=>[]
 |(n,_)::P=>n::QI P
def jr:Code->Bool
 | .region _ P _=>P.toList.all xj
 | .seq a b=>jr a&&jr b
 | .cond _ a b=>jr a&&jr b
 | .block _ n=>jr n
 | .loop n=>jr n
 | .scope n=>jr n
 | .rangeFunc .. =>false
 |_=>true
def h_:Code->List Exit
 | .exit id=>[.exit id]
 | .ret=>[.ret]
 | .seq P a=>h_ P++h_ a
 | .cond _ P a=>h_ P++h_ a
 | .block _ n=>h_ n
 | .loop n=>h_ n
 | .scope n=>h_ n
 |_=>[]
def Tz:Exit->Code
 | .ret=>.ret
 | .exit id=>.exit id
 | .goto n=>.goto n
 |_=>.skip
def XA(n:Exit->bc):jj:=λa _ _ _ P=>match a with
 | .normal=>n .normal P
 | .ret=>n .ret P
 | .exit id=>n (.exit id) P
 |_=>False
def DR(f:Program)(e:lq)(g:List Nat):Bool->Code->jj->cz->c_->List Deferred->bc
 |_,.skip,c,b,n,a,P=>c .normal b n a P
 |_,.label _,c,b,n,a,P=>c .normal b n a P
 |_,.exit id,c,b,n,a,P=>c (.exit id) b n a P
 |_,.ret,c,b,n,a,P=>c .ret b n a P
 |_,.region id q p,c,b,n,a,P=>match Em g id with
  |true=>(match p with
   |false=>sk f b q c q.toList (λn a P=>c .normal b n a P) n a P
   |true=>False)
  |false=>D f e (.region id q p) c b n a P
 |top,.seq h k,c,b,n,a,P=>match Qd e.SD (key k)with
  |none=>DR f e g top h (CB (λb n a P=>DR f e g top k c b n a P) c) b n a P
  |some d=>∃x:Fn (jq d) (bc),DR f e g top h (CB (λl s j i=>CA j a (ap (jq d) x (As l s d) i)) c) b n a P/\
    fC (writes h) n λu=>nE (jq d) λm=>∀(l:cz) (i:World),ap (jq d) x m i->DR f e g top k c l (yY d m u) a i
 |top,.cond o h k,c,b,n,a,P=>match ev b n o with
  | .bool A=>al A (DR f e g top h c b n a P) (DR f e g top k c b n a P)
  |_=>False
 |top,.block id o,c,b,n,a,P=>DR f e g top o (yr id c) b n a P
 |top,.scope o,c,b,n,a,P=>DR f e g top o (HA c) b n a P
 |top,.loop o,c,b,n,a,P=>match Qd e.loops (key o)with
  |none=>False
  |some d=>∃v:Nat->Fn (jq d) (bc),(∃t,ap (jq d) (v t) (As b n d) P)/\
    ∀t,fC (writes o) n λu=>nE (jq d) λm=>∀(l:cz) (i:World),ap (jq d) (v t) m i->
     DR f e g top o (CB (λl s j i=>CA j a (∃y,y<t/\ap (jq d) (v y) (As l s d) i)) c) l (yY d m u) a i
 |top,.rangeFunc B C h k,c,b,n,a,P=>match top with
  |false=>False
  |true=>match Qd e.loops (key k)with
   |none=>False
   |some d=>fR (Qc (QI d) C.toList&&(jr h&&jr k)) (Hb f (ev b n B) (jq d) P
     (λE F r=>Nl (jq d) λm=>E m->DR f e g false h (CB (λl s j i=>aj (oZ P) r i/\∀w,qY (P.heap.size+1) i w->DR f e g false k (XA λh z=>aj (oZ P) w z/\F m h z) l s j w) (λ_ _ _ _ _=>False)) b (OA (QI d) m n) [] r)
     (λr=>c .normal b n (Oz P.heap.size::a) r) (YL (λh r=>c h b n (Oz P.heap.size::a) r) (h_ k)))
 |_,_,_,_,_,_,_=>False
def mj:Code->List Nat
 | .region _ b _=>FA b.toList
 | .seq n P=>mj n++mj P
 | .cond _ n P=>mj n++mj P
 | .block _ a=>mj a
 | .loop a=>mj a
 | .scope a=>mj a
 | .rangeFunc _ c n P=>c.toList++(mj n++mj P)
 |_=>[]
def TA:∀(P:List Value) (b:List Value->Prop),(∀n,n.length=P.length->b n)->Nl P b:=by
 have d:∀(P:List Value) (b:List Value->Prop),(∀n,n.length=P.length->b n)->nE P b:=by
  intro P
  induction P with
  |nil=>intro b a;exact a [] rfl
  |cons g P e=>
   intro b a
   cases g
   case pointer h=>cases h<;>simp only[nE]<;>intros<;>exact e _ λn c=>a _ (by simp[c])
   all_goals(simp only[nE];intros;exact e _ λn c=>a _ (by simp[c]))
 intro P
 induction P with
 |nil=>intro b a;exact a [] rfl
 |cons g P e=>
  intro b a
  cases g
  case pointer h=>cases h<;>(simp only[Nl];exact d [_] _ λn c=>e _ λj f=>a _ (by have i:n.length=1:=c;simp[i,f,Nat.add_comm]))
  case agg cs=>exact d cs.toList _ λn c=>e _ λj f=>a _ (by simp[f])
  all_goals(simp only[Nl];exact d [_] _ λn c=>e _ λj f=>a _ (by have i:n.length=1:=c;simp[i,f,Nat.add_comm]))
def uj.len(n:uj a4 e4):e4.length=a4.length:=n _ (TA a4 _ λ_ n=>n)
def KA:∀n:List (Nat×Value),(QI n).length=(jq n).length
 |[]=>rfl
 |(_,_)::P=>by simp[QI,jq,KA P]
def FX{e:Nat}{i:cz}:∀(b:List Nat) (P:List Value) (c:c_) (n:Array Value),(∀a∈b,a<e)->P.length=b.length->Rel e i c {tmps:=n,defers:=[]}->
  Rel e i (OA b P c) {tmps:=(b.zip P).foldl (λa (j:Nat×Value)=>a.setIfInBounds j.1 j.2) n,defers:=[]}
 |[],P,c,n,_,d,f=>by
  cases P with
  |nil=>exact f
  |cons g P=>simp at d
 |a::b,P,c,n,k,d,f=>by
  cases P with
  |nil=>simp at d
  |cons g P=>
   exact FX b P ((a,g)::c) _ (λl h=>k l (QJ _ h)) (by simpa using d) (f.put (some a) (λl h=>by cases h;exact k a (QV ..)) g)
def KB:∀(P:Code) (a:Exit),a∈h_ P->a= .ret\/∃id,a= .exit id:=by
 intro P
 induction P with
 |exit id=>intro a n;simp only[h_,List.mem_singleton]at n;exact .inr ⟨id,n⟩
 |ret=>intro a n;simp only[h_,List.mem_singleton]at n;exact .inl n
 |seq a f b c=>intro d n;exact(Q6.1 n).elim (b d) (c d)
 |cond P a f b c=>intro d n;exact(Q6.1 n).elim (b d) (c d)
 |block id P e=>exact e
 |loop P e=>exact e
 |scope P e=>exact e
 |_=>intro d n;cases n
def kN{w:World}{l:Nat}{o:Obj}:qY l w (w.putObj l o):=
 ⟨⟨rfl,rfl,rfl,sM,λP _ n=>World.putObj_heap_other n⟩,sM⟩
def aj.obj(P:aj f b k)(n:b.heap[a]? =some c8)(c:¬f a):k.heap[a]? =some c8:=
 (P.block a (Q5.1 n).1 c).trans n
def dy.of(n:Rel a W Q J)(P:c4 e5 W Q J.defers b):dy a W Q b5 c4 e5 J b:=⟨W,Q,n,λ_ _=>rfl,P⟩
def YM(hm:h.follows .mixedOrders=true){n m:Nat}:∀(I:Code) (r:Option Nat) (d:Bool) (t:jj) (e:cz) (f:c_) (l:Act) (b:World),
  (r=none\/(d=false/\jr I=true))->(∀a,a∈mj I->a<n)->(∀u e f Y b,t u e f Y b->u≠.outgrown)->Rel n e f l->DR h e2 b5 d I t e f l.defers b->I.wpIn (FW r) m h (dy n e f (writes I) t) l b:=by
 intro I
 induction I generalizing m with
 |skip=>intro r d t e f l b _ _ _ k P;exact wpIn_skip (dy.of k P)
 |label a0=>intro r d t e f l b _ _ _ k P;exact wpIn_label (dy.of k P)
 |exit id=>intro r d t e f l b _ _ _ k P;exact wpIn_exit (dy.of k P)
 |ret=>intro r d t e f l b _ _ _ k P;exact wpIn_ret (dy.of k P)
 |goto a0=>intro r d t e f l b _ _ _ k P;exact P.elim
 |refuse sE=>intro r d t e f l b _ _ _ k P;exact P.elim
 |scope I ih=>
  intro r d t e f l b C y J k P;refine Ni (wpIn_mono (ih r d (HA t) e f l b C y (by intro q e f Y b c Q;subst Q;exact J _ _ _ _ _ c rfl) k P) ?_);intro q v x o;obtain⟨z,w,B,F,c⟩:=o
  cases q with
  |goto a0=>exact c.elim
  |normal=>exact⟨z,w,B,F,c⟩
  |exit id=>exact⟨z,w,B,F,c⟩
  |ret=>exact⟨z,w,B,F,c⟩
  |panic ch=>exact⟨z,w,B,F,c⟩
  |outgrown=>exact⟨z,w,B,F,c⟩
 |region id A Z=>
  intro r d t e f l b C y J k P;have hd:r=none\/∀V∈A.toList,xj V=true:=C.imp (λP=>P) λP=>by
   have:=P.2;unfold jr at this;exact ZY.1 this
  have d2:∀v x,¬dy n e f (writes (.region id A Z)) t .outgrown v x:=λl b ⟨e,f,_,_,c⟩=>J _ _ _ _ _ c rfl;unfold DR at P;split at P
  ·split at P
   ·have W:∀V∈A.toList,∀a7,V.dst=some a7->a7<n/\a7∈writes (.region id A false):=λV ho a7 hd=>⟨y a7 (lK ho hd),lK ho hd⟩
    have e9:∀c5 a,kH A c5=some a->a<n:=by
     intro c5 a N;unfold kH at N
     cases ho:A[c5]? with
     |none=>rw[ho]at N;simp at N
     |some V=>
      rw[ho]at N;have f0:V∈A.toList:=by
       obtain⟨d3,rfl⟩:=Q5.1 ho;simp
      exact(W V f0 a N).1
    refine wpIn_region ?_;rw[List.range_eq_range',<-XK];exact xk e9 J hd A.toList 0 f l b sM W k (λ_ _=>rfl) P
   ·exact P.elim
  ·obtain⟨h1,h2⟩:=Nj hm (n:=n) y k P
   cases Z with
   |false=>exact wpIn_region (sj d2 hd _ _ _ (h1 rfl))
   |true=>exact wpIn_region_draw λa=>sj d2 hd _ _ _ (h2 rfl a)
 |seq u R K L=>
  intro r d t e f l b C y J k P;have b4:r=none\/(d=false/\jr u=true):=C.imp (λP=>P) λP=>⟨P.1,by have:=P.2;simp only[jr,QK]at this;exact this.1⟩
  have b6:r=none\/(d=false/\jr R=true):=C.imp (λP=>P) λP=>⟨P.1,by have:=P.2;simp only[jr,QK]at this;exact this.2⟩
  have b7:∀a,a∈mj u->a<n:=λa j=>y a (Q6.2 (.inl j));have b8:∀a,a∈mj R->a<n:=λa j=>y a (Q6.2 (.inr j));have g:∀(a4:cz->c_->List Deferred->bc) (q:Exit) (v:Act) (x:World),q≠.normal->dy n e f (writes u) (CB a4 t) q v x->dy n e f (writes (u.seq R)) t q v x:=by
   intro a4 q v x f4 o;refine o.mono (λa j=>Q6.2 (.inl j)) (λ_ _=>rfl) λz w i8 w1 c=>?_
   cases q with
   |normal=>exact Zz rfl f4
   |outgrown=>exact c.elim
   |_=>exact c
  have d4:∀(a4:cz->c_->List Deferred->bc) q e f Y b,CB a4 t q e f Y b->q≠.outgrown:=by
   intro a4 q e f Y b c Q;subst Q;exact c.elim
  unfold DR at P;split at P
  ·have hx:=K (m:=m) r d _ e f l b b4 b7 (d4 _) k P
   refine wpIn_seq (wpIn_mono hx ?_);intro q v x o
   cases q with
   |normal=>
    obtain⟨z,w,B,F,c⟩:=o;have hy:=L (m:=m) r d t z w v x b6 b8 J B c;refine wpIn_mono hy (λq d5 d6 o=>?_);refine o.mono (λa j=>Q6.2 (.inr j)) (λa j=>F a λhm=>j (Q6.2 (.inl hm))) λ_ _ _ _ c=>c
   |exit id=>exact g _ _ _ _ sM o
   |goto a0=>exact g _ _ _ _ sM o
   |ret=>exact g _ _ _ _ sM o
   |panic ch=>exact g _ _ _ _ sM o
   |outgrown=>exact g _ _ _ _ sM o
  ·rename_i H hS
   obtain⟨f5,P,c6⟩:=P;obtain⟨w,h1,h2,c6⟩:=fC.out c6;have hx:=K (m:=m) r d _ e f l b b4 b7 (d4 _) k P;refine wpIn_seq (wpIn_mono hx ?_);intro q v x o
   cases q with
   |normal=>
    obtain⟨B2,a1,O,b9,c⟩:=o;obtain⟨c0,hJ⟩:=CA.out c;have hv:=oI O H;have a8:=kJ B2 a1 H;have d7:=ap.all a8 hJ c6 (λa=>v.tmps.getD a undef) x hJ;rw[hv,<-c0]at d7;have d8:=wV (n:=n) H O.size h1 h2 (B0:=e) (λa j=>(O.slot a).trans (b9 a j));have hy:=L (m:=m) r d t _ _ v x b6 b8 J d8 d7;refine wpIn_mono hy (λq d5 d6 o=>?_);refine o.mono (λa j=>Q6.2 (.inr j)) (λa j=>?_) λ_ _ _ _ c=>c;rw[<-d8.slot];exact(O.slot a).trans (b9 a λhm=>j (Q6.2 (.inl hm)))
   |exit id=>exact g _ _ _ _ sM o
   |goto a0=>exact g _ _ _ _ sM o
   |ret=>exact g _ _ _ _ sM o
   |panic ch=>exact g _ _ _ _ sM o
   |outgrown=>exact g _ _ _ _ sM o
 |cond I u R K L=>
  intro r d t e f l b C y J k P;have b4:r=none\/(d=false/\jr u=true):=C.imp (λP=>P) λP=>⟨P.1,by have:=P.2;simp only[jr,QK]at this;exact this.1⟩
  have b6:r=none\/(d=false/\jr R=true):=C.imp (λP=>P) λP=>⟨P.1,by have:=P.2;simp only[jr,QK]at this;exact this.2⟩
  unfold DR at P;split at P
  ·rename_i f6 S
   refine wpIn_cond_split (t:=f6) (by rw[k.eval];exact S) (λj=>?_) (λhf=>?_)
   ·subst j
    refine wpIn_mono (K r d t e f l b b4 (λa j=>y a (Q6.2 (.inl j))) J k P) (λq v x o=>?_);exact o.mono (λa j=>Q6.2 (.inl j)) (λ_ _=>rfl) λ_ _ _ _ c=>c
   ·subst hf
    refine wpIn_mono (L r d t e f l b b6 (λa j=>y a (Q6.2 (.inr j))) J k P) (λq v x o=>?_);exact o.mono (λa j=>Q6.2 (.inr j)) (λ_ _=>rfl) λ_ _ _ _ c=>c
  ·exact P.elim
 |block id I ih=>
  intro r d t e f l b C y J k P;refine wpIn_block (wpIn_mono (ih r d (yr id t) e f l b C y (by intro q e f Y b c Q;subst Q;exact c.elim) k P) ?_);intro q v x o;obtain⟨z,w,B,F,c⟩:=o
  cases q with
  |exit a9=>
   show(if a9=id then _ else _);simp only[yr]at c
   cases S:Nat.beq a9 id with
   |true=>
    rw[S]at c;rw[Zx (X9 S)];exact⟨z,w,B,F,c⟩
   |false=>
    rw[S]at c;rw[Zq (by rintro rfl;simp at S)];exact⟨z,w,B,F,c⟩
  |normal=>exact⟨z,w,B,F,c⟩
  |goto a0=>exact⟨z,w,B,F,c⟩
  |ret=>exact⟨z,w,B,F,c⟩
  |panic ch=>exact⟨z,w,B,F,c⟩
  |outgrown=>exact c.elim
 |loop I ih=>
  intro r d t e f l b C y J k P;unfold DR at P;split at P
  ·exact P.elim
  ·rename_i H hS
   obtain⟨f7,⟨m0,h0⟩,f8⟩:=P;refine wpIn_loop_ghost (λm v x=>v.tmps.size=n/\(∀a,a∉writes I->v.tmps.getD a undef=get e f a)/\v.defers=l.defers/\
    ap (jq H) (f7 m) (H.map λa5=>v.tmps.getD a5.1 undef) x) m0 ⟨k.size,λa _=>k.slot a,rfl,by rw[<-oI k H];exact h0⟩ ?_
   rintro mm v x ⟨f9,d9,c0,hI⟩;obtain⟨w,h1,h2,g0⟩:=fC.out (f8 mm);have a8:(H.map λa5=>v.tmps.getD a5.1 undef).length=(jq H).length:=by rw[<-kJ e f H,AJ];simp
   have S:=ap.all a8 hI g0 (λa=>v.tmps.getD a undef) x hI;have c1:=wV (n:=n) H f9 h1 h2 d9;rw[<-c0]at S;have c7:=ih (m:=m) r d _ _ _ v x C y (by intro q e f Y b c Q;subst Q;exact c.elim) c1 S;refine wpIn_mono c7 ?_;intro q d5 d6 o;obtain⟨B2,a1,O,b9,c⟩:=o;have b0:∀a,a∉writes I->get B2 a1 a=get e f a:=λa j=>(b9 a j).trans ((c1.slot a).symm.trans (d9 a j))
   cases q with
   |normal=>
    obtain⟨g1,m',d3,g2⟩:=CA.out c;refine⟨m',d3,O.size,λa j=>(O.slot a).trans (b0 a j),g1.trans c0,?_⟩;rw[<-oI O H];exact g2
   |outgrown=>exact c.elim
   |exit id=>exact⟨B2,a1,O,b0,c⟩
   |goto a0=>exact⟨B2,a1,O,b0,c⟩
   |ret=>exact⟨B2,a1,O,b0,c⟩
   |panic ch=>exact⟨B2,a1,O,b0,c⟩
 |rangeFunc g3 ps u R K L=>
  intro r d t e f l b C y J k P;unfold DR at P;split at P
  ·exact P.elim
  obtain rfl:r=none:=C.resolve_right λP=>by cases P.1
  split at P
  ·exact P.elim
  rename_i H hS;obtain⟨e0,P⟩:=fR.out P;simp only[QK]at e0;obtain⟨c2,g4,g5⟩:=e0;have c2:=Qc.out c2;obtain⟨c8,a2,g6,g7,σ,s0,f5,Jx,a4,i9,g8,e1,c3,c7,g9,h3,h4⟩:=P;have b7:∀a,a∈mj u->a<n:=λa j=>y a (Q6.2 (.inr (Q6.2 (.inl j))));have b8:∀a,a∈mj R->a<n:=λa j=>y a (Q6.2 (.inr (Q6.2 (.inr j))));have h5:∀a,a∈ps.toList->a<n:=λa j=>y a (Q6.2 (.inl j));refine wpIn_rangeFunc ?_;intro fn _;obtain⟨p,s⟩:∃p:LoopState->Option Code->Loop,p=λst pe=>{state:=st,pending:=pe,fn,tmps:=l.tmps,params:=ps,assign:=u,body:=R,defers:=b.heap.size}:=⟨_,rfl⟩
  obtain⟨T,b2⟩:∃T,(b.alloc (.deferred (some []))).alloc (.loop (p .ready none))=T:=⟨_,rfl⟩
  have h6:T.heap[b.heap.size+1]? =some (.loop (p .ready none)):=by
   rw[<-b2];have:=World.alloc_heap_new (b.alloc (.deferred (some []))) (.loop (p .ready none));rwa [World.size_alloc]at this
  have h7:T.heap[b.heap.size]? =some (.deferred (some [])):=by
   rw[<-b2];exact(Go.RowKit.Below.heap_alloc _ _ _ sM).trans (World.alloc_heap_new b _)
  have h8:T.heap.size=b.heap.size+2:=by rw[<-b2];simp
  have h9:aj (λ_=>False) b T:=by
   rw[<-b2];exact⟨rfl,rfl,rfl,by simp;omega,λi0 E _=>(Go.RowKit.Below.heap_alloc _ _ _ dg).trans (Go.RowKit.Below.heap_alloc b _ i0 E)⟩
  let i1:bc:=λe2=>e2.heap[b.heap.size+1]? =some (.loop (p .ready none))/\e2.heap[b.heap.size]? =some (.deferred (some []))
  let Rx:Exit->bc:=λu e2=>Ze u (YL (λu A0=>t u e f (Oz b.heap.size::l.defers) A0) (h_ R))/\e2.heap[b.heap.size+1]? =some (.loop (p .done (some (Tz u))))/\e2.heap[b.heap.size]? =some (.deferred (some []))
  have c4:∀{e2 e:World} {V o':Obj},aj (oZ b) e2 e->e2.heap[b.heap.size+1]? =some V->e2.heap[b.heap.size]? =some o'->e.heap[b.heap.size+1]? =some V/\e.heap[b.heap.size]? =some o':=λE h1 h2=>
   ⟨E.obj h1 λP=>P.2 rfl,E.obj h2 λP=>P.1 rfl⟩
  refine⟨b.heap.size+1,[Oz b.heap.size],T,{target:=.fn (.func c8) a2,args:= #[.func (.yield (b.heap.size+1)) #[] #[]]},T,c8,#[.func (.yield (b.heap.size+1)) #[] #[]]++a2,T,?_,?_,λ_ _=>trivial,?_,λP=>by simp[Fence.wide]at P,?_⟩
  ·rw[<-b2,s];exact run_enterLoop_outer _ _ _ _ _
  ·have hg:l.eval g3= .func (.func c8) #[] a2:=by rw[k.eval];exact g6
   simp only[resolve,hg];simp[go_sem]
  ·simp only[invoke];exact jk g7 _ _
  refine vf.2 (Calls.mono (g9 i1 Rx (λe2 e P E=>c4 E P.1 P.2) (λu e2 e P E=>⟨P.1,c4 E P.2.1 P.2.2⟩) (λe2 P=>by have:=(Q5.1 P.1).1;omega) ?_ T (g8 T h9 h8) ⟨h6,h7⟩) ?_)
  ·
   rintro c9 M vs A1 N ⟨W,E⟩ e3 hN;have a8:=e3.len;have e4:vs.length=ps.toList.length:=by rw[a8,<-c2,KA]
   have hy:=run_yield (P:=h) (args:=vs.toArray) W (by rw[s];simpa using e4);rw[s]at hy;refine⟨fn,_,u,R,hy,roundIn_of_wpIn trivial ?_⟩;have S:=e3 _ (c7 c9 M A1 N (by have:=(Q5.1 W).1;omega)) hN;have c1:Rel n e (OA (QI H) vs f) {tmps:=(ps.zip vs.toArray).foldl (λU (u:Tmp×Value)=>U.setIfInBounds u.1 u.2) l.tmps,defers:=[]}:=by
    have h0:Rel n e f {tmps:=l.tmps,defers:=[]}:=⟨k.size,k.slot⟩
    have:=FX ps.toList vs f l.tmps h5 e4 h0;rw[c2];have w:(ps.zip vs.toArray).foldl (λU (u:Tmp×Value)=>U.setIfInBounds u.1 u.2) l.tmps=(ps.toList.zip vs).foldl (λa (a5:Nat×Value)=>a.setIfInBounds a5.1 a5.2) l.tmps:=by
     rw[<-Array.foldl_toList,Array.toList_zip]
    rw[w];exact this
   have hx:=K (m:=0) (some (b.heap.size+1)) false _ e _ _ A1 (.inr ⟨rfl,g4⟩) b7 (by intro q e f Y b c Q;subst Q;exact c.elim) c1 S;refine wpIn_mono hx ?_;intro q i2 A2 o;obtain⟨z,w,B,-,c⟩:=o
   cases q with
   |exit id=>exact c.elim
   |goto a0=>exact c.elim
   |ret=>exact c.elim
   |panic ch=>exact c.elim
   |outgrown=>exact c.elim
   |normal=>
    obtain⟨i3,c⟩:=c;obtain⟨e5,i4⟩:=c4 i3 W E;refine⟨_,run_beginRound e5 (by rw[s]),?_⟩;have c:=c _ (kN (w:=A2) (l:=b.heap.size+1) (o:=.loop {p .ready none with state:=.busy}));have e6:(A2.putObj (b.heap.size+1) (.loop {p .ready none with state:=.busy})).heap[b.heap.size+1]? =some (.loop {p .ready none with state:=.busy}):=World.putObj_heap_same (Q5.1 e5).1;have e7:(A2.putObj (b.heap.size+1) (.loop {p .ready none with state:=.busy})).heap[b.heap.size]? =some (.deferred (some [])):=(World.putObj_heap_other oM).trans i4;generalize A2.putObj (b.heap.size+1) (.loop {p .ready none with state:=.busy})=A3 at c e6 e7;have hy:=L (m:=0) (some (b.heap.size+1)) false _ z w i2 A3 (.inr ⟨rfl,g5⟩) b8 (by intro q e f Y b c Q;subst Q;exact c.elim) B c;refine wpIn_mono hy ?_;have a3:∀(i:Option Code) (X:World),aj (oZ b) A3 X->
      (Instr.endRound (b.heap.size+1) i).run h X= .ok (.bool i.isNone) (X.putObj (b.heap.size+1) (.loop (p (if i.isNone then .ready else .done) i)))/\
      (X.putObj (b.heap.size+1) (.loop (p (if i.isNone then .ready else .done) i))).heap[b.heap.size+1]? =some (.loop (p (if i.isNone then .ready else .done) i))/\
      (X.putObj (b.heap.size+1) (.loop (p (if i.isNone then .ready else .done) i))).heap[b.heap.size]? =some (.deferred (some [])):=λi X a6=>by
     obtain⟨e8,i5⟩:=c4 a6 e6 e7;have:=run_endRound (P:=h) i e8;rw[s]at this⊢;exact⟨this,World.putObj_heap_same (Q5.1 e8).1,(World.putObj_heap_other oM).trans i5⟩
    intro q j0 X o;obtain⟨B4,j1,j2,-,b1⟩:=o
    cases q with
    |normal=>
     obtain⟨a6,b3⟩:=b1;obtain⟨f1,f2,f3⟩:=a3 none X a6;exact⟨_,_,f1,true,rfl,.inl ⟨rfl,e1 _ _ _ _ b3 kN,f2,f3⟩⟩
    |ret=>
     obtain⟨a6,d0,b3⟩:=b1;obtain⟨f1,f2,f3⟩:=a3 (some .ret) X a6;exact⟨_,_,f1,false,rfl,.inr ⟨rfl,.ret,c3 _ _ _ _ b3 kN,d0,f2,f3⟩⟩
    |exit id=>
     obtain⟨a6,d0,b3⟩:=b1;obtain⟨f1,f2,f3⟩:=a3 (some (.exit id)) X a6;exact⟨_,_,f1,false,rfl,.inr ⟨rfl,.exit id,c3 _ _ _ _ b3 kN,d0,f2,f3⟩⟩
    |goto a=>exact b1.elim
    |panic ch=>exact b1.elim
    |outgrown=>exact b1.elim
  ·
   rintro ed A2 ⟨⟨j3,rfl⟩,(⟨⟨W,E⟩,c9,d1,N,hT⟩|⟨x1,M,N,i6,W,E⟩)⟩
   ·refine⟨none,_,by have:=run_endLoop (P:=h) W (by rw[s];simp);rw[s]at this;exact this,?_⟩
    exact dy.of (k.defers _) (h3 c9 d1 _ (e1 _ _ _ _ N kN) hT ((World.putObj_heap_other oM).trans E))
   ·refine⟨some (Tz x1),_,by have:=run_endLoop (P:=h) W (by rw[s];simp);rw[s]at this;exact this,?_⟩
    obtain⟨i7,c⟩:=QH.out h4 x1 i6;rcases KB R x1 i7 with rfl|⟨id,rfl⟩
    ·exact wpIn_ret (dy.of (k.defers _) (c M _ (c3 .ret M A2 _ N kN) ((World.putObj_heap_other oM).trans E)))
    ·exact wpIn_exit (dy.of (k.defers _) (c M _ (c3 (.exit id) M A2 _ N kN) ((World.putObj_heap_other oM).trans E)))
def XT(n:bc):List Deferred->bc
 |[],P=>n P
 |d::c,P=>match d.target with
  | .collected a=>ru a P/\∀b,qY a P b->XT n c b
  |_=>False
def Wp(c:Program)(d:Func)(P:ba):jj:=λg e f a n=>match g with
 | .normal=>XT (λn=>JV c d.results.toList e f n λb=>P (.returned (oneOf b)) n) a n
 | .ret=>XT (λn=>JV c d.results.toList e f n λb=>P (.returned (oneOf b)) n) a n
 | .panic h=>XT (λn=>P (.panicked h) n) a n
 |_=>False
def pR{f:Program}{g:Func}{n:Array Value}{h:ba}{b:bc}{e:FrameMode}(i:e≠.run){j:Nat}(k:∀P,b P->LeavesIn (FW none) j f g n h [] e P):∀(c:List Deferred) (P:World),XT b c P->LeavesInM (FW none) j f g n h c e P
 |[],P,a=>k P a
 |d::c,P,a=>by
  unfold XT at a;split at a
  ·rename_i l m
   obtain⟨o,a⟩:=a;exact⟨i,.inl ⟨l,_,m,run_takeDeferred o,pR i k c _ (a _ kN)⟩⟩
  ·exact a.elim
def oz(g:lq)(i:List Nat)(j:h.follows .mixedOrders=true)(k:h.funcs[A]? =some a8)(l:a8.body=some a2)(m:o.size<=a8.ntmps)(p:vE a8.ntmps (mj a2)=true)(P:DR h g i true a2 (Wp h a8 B) (λ_=>undef) (fJ 0 o.toList) [] b):Calls h A o b B:=by
 refine vf.1 (callsIn_of_wp_marks (F:=FW none) (n:=0) k l trivial (wpIn_mono (YM j a2 none true (Wp h a8 B) _ _ _ b (.inl rfl) (l_ p) (by intro c d e u b n q;subst q;exact n.elim) (yt m []) P) ?_));rintro c r v ⟨d,e,s,_,n⟩;have f:∀b,(JV h a8.results.toList d e b λa=>B (.returned (oneOf a)) b)->LeavesIn (FW none) 0 h a8 r.tmps B [] .returning b:=λb P=>by
  obtain⟨a,t,P⟩:=rY s P;exact⟨_,rZ t,P⟩
 cases c with
 |normal=>exact pR sM f _ _ n
 |ret=>exact pR sM f _ _ n
 |panic w=>exact pR sM (λb P=>P) _ _ n
 |exit id=>exact n.elim
 |goto a=>exact n.elim
 |outgrown=>exact n.elim

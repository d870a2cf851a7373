import Derived.Test.YtblabbpipmodgaaGreatDoorKo11
import Derived.RangeFuncSeq
import Derived.RangeFuncLeaves
set_option maxHeartbeats 4000000
set_option linter.all false
set_option maxRecDepth 20000
open Go.IntKind renaming wrap→XH
namespace Go.Proofs.YtblabbpipmodgaaGreatDoor
open Go.au
def lJ(P:dm)(D:ak):Int×dm×ak:=
 let c:=cz (aw P.next)
 let a:=D.sync c
 if a.1≠0 then(a.1,P,(a.2.delete c).2)else
 let b:=bw a.2 (P.a_++[P.next])
 if b.1≠0 then(b.1,P,(b.2.delete c).2)else
 (0,⟨P.size,P.a_++[P.next],0,XH .i64 (P.next+1)⟩,b.2)
def bu(a:dm)(D:ak):Int×dm×ak:=
 let P:=D.create (cz (aw a.next))
 if P.1≠0 then(P.1,a,P.2)else lJ a P.2
def aK(P:dm)(D:ak):Int×dm×ak:=
 if P.a_=[]then bu P D else
 let a:=D.sync P.last
 if a.1≠0 then(a.1,P,a.2)else bu P a.2
def CA(c d:World)(e f:Nat)(a:XM)(P:Int×dm×ak)(g:Value)(b:World):Prop:=g= QH P.1/\cy c b e f P.2.1 P.2.2 a/\aj (dK a) d b
def OB(P:Int):aN (XH .i64 P):=by
 unfold aN XH;simp[IntKind.signed,IntKind.bits];omega
def Ep{D:ak}{a:List Int}(P:(bw D a).1=0):a.length<=64:=by
 unfold bw at P;split at P
 ·cases P
 ·omega
variable{e:Int}{s:List UInt8}{B:List ah}{a c j p:Nat}{a2 f:XM}{d:XU}{m:XN}{b k:World}{x:XT}{l:ah}{U:bL}{a9:dm}
def CB{D:ak}(hL:Laid b)(h:cy b k a c a9 D f):
  ZH 138 #[XP c] k (Ok (CA b k a c f (aK a9 D))):=by
 have b2:=h.aE;obtain⟨p2,j3,e6⟩:=h.UQ;have p3:=h.gr.size;have e7:=h.zl;have j4:=h.many;refine sg (PA.mk λB k1 s1 g1=>PA.mk λw2 k2 s2 g2=>?_);have d6:ai k w2:=k1.then k2
 let b6:XM:=λP=>f P\/(P=k.heap.size\/P=B.heap.size)
 have hY:cy b w2 a c a9 D b6:=h.add d6 λP d=>by omega
 have b7:=k2.get g1 id;refine⟨λe=>∃C,cy b e a c a9 C b6/\aj (dK f) k e/\w2.heap.size<=e.heap.size/\e.heap[k.heap.size]? =some (.cells #[XP c] 95 (0,0))/\e.heap[B.heap.size]? =some (.cells #[QH 0] 34 (0,0))/\aK a9 D=bu a9 C,?_,?_⟩
 ·obtain⟨G,hD,hl,hG⟩:=id hY
  obtain⟨t,E,I,m,S,hr,hE,u⟩:=hl.row;refine⟨_,ae b7 rfl,c,0,rfl,_,_,_,ae S rfl,al.dec (λo5=>?_) (λy=>?_)⟩
  ·have v:a9.a_≠[]:=λi=>by rw[i]at u;simp at u;omega
   refine⟨_,ae b7 rfl,PC.ok (GV hL hY v) ?_⟩;rintro _ w3 ⟨rfl,Y,k3⟩;have kX:aj (dK f) k w3:=(ai.keep d6).then (k3.mono λP _ d j=>d (.inl j));have b8:=k3.get b7 λu=>u (.inr (.inl rfl));have b9:=k3.get g2 λu=>u (.inr (.inr rfl));have hB:aK a9 D=if(D.sync a9.last).1≠0 then((D.sync a9.last).1,a9,(D.sync a9.last).2)else bu a9 (D.sync a9.last).2:=by unfold aK;rw[Zq v]
   refine⟨_,rfl,al.dQ (λe9=>?_) (λF=>⟨_,Y,kX,k3.size,b8,b9,by rw[hB,Zq (by simpa using F)]⟩)⟩;refine PS.mk b9 sM λJ L s4 g4=>⟨_,ae g4 rfl,Ok.mk ?_⟩
   rw[hB,Zx e9];exact⟨rfl,(Y.other L λP d=>⟨d▸.inr (.inr rfl),oM⟩).mono λP d=>.inl d,kX.then (L.mono λP _ d j=>by have:=b2 P j;omega)⟩
  ·have he:a9.a_=[]:=QW oM
   exact⟨D,hY,ai.keep d6,Q4 _,b7,g2,by unfold aK;rw[Zx he]⟩
 rintro _ w3 ⟨C,Y,b3,o6,b8,b9,hB⟩;rw[hB];obtain⟨G3,p4,j5,p5⟩:=id Y;obtain⟨h0,n3,k4,E3,j6,-,-,-⟩:=j5.row;refine⟨_,ae b8 rfl,c,0,rfl,_,ae j6 rfl,PC.ok (jj (hL.af Y.gr) e7) ?_⟩;rintro _ J ⟨rfl,L⟩;refine⟨_,rfl,PA.mk λw5 k5 s5 g5=>PS.mk g5 sM λw6 k6 s6 g6=>?_⟩
 let p:XM:=λP=>b6 P\/P=J.heap.size
 have f5:=Y.af L;have p6:=f5.gr.size;have p7:=L.size;have j7:cy b w6 a c a9 C p:=(f5.add (Y:=(·=J.heap.size)) k5 λP d=>oM).other k6 λP d=>⟨.inr d,oM⟩
 have j8:aj (dK f) k w6:=((b3.af L).af k5).then (k6.mono λP _ d j=>by have:=b2 P j;have:=b3.size;omega);have d8:∀{P},f P->p P:=λj=>.inl (.inl j);intro M e4;have k7:ai w6 M:=e4.keep;have f6:=j7.af k7;have gn:w6.heap[J.heap.size]? =some (.cells #[.string (cz (aw a9.next))] 9 (0,0)):=g6;have j9:=k6.get (k5.get (L.get b8 id) id) oM;have f7:=k6.get (k5.get (L.get b9 id) id) oM
 let q:World->Int->Prop:=λe i=>e.heap[k.heap.size]? =some (.cells #[XP c] 95 (0,0))/\e.heap[B.heap.size]? =some (.cells #[QH i] 34 (0,0))/\e.heap[J.heap.size]? =some (.cells #[.string (cz (aw a9.next))] 9 (0,0))
 have C6:q w6 0:=⟨j9,f7,gn⟩
 have g:∀{e w:World} {i:Int} {d0:XM},q e i->aj d0 e w->(∀P,d0 P->¬(P=k.heap.size\/P=B.heap.size\/P=J.heap.size))->q w i:=λN o hS=>
  ⟨o.get N.1 λO=>hS _ O (.inl rfl),o.get N.2.1 λO=>hS _ O (.inr (.inl rfl)),o.get N.2.2 λO=>hS _ O (.inr (.inr rfl))⟩
 have l:∀{e w:World} {i:Int},q e i->aj (dK p) e w->q w i:=λN o=>g N o λP d hc=>d (by
  rcases hc with rfl|rfl|rfl
  ·exact .inl (.inr (.inl rfl))
  ·exact .inl (.inr (.inr rfl))
  ·exact .inr rfl)
 have c0:∀{e w:World},aj (dK f) k e->aj (dK p) e w->aj (dK f) k w:=λt P=>t.then (P.mono λP _ d j=>d (d8 j));have C7:q M 0:=g C6 k7 λP d=>d.elim;obtain⟨G7,p8,k0,p9⟩:=id f6;obtain⟨l1,n7,l2,E7,l0,-,-,-⟩:=k0.row;refine⟨_,ae C7.1 rfl,c,0,rfl,_,ae l0 rfl,_,ae C7.2.2 rfl,PC.ok (f6.on (λp hZ T=>T.create)) ?_⟩;rintro _ w8 ⟨rfl,c1,k8⟩;have C8:=l C7 k8;have g0:=c0 (j8.af k7) k8;have l3:bu a9 C=if(C.create (cz (aw a9.next))).1≠0 then((C.create (cz (aw a9.next))).1,a9,(C.create (cz (aw a9.next))).2)else lJ a9 (C.create (cz (aw a9.next))).2:=rfl
 rw[l3];generalize q0:C.create (cz (aw a9.next))=cr at c1⊢;obtain⟨n5,K⟩:=cr;simp only at c1⊢;have q1:B.heap.size<w2.heap.size:=oM
 have g3:∀{e:World} {z:Int×dm×ak} {i:Int} {w:World},cy b e a c z.2.1 z.2.2 p->aj (dK f) k e->aj (·=B.heap.size) e w->i=z.1->CA b k a c f z (QH i) w:=by
  intro e z i w u o O he;exact⟨by rw[he],(u.other O λP d=>⟨d▸.inl (.inr (.inr rfl)),oM⟩).mono λP d=>d8 d,o.then (O.mono λP _ d j=>by have:=b2 P j;omega)⟩
 refine⟨_,rfl,al.dQ (λv=>?_) (λF=>?_)⟩
 ·refine PS.mk C8.2.1 sM λw9 k9 s9 g9=>⟨_,ae g9 rfl,Ok.mk ?_⟩
  rw[Zx v];exact g3 c1 g0 k9 rfl
 rw[Zq (by simpa using F)];have A:∀{z:Int×dm×ak} (i:Int) (m:ak) (e:World),cy b e a c a9 m p->aj (dK f) k e->q e i->i≠0->z=(i,a9,(m.delete (cz (aw a9.next))).2)->
   Lv XG (λg7=>∃g8:Int,g7.cell? ⟨B.heap.size,0,none⟩=some (QH g8)/\Ok (CA b k a c f z) (.returned (QH g8)) g7) (λch e=>Ok (CA b k a c f z) (.panicked ch) e)
    ([{target:=.fn (.func 189) #[XP B.heap.size,XP k.heap.size,XP J.heap.size],args:= #[]}]:List Deferred) .returning e:=by
  intro z i m e u o N v hr;refine Lv.one sM kR (CallsD.mono (iG (R:=λe' M=>e'= .returned (.tuple #[])/\∃h2:Int,M.cell? ⟨B.heap.size,0,none⟩=some (QH h2)/\Ok (CA b k a c f z) (.returned (QH h2)) M) ⟨_,ae N.2.1 rfl,al.dQ (λ_=>?_) (λF=>Zz F v)⟩) ?_)
  ·intro wa da
   have ka:ai e wa:=da.keep;have h3:=u.af ka;have e0:q wa i:=g N ka λP d=>d.elim;obtain⟨Ga,q2,l4,q3⟩:=id h3;obtain⟨aa,na,ca,Ea,c3,-,-,-⟩:=l4.row;refine⟨_,ae e0.1 rfl,c,0,rfl,_,ae c3 rfl,_,ae e0.2.2 rfl,PC.ok (h3.on (λp hZ T=>T.delete)) ?_⟩;rintro _ U ⟨rfl,l5,kb⟩;have l6:=l e0 kb;refine⟨_,rfl,rfl,_,ae l6.2.1 rfl,Ok.mk ?_⟩;rw[hr];exact⟨rfl,l5.mono λP d=>d8 d,c0 (o.af ka) kb⟩
  ·rintro e' u' M ⟨rfl,rfl,hX⟩
   exact Lv.ret rfl hX
 intro w9 e8;have k9:ai w8 w9:=e8.keep;have h4:=c1.af k9;have C9:q w9 0:=g C8 k9 λP d=>d.elim;obtain⟨G9,q4,l7,q5⟩:=id h4;obtain⟨n6,n9,o7,E9,l8,-,-,-⟩:=l7.row;refine⟨_,ae C9.1 rfl,c,0,rfl,_,ae l8 rfl,_,ae C9.2.2 rfl,PC.ok (h4.on (λp hZ T=>T.sync)) ?_⟩;rintro _ Z ⟨rfl,V,h5⟩;have b0:=l C9 h5;have d1:=c0 (g0.af k9) h5;have l9:lJ a9 K=if(K.sync (cz (aw a9.next))).1≠0 then((K.sync (cz (aw a9.next))).1,a9,((K.sync (cz (aw a9.next))).2.delete (cz (aw a9.next))).2)else
   if(bw (K.sync (cz (aw a9.next))).2 (a9.a_++[a9.next])).1≠0 then((bw (K.sync (cz (aw a9.next))).2 (a9.a_++[a9.next])).1,a9,((bw (K.sync (cz (aw a9.next))).2 (a9.a_++[a9.next])).2.delete (cz (aw a9.next))).2)else
   (0,⟨a9.size,a9.a_++[a9.next],0,XH .i64 (a9.next+1)⟩,(bw (K.sync (cz (aw a9.next))).2 (a9.a_++[a9.next])).2):=rfl
 rw[l9];generalize q6:K.sync (cz (aw a9.next))=sy at V⊢;obtain⟨q7,c2⟩:=sy;dsimp only at V;refine⟨_,rfl,al.dQ (λv=>?_) (λF=>?_)⟩
 ·refine PS.mk b0.2.1 sM λr s q8 m0=>?_
  rw[Zx v];exact A _ c2 r (V.other s λP d=>⟨d▸.inl (.inr (.inr rfl)),oM⟩) (d1.then (s.mono λP _ d j=>by have:=b2 P j;omega)) ⟨s.get b0.1 oM,m0,s.get b0.2.2 (by have:=b3.size;omega)⟩ v rfl
 rw[Zq (by simpa using F)];have o8:J.heap.size<Z.heap.size:=aB b0.2.2;refine⟨λt E I e=>∃m,aV aM 3 m e t E I (a9.a_++[a9.next])/\(∀P,m P->Z.heap.size<=P)/\ai Z e,?_,?_⟩
 ·intro r m1
  have s:ai Z r:=m1.keep;have a4:=V.af s;have b1:q r 0:=g b0 s λP d=>d.elim;obtain⟨m2,h6,W,h7⟩:=id a4;obtain⟨m3,m4,m5,m6,a5,d2,d3,o9⟩:=W.row;have p0:=W.aE c W.self;have a1:∀{wa U wc:World} {S:Nat} {t E I:_} {a2:XM},aV aM 3 a2 U t E I a9.a_->(∀P,a2 P->r.heap.size<=P/\P≠S)->U.heap[S]? =some (.cells #[QH a9.next] 3 (0,0))->ai r U->
    ∀κ ε,(∀X n' c' e,(∃m,aV aM 3 m e X n' c' (a9.a_++[a9.next])/\(∀P,m P->Z.heap.size<=P)/\ai Z e)->aj (λP=>r.heap.size<=P) U e->κ (.slice X n' c') e)->
    aG XG (Builtin.append_ #[27,27] 27 #[.slice t E I,.slice (XL S) 1 1]) U κ ε:=by
   intro wa U wc S t E I a2 Q hF hg o κ ε c7;refine kj Q q_ (D:=(·=S)) (Row.lit hg [a9.next] rfl (λd4 j=>by simp at j;subst j;exact e7) (by unfold aS;simp)) (λP i=>⟨i▸aB hg,λf0=>(hF P (Q.self P f0)).2 i⟩) (by unfold aS;simp;omega) (by unfold maxLen;simp;omega) λX c' e F' c8 a3 _ c9=>?_;refine c7 X _ c' e ⟨λP=>aI X=some P,c8.alone,λP d=>?_,?_⟩ (a3.mono λP _ d=>(hF P (Q.self P d)).1)
   ·have:=s.size;have:=o.size
    rcases c9 P d with h|h
    ·have:=(hF P h).1;omega
    ·omega
   ·exact(s.then o).new a3 λP d=>.inr (by have:=(hF P (Q.self P d)).1;have:=s.size;omega)
  have q9:k.heap.size<r.heap.size:=aB b1.1;refine⟨λP=>r.heap.size<=P,oM,_,ae b1.1 rfl,c,0,rfl,oM,_,_,_,ae a5 rfl,oM,_,ae b1.1 rfl,c,0,rfl,oM,_,ae a5 rfl,?_,?_⟩
  ·refine PC.ok (cC d2 λP d=>W.aE P (d3 P d).1) ?_
   rintro _ b4 ⟨r0,r3,r4,r5,rfl,a6,H,h8⟩;refine⟨_,_,_,rfl,H.keep,PA.mk λx n m7 e1=>⟨n.keep,a1 (wa:=x) (wc:=x) (a6.af n) (λP d=>⟨h8 P d,by have:=a6.aE P d;omega⟩) e1 (H.then n) _ _ λX n' c' e hJ o=>⟨_,_,_,rfl,o,trivial,hJ⟩⟩⟩
  ·refine PA.mk λb4 H r6 m8=>⟨H.keep,PC.ok (cC (d2.af H) λP d=>by have:=W.aE P (d3 P d).1;have:=H.size;omega) ?_⟩
   rintro _ x ⟨m9,n0,n1,r7,rfl,a7,n,d5⟩;exact⟨_,_,_,rfl,n.keep,a1 (wa:=x) (wc:=x) a7 (λP d=>⟨by have:=d5 P d;omega,by have:=d5 P d;omega⟩) (n.get m8 id) (H.then n) _ _ λX n' c' e hJ o=>⟨_,_,_,rfl,o,trivial,hJ⟩⟩
 rintro t E I _ r ⟨m,Q,hE,s⟩;have p1:(a9.a_++[a9.next]).length<=65:=by simp;omega
 have a4:cy b r a c a9 c2 (λP=>p P\/m P):=V.add s λP d=>⟨hE P d,Q.aE P d⟩
 have b1:q r 0:=g b0 s λP d=>d.elim;have d7:Row aM 8 r m t E (a9.a_++[a9.next]):=Q.row dC ba;have f1:∀d4∈a9.a_++[a9.next],aN d4:=KI d7;obtain⟨m2,h6,W,h7⟩:=id a4;obtain⟨m3,m4,m5,m6,a5,-,-,-⟩:=W.row;refine⟨_,ae b1.1 rfl,c,0,rfl,_,ae a5 rfl,PC.ok (a4.on λZ' n2 T=>T.bw hL.mQ d7 f1 λP d=>.inr (n2 P (.inr d))) ?_⟩;rintro _ b4 ⟨rfl,a8,H⟩;have R:aj (dK p) r b4:=H.mono λP _ d y=>d (.inl y);have c4:=l b1 R;have d9:=c0 (d1.af s) R;have a6:=Q.keep H λP d u=>u (.inr d);have b5:= @Ep c2 (a9.a_++[a9.next]);have h9:True:=trivial;generalize r8:bw c2 (a9.a_++[a9.next])=mw at a8 b5 h9⊢;obtain⟨r9,c5⟩:=mw;dsimp only at a8 b5 h9⊢;refine⟨_,rfl,al.dQ (λv=>?_) (λF=>?_)⟩
 ·refine PS.mk c4.2.1 sM λx n m7 e1=>?_
  rw[Zx v];have f2:cy b b4 a c a9 c5 p:=a8.mono λP d=>.inl d;exact A _ c5 x (f2.other n λP d=>⟨d▸.inl (.inr (.inr rfl)),oM⟩) (d9.then (n.mono λP _ d j=>by have:=b2 P j;omega)) ⟨n.get c4.1 oM,e1,n.get c4.2.2 (by have:=b3.size;omega)⟩ v rfl
 rw[Zq (by simpa using F)];have b5:=b5 F;intro x n4;have n:ai b4 x:=n4.keep;have i0:=a8.af n;have e5:q x 0:=g c4 n λP d=>d.elim;have a7:=a6.af n;obtain⟨s0,i1,e2,r1⟩:=id i0;obtain⟨m9,n0,n1,s3,i2,-,-,-⟩:=e2.row;have i3:∀P,m P->P≠c:=λP d i=>by have:=hE P d;omega
 have n8:c≠k.heap.size/\c≠B.heap.size/\c≠J.heap.size:=by have:=b3.size;omega
 refine⟨(·=c),_,ae e5.1 rfl,λi=>n8.1 i.symm,_,ae e5.1 rfl,c,0,rfl,PS.mk i2 sM λs7 i4 s8 o0=>⟨i4,c,0,rfl,PS.mk o0 sM λo1 i5 t0 i6=>⟨i5,?_⟩⟩⟩;have e3:=i4.then i5;have i7:q o1 0:=g e5 e3 λP d hc=>by subst d;omega
 refine⟨_,ae i7.1 rfl,c,0,rfl,_,ae i6 rfl,c,0,rfl,PS.mk i6 sM λc6 i8 t1 i9=>?_⟩;have o2:q c6 0:=g i7 i8 λP d hc=>by subst d;omega
 have a0:aj (·=c) x c6:=e3.then i8;refine PS.mk o2.2.1 sM λo3 o4 t2 j0=>Lv.one sM kR (CallsD.mono (iG (R:=λe' M=>e'= .returned (.tuple #[])/\M=o3) ⟨_,ae j0 rfl,al.dQ (λhc=>Zz rfl hc) (λ_=>⟨rfl,rfl⟩)⟩) ?_);rintro e' u' _ ⟨rfl,rfl,rfl⟩;refine Lv.ret rfl ⟨_,ae j0 rfl,Ok.mk ?_⟩;have j1:c6.heap[c]? =some (.cells #[XP a,QH a9.size,.slice t E I,QH 0,QH (XH .i64 (a9.next+1))] 228 (0,0)):=i9;have j2:cy b c6 a c ⟨a9.size,a9.a_++[a9.next],0,XH .i64 (a9.next+1)⟩ c5 p:=by
  refine⟨λP=>P=c\/m P,?_,⟨⟨t,E,I,m,j1,a7.keep a0 λP d i=>i3 P d i,λP d=>⟨.inr d,i3 P d⟩⟩,.inl rfl,?_,b5,?_⟩,?_⟩
  ·have h1:aZ b x a c5 (λP=>p P\/(P=c\/m P)):=i1.mono λP d=>by
    rcases d with d|d|d
    ·exact .inl (.inl d)
    ·exact .inr (d▸e2.self)
    ·exact .inl (.inr d)
   obtain⟨a2,f4,f8,f3,f9⟩:=h1;exact⟨a2,f4.keep a0 λP d i=>(f3 P d).2 (.inr (.inl i)),f8.new a0 λP d=>.inr oM,f3,λP d=>Qk (f9 P d) a0.size⟩
  ·rintro P (rfl|d)
   ·exact aB i9
   ·exact Qk (a7.aE P d) a0.size
  ·show aN (XH .i64 (a9.next+1))
   exact OB _
  ·rintro P (rfl|d)
   ·exact⟨j3,λy=>by
     rcases y with(y|y|y)|y
     ·exact e6 y
     ·omega
     ·omega
     ·omega⟩
   ·have:=hE P d
    exact⟨by have:=V.gr.size;omega,λy=>by have:=V.aE P y;omega⟩
 exact g3 j2 ((d9.af n).then (a0.mono λP _ d j=>e6 (d▸j))) o4 rfl
def ax(no:Int):ByteArray:=cz (aw no)
structure nh where
 no:Int
 out:List ah
 V:dm
 D:ak
def cM:List Int->List ah->dm->ak->nh
 |[],P,a,D=>⟨0,P,a,D⟩
 |no::b,P,a,D=>
  if(D.read (ax no)).2≠0 then⟨0,P,a,D⟩else
  if(bC (D.read (ax no)).1).2<(D.read (ax no)).1.length then
   ⟨(D.mq (ax no) (bC (D.read (ax no)).1).2).1,P++(bC (D.read (ax no)).1).1,⟨a.size,a.a_++[no],(bC (D.read (ax no)).1).2,a.next⟩,(D.mq (ax no) (bC (D.read (ax no)).1).2).2⟩
  else cM b (P++(bC (D.read (ax no)).1).1) ⟨a.size,a.a_++[no],(bC (D.read (ax no)).1).2,a.next⟩ D
section
variable {w0 w w1 w':World} {p q:Nat} {D D':ak} {V V':dm} {X Y Z G S:XM}
def aZ.fB(c:aZ w0 w p D X)(d:aj Y w w')(e:∀P,Y P->X P/\w0.heap.size<=P)(f:∀P,Z P->(X P\/w.heap.size<=P)/\P<w'.heap.size):aZ w0 w' p D Z:=by
 obtain⟨h,g,i,b,l⟩:=c;exact⟨h,g.keep d λP a j=>(b P a).2 (e P j).1,i.new d λP a=>.inr (e P a).2,λP a=>⟨(b P a).1,λk=>(f P k).1.elim (b P a).2 λc=>by have:=g.aE P a;omega⟩,λP a=>(f P a).2⟩
def cy.fB(g:cy w0 w p q V D X)(b:aj Y w w')(c:∀P,Y P->X P/\w0.heap.size<=P)(d:∀P,Z P->(X P\/w.heap.size<=P)/\P<w'.heap.size):cy w0 w' p q V D Z:=by
 obtain⟨G,h,e,f⟩:=g;refine⟨G,h.fB b (λP a=>⟨.inl (c P a).1,(c P a).2⟩) λP a=>?_,e.keep b λP a i=>(f P a).2 (c P i).1,λP a=>⟨(f P a).1,λj=>(d P j).1.elim (f P a).2 λg=>by have:=e.aE P a;omega⟩⟩;rcases a with a|a
 ·exact⟨(d P a).1.imp .inl id,(d P a).2⟩
 ·exact⟨.inl (.inr a),Qk (e.aE P a) b.size⟩
def OC{no B:Int}(h:cy w0 w p q V D X)(O:aN no)(Q:V.a_.length+1<=64)(s:∀w',cy w0 w' p q ⟨V.size,V.a_++[no],B,V.next⟩ D X->aj (dK X) w w'->x w'):
  ∃C E,(XL q:XU)=some ⟨C,E,none⟩/\∃(i:XU) (t u:Nat),w.cell? ⟨C,E+2,none⟩=some (.slice i t u)/\
   PA w (.cells #[QH no] 3) λR=>aG XG (Builtin.append_ #[27,27] 27 #[.slice i t u,.slice (XL w.heap.size) 1 1]) R (λS T=>
    ∃(d:XU) (F j:Nat),S= .slice d F j/\∃H I,(XL q:XU)=some ⟨H,I,none⟩/\PS T ⟨H,I+2,none⟩ (.slice d F j) λU=>
     ∃J K,(XL q:XU)=some ⟨J,K,none⟩/\PS U ⟨J,K+3,none⟩ (QH B) x) m:=by
 obtain⟨G,W,c,e⟩:=id h;obtain⟨i,t,u,a0,L,f,g⟩:=c.body;have a9:=c.aE q c.self;refine⟨q,0,rfl,_,_,_,ae L rfl,PA.mk λw1 k s1 Y=>?_⟩;refine kj (f.af k) q_ (D:=(·=w.heap.size)) (Row.lit Y [no] rfl (λa1 l=>by simp at l;subst l;exact O) (by unfold aS;simp)) (λP b=>⟨oM,λZ=>by have:=f.aE P (f.self P Z);omega⟩) (by unfold aS;simp;omega) (by unfold maxLen;simp;omega) λd j w2 F' n o _ v=>?_
 replace n:=n.alone
 have a7:¬aI i=some q:=λb=>(g q (f.self q b)).2 rfl;have g2:=o.get (k.get L id) a7;have z2:=o.size;have y:¬aI d=some q:=λb=>by
  rcases v q b with h|h
  ·exact(g q h).2 rfl
  ·omega
 refine⟨_,_,_,rfl,q,0,rfl,PS.mk g2 sM λw3 z s3 g3=>⟨q,0,rfl,PS.mk g3 sM λr A s4 g4=>s r ?_ ?_⟩⟩
 ·have a8:aj (λP=>aI i=some P\/P=q) w1 r:=((o.mono λP _ a=>.inl a).then (z.mono λP _ a=>.inr a)).then (A.mono λP _ a=>.inr a)
  have kG:aj G w r:=(ai.keep k).then (a8.mono λP _ a=>a.elim (λh=>(g P (f.self P h)).1) λh=>h▸c.self);have M:∀P,aI d=some P->P<r.heap.size:=λP a=>by have:=n.aE P a;omega
  refine⟨λP=>P=q\/aI d=some P,W.fB kG (λP a=>⟨.inr a,(e P a).1⟩) λP a=>?_,⟨⟨d,_,j,(λP=>aI d=some P),g4,?_,λP a=>⟨.inr a,λb=>y (b▸a)⟩⟩,.inl rfl,?_,by simpa using Q,c.zl⟩,?_⟩
  ·rcases a with a|rfl|a
   ·exact⟨.inl (.inl a),by have:=h.aE P a;omega⟩
   ·exact⟨.inl (.inr c.self),oM⟩
   ·refine⟨?_,M P a⟩
    rcases v P a with h|h
    ·exact .inl (.inr (g P h).1)
    ·exact .inr oM
  ·exact(n.keep z λP a b=>y (b▸a)).keep A λP a b=>y (b▸a)
  ·rintro P (rfl|a)
   ·omega
   ·exact M P a
  ·rintro P (rfl|a)
   ·exact e _ c.self
   ·rcases v P a with N|N
    ·exact e P (g P N).1
    ·exact⟨by have:=h.gr.size;omega,λl=>by have:=h.aE P l;omega⟩
 ·refine(((ai.keep k).then (o.mono λP _ a=>?_)).then (z.mono λP _ a=>?_)).then (A.mono λP _ a=>?_)
  ·exact(e P (g P (f.self P a)).1).2
  ·exact(e P (a▸c.self)).2
  ·exact(e P (a▸c.self)).2
def SD{j P:Nat}(a:j<=64)(b:P<=j*262144):P<=16777216:=oM
def QI(w0 w:World)(p q:Nat)(X:XM)(P:nh)(e:Value)(w':World):Prop:=
 ∃b c d G,e= .tuple #[.slice b c d,QH P.no]/\aV py 55 G w' b c d P.out/\cy w0 w' p q P.V P.D (λa=>X a\/G a)/\aj (dK X) w w'/\(∀a,G a->w.heap.size<=a)/\P.out.length<=16777216
def OD{k:List Int}(C:Laid w0)(h:cy w0 w p q V D X)(Q:Row aM 8 w f d a k)(c2:∀P,f P->X P)(f3:V.a_.length+k.length<=64):
  ZH 137 #[XP q,.agg #[.slice d a c]] w (Ok (QI w0 w p q X (cM k [] V D))):=by
 have m:=Q.len;have R:=h.aE;have f7:=h.gr.size;refine sI (PA.mk λw1 S s1 g1=>⟨_,_,_,ae g1 rfl,λT U W Y Z w'=>∃(g:Nat) (i:dm) (e:List ah) (G:XM),Z=g/\g<=k.length/\T=k.length-g/\cM k [] V D=cM (k.drop g) e i D/\i.a_.length=V.a_.length+g/\e.length<=g*262144/\
  aV py 55 G w' U W Y e/\cy w0 w' p q i D (λP=>X P\/G P)/\aj (dK X) w w'/\∀P,G P->w.heap.size<=P,
  ⟨_,0,V,[],λ_=>False,rfl,Qj _,rfl,rfl,rfl,Qj _,aV.nil w1,(h.af S).mono λP b=>b.elim id λh=>h.elim,ai.keep S,λ_ h=>h.elim⟩,?_⟩)
 rintro T U W Y Z _ w2 ⟨g,i,e,G,rfl,hj,rfl,a4,g0,a0,n,hN,s,u⟩;rw[a4];refine al.dec (λg2=>?_) (λg3=>?_)
 rotate_left
 ·obtain rfl:g=k.length:=oM
  rw[List.drop_of_length_le (Q4 _)];exact Ok.mk ⟨_,_,_,G,rfl,n,hN,s,u,SD oM a0⟩
 obtain⟨P,E,no,rfl,o,j,F⟩:=(Q.keep s λP b m=>m (c2 P b)).lq (i:=g) oM;have a2:k.drop g=no::k.drop (g+1):=by
  obtain⟨c4,rfl⟩:=Qv.1 o;exact X4 c4
 rw[a2]at a4⊢;refine⟨P,E,rfl,oM,oM,no,F,λw3 d3=>?_⟩;have k3:ai w2 w3:=d3.keep;have H:=hN.af k3;obtain⟨G3,c8,d0,g4⟩:=id H;obtain⟨a3,n3,c3,E3,d1,-,-,-⟩:=d0.row;refine⟨λ_=>False,q,0,rfl,id,_,ae d1 rfl,PC.ok (jj (C.af H.gr) j) ?_⟩;rintro _ w4 ⟨rfl,z⟩;have d2:=H.af z;refine⟨_,rfl,z,PC.ok ((c8.af z).read (k:=ax no)) ?_⟩;rintro _ w5 ⟨a5,n5,c5,F5,rfl,d4,g5,-,I⟩;have v:=d2.af I;have x:ai w2 w5:=(k3.then z).then I;have g6:=d4.len dC;have g7:=GJ v.ok (ax no);refine⟨_,_,_,_,rfl,I,al.dQ (λd5=>?_) (λhe=>?_)⟩
 ·rw[show cM (no::k.drop (g+1)) e i D=⟨0,e,i,D⟩ by unfold cM;rw[Zx d5]]
  exact Ok.mk ⟨_,_,_,G,rfl,n.af x,v,s.af x,u,SD oM a0⟩
 obtain⟨G5,d6,d7,g8⟩:=id v;obtain⟨g9,h0,h2,E5,d8,-,-,-⟩:=d7.row;obtain⟨a7,e0,-,-,-⟩:=id d6;refine⟨q,0,rfl,_,ae d8 rfl,PC.ok (OE (C.af v.gr) e0 j) ?_⟩;rintro _ w6 ⟨a6,n6,c6,F6,rfl,t,J,K,a8⟩;have e1:cy w0 w6 p q i D (λP=>(X P\/G P)\/F6 P):=v.add J λP b=>⟨K P b,t.aE P b⟩
 have b0:=x.then J;have e2:=n.aE;generalize e3:bC (D.read (cz (aw no))).1=sl at t a8;obtain⟨l,r⟩:=sl;dsimp only at t a8;have a1:bC (D.read (ax no)).1=(l,r):=e3;have b1:Row py 96 w6 F6 a6 n6 l:=t.row dC ba;refine⟨_,_,_,_,rfl,yi (n.af b0) E_ b1 (λL=>t.LF L) (λP b=>⟨t.aE P b,λF=>by have:=e2 P (n.self P F);have:=K P b;have:=x.size;omega⟩) ba (by unfold maxLen;omega) λa9 c7 w7 A b2 M b3 _=>?_⟩;have h3:=x.size;have z6:=J.size;have b4:=b2.aE;have e4:cy w0 w7 p q i D (λP=>X P\/A P):=e1.fB M (λP b=>⟨.inl (.inr (n.self P b)),by have:=u P (n.self P b);omega⟩) λP b=>by
  rcases b with b|b
  ·exact⟨.inl (.inl (.inl b)),by have:=R P b;have:=s.size;have:=M.size;omega⟩
  ·refine⟨?_,b4 P b⟩
   rcases b3 P b with h|h|h
   ·exact .inl (.inl (.inr h))
   ·exact .inl (.inr h)
   ·exact .inr h
 have e5:aj (dK X) w w7:=(s.af b0).then (M.mono λP _ b o=>by have:=u P (n.self P b);have:=R P o;omega);have b5:∀P,A P->w.heap.size<=P:=λP b=>by
  have:=s.size;rcases b3 P b with h|h|h
  ·exact u P h
  ·have:=K P h;omega
  ·omega
 refine⟨_,_,_,rfl,OC e4 j oM λw8 b6 k8=>?_⟩;have b7:aj (dK X) w w8:=e5.then (k8.mono λP _ b o=>b (.inl o));have b8:=b2.keep k8 λP b m=>m (.inr b);refine al.dec (λf5=>?_) (λf6=>?_)
 ·rw[show cM (no::k.drop (g+1)) e i D=⟨(D.mq (ax no) r).1,e++l,⟨i.size,i.a_++[no],r,i.next⟩,(D.mq (ax no) r).2⟩ by
   unfold cM;rw[a1,Zq (by simpa using he),Zx (by show r<_;omega)]]
  intro w9 d9;have N:ai w8 w9:=d9.keep;have b9:=b6.af N;obtain⟨G9,e6,O,e7⟩:=id b9;obtain⟨c9,n9,f0,E9,e8,-,-,-⟩:=O.row;refine⟨λP=>P≠q,q,0,rfl,λhs=>hs rfl,_,ae e8 rfl,PC.ok (jj (C.af b9.gr) j) ?_⟩;rintro _ e9 ⟨rfl,y⟩;refine⟨_,rfl,y.keep,PC.ok ((e6.af y).mq (k:=ax no)) ?_⟩;rintro _ f2 ⟨rfl,c0,B⟩;have c1:aj (dK X) e9 f2:=B.mono λP _ b o=>b (.inl (.inl o));refine⟨_,rfl,B.mono λP _ b L=>b (.inr (L▸O.self)),Ok.mk ⟨_,_,_,A,rfl,?_,⟨G9,c0,(O.af y).keep B λP b m=>m (.inr b),e7⟩,((b7.af N).af y).then c1,b5,?_⟩⟩
  ·exact((b8.af N).af y).keep B λP b m=>m (.inl (.inr b))
  ·exact SD (j:=g+1) oM bc
 ·refine⟨_,?_,g+1,⟨i.size,i.a_++[no],r,i.next⟩,e++l,A,an oM,oM,rfl,?_,by simp;omega,by simp;omega,b8,b6,b7,b5⟩
  ·omega
  ·conv=>lhs;unfold cM
   rw[a1,Zq (by simpa using he),Zq (by show¬r<_;omega)]
end
def dE(D:ak)(P:Int):dm:=⟨P,[],0,gK D⟩
def told(D:ak):List Int:=(du D).getD []
def fE(a:Nat)(P:nh):nh:=
 if P.no≠0 then P else
 if P.V.a_=[]then⟨(aK P.V P.D).1,P.out,(aK P.V P.D).2.1,(aK P.V P.D).2.2⟩else
 if P.V.a_.length<a then⟨(bw P.D P.V.a_).1,P.out,P.V,(bw P.D P.V.a_).2⟩else P
def aR(D:ak)(P:Int):nh:=fE (told D).length (cM (told D) [] (dE D P) D)
def QL(f c:World)(g:Nat)(d:XM)(P:nh)(h:Value)(a:World):Prop:=
 (P.no≠0/\h= .tuple #[.pointer none,.slice none 0 0,QH P.no]/\aZ f a g P.D d/\aj (dK d) c a)\/
 (P.no=0/\∃e i j k G,h= .tuple #[XP e,.slice i j k,QH 0]/\aV py 55 G a i j k P.out/\cy f a g e P.V P.D (λb=>d b\/G b)/\aj (dK d) c a/\(∀b,G b->c.heap.size<=b)/\c.heap.size<=e/\P.out.length<=16777216)
def Gb{D:ak}{size:Int}(s:Laid b)(i:aZ b k a D f):
  ZH 74 #[XP a,QH size] k (Ok (QL b k a f (aR D size))):=by
 have S:∀P,f P->P<k.heap.size:=by obtain⟨a0,h1,h2,h3,h4⟩:=i;exact h4
 have d0:=i.gr.size;obtain⟨a0,hF,-,-,-⟩:=id i;refine Bn (PC.ok (GS (s.af i.gr) hF) ?_);rintro _ e ⟨rfl,F⟩;have T:=i.af F;have d1:=qs D.list;refine⟨_,rfl,PA.mk λw2 U s2 g2=>PC.ok ((T.af U).h_ s.mQ) ?_⟩;rintro _ t ⟨x,y,V,z,rfl,W,X,-,H⟩;have z1:=F.size;have z3:=H.size
 change aV aM 3 z t x y V (told D)at W
 have d2:(told D).length<=64:=Cb;have b4:ai e t:=U.then H;refine⟨_,_,_,_,rfl,PA.mk λw4 k4 s4 g4=>PS.mk g4 sM λl k5 s5 Y=>⟨_,_,_,ae Y rfl,?_⟩⟩;have b5:l.heap[t.heap.size]? =some (.cells #[.slice x y V] 230 (0,0)):=Y;have I:ai t l:=k4.new k5 λP c=>.inr oM;have Z:ai e l:=b4.then I;have a8:ai k l:=F.then Z;have b6:=I.get (H.get g2 id) id;have a9:=W.af I
 let J:XM:=λP=>f P\/(z P\/P=t.heap.size)
 have b7:cy b l a e.heap.size (dE D size) D J:=by
  refine⟨(·=e.heap.size),T.fB Z (Y:=λ_=>False) (λP c=>c.elim) λP c=>?_,⟨⟨none,0,0,λ_=>False,b6,aV.nil l,λ_ i=>i.elim⟩,rfl,λP c=>oM,Qj _,?_⟩,λP c=>⟨oM,λE=>?_⟩⟩
  ·rcases c with(c|c|c)|c
   ·exact⟨.inl c,by have:=S P c;omega⟩
   ·exact⟨.inr (by have:=X P c;omega),a9.aE P c⟩
   ·exact⟨.inr oM,oM⟩
   ·exact⟨.inr oM,oM⟩
  ·show aN (rC D.list);unfold aN;omega
  ·subst c
   rcases E with E|E|E
   ·have:=S _ E;omega
   ·have:=X _ E;omega
   ·omega
 have K:Row aM 8 l z x y (told D):=a9.row dC ba;refine PC.ok (OD s b7 K (λP c=>.inr (.inl c)) (by show 0+_<=_;omega)) ?_;rintro _ L ⟨a6,n6,c6,m,rfl,A,u,M,b8,b0⟩;have z5:=a8.size;have hq:k.heap.size<=e.heap.size:=z1;have N:aj (dK f) k L:=(ai.keep a8).then (M.mono λP _ c E=>c (.inl E));have g6:=M.get b5 λj=>j (.inr (.inr rfl));have b9:Row aM 8 L z x y (told D):=K.keep M λP c j=>j (.inr (.inl c));have d3:=K.len;show _;unfold aR;generalize cM (told D) [] (dE D size) D=g at A u b0;have b1:∀P,m P->k.heap.size<=P:=λP c=>by have:=b8 P c;omega
 refine⟨_,_,_,_,rfl,λno n=>∃o p,fE (told D).length g=⟨no,g.out,o,p⟩/\aV py 55 m n a6 n6 c6 g.out/\cy b n a e.heap.size o p (λP=>f P\/m P)/\aj (dK f) k n,?_,?_⟩
 ·have d:∀{n o p},cy b n a e.heap.size o p (λP=>J P\/m P)->cy b n a e.heap.size o p (λP=>f P\/m P):=λi=>i.mono λP c=>c.imp .inl id
  refine al.dQ (λq=>⟨g.V,g.D,by unfold fE;rw[Zx q],A,d u,N⟩) (λv=>?_);obtain⟨GL,c0,b2,c1⟩:=id u;obtain⟨aL,nL,cL,EL,O,b3,c2,c4⟩:=b2.row;refine⟨_,_,rfl,_,_,_,ae O rfl,al.dU (λhz=>?_) (λc5=>?_)⟩
  ·have Q:g.V.a_=[]:=QW oM
   refine PC.ok (CB s u) ?_;rintro _ B ⟨rfl,r,h⟩;exact⟨_,rfl,_,_,by unfold fE;rw[Zq (by simpa using v),Zx Q],A.keep h λP c j=>j (.inr c),d r,N.then (h.mono λP _ c E=>c (.inl (.inl E)))⟩
  ·have q:¬g.V.a_=[]:=λa1=>c5 (by rw[c4,a1];rfl)
   refine⟨_,_,rfl,_,_,_,ae O rfl,_,_,_,ae g6 rfl,λB d7=>?_⟩;have h:ai L B:=d7.keep;have r:=u.af h;have C:=A.af h;have w:aj (dK f) k B:=N.af h;refine al.dec (λd4=>?_) (λd5=>⟨_,_,by unfold fE;rw[Zq (by simpa using v),Zq q,Zq oM],C,d r,w⟩);have c7:=h.get O id;refine⟨_,_,rfl,_,_,_,ae c7 rfl,PC.ok ((c0.af h).bw s.mQ (b3.af h) (KI b3) λP c=>.inr (.inr (c2 P c).1)) ?_⟩;rintro _ w8 ⟨rfl,c8,R⟩;have c9:cy b w8 a e.heap.size g.V (bw g.D g.V.a_).2 (λP=>J P\/m P):=⟨GL,c8,(b2.af h).keep R λP c j=>j (.inr c),c1⟩
   exact⟨_,rfl,_,_,by unfold fE;rw[Zq (by simpa using v),Zq q,Zx oM],C.keep R λP c j=>j (.inl (.inr c)),d c9,w.then (R.mono λP _ c E=>c (.inl (.inl (.inl E))))⟩
 ·rintro no _ B ⟨o,p,Q,C,r,w⟩
  rw[Q];refine al.dQ (λq=>Ok.mk (.inl ⟨q,rfl,r.sO.mono λP c=>.inl c,w⟩)) (λv=>Ok.mk (.inr ⟨v,e.heap.size,a6,n6,c6,m,by rfl,C,r,w,b1,hq,b0⟩))
def eD(P:ah):Bool:=decide (64<P.aJ.length)
def aD(a:dm)(D:ak)(b:List ah):Int×dm×ak:=
 if b.any eD then(3,a,D)else if b=[]then(0,a,D)else
 let P:=if a.size<=a.bytes then aK a D else(0,a,D)
 if P.1≠0 then P else
 let c:=P.2.2.append P.2.1.last (az b)
 if c.1≠0 then(c.1,P.2.1,c.2)else(0,⟨P.2.1.size,P.2.1.a_,XH .i64 (P.2.1.bytes+((az b).length:Nat)),P.2.1.next⟩,c.2)
def rD{D:ak}(P:(aK a9 D).1=0):(aK a9 D).2.1.a_≠[]:=by
 have d:∀a:ak,(lJ a9 a).1=0->(lJ a9 a).2.1.a_≠[]:=by
  intro a;unfold lJ;dsimp only;split
  ·rename_i b;intro P;exact Zz P b
  ·split
   ·rename_i b;intro P;exact Zz P b
   ·intro _;simp
 have c:∀a:ak,(bu a9 a).1=0->(bu a9 a).2.1.a_≠[]:=by
  intro a;unfold bu;dsimp only;split
  ·rename_i b;intro P;exact Zz P b
  ·exact d _
 revert P
 unfold aK;dsimp only;split
 ·exact c D
 ·split
  ·rename_i b;intro P;exact Zz P b
  ·exact c _
def Kp(P:l.Ok)(a:l.aJ.length<=64):(mi l).length<=675:=by
 have:=Cz P a;have b:=pk P a;unfold mi at*;rw[eM];omega
def ng(P:List ah)(a:ah):az (P++[a])=az P++mi a:=by simp[az]
def Jy{D:ak}(W:Laid b)(w:cy b k a c a9 D f)(d0:a9.a_≠[])(hr:Row iC 96 k a2 d j B)(d1:∀P,a2 P->P<k.heap.size)(hl:B.length<=20000000):
  ZH 91 #[XP c,.slice d j p] k (Ok (CA b k a c f (aD a9 D B))):=by
 have A:=hr.len;have e9:=w.aE;refine qH ⟨λa6 L M X b3 x=>∃(h:Nat) (y:XM),b3=h/\h<=j/\a6=j-h/\(∀g∈B.take h,g.Ok/\g.aJ.length<=64)/\(az (B.take h)).length<=675*h/\aV fF 5 y x L M X (az (B.take h))/\ai k x/\∀P,y P->k.heap.size<=P,
  ⟨_,0,λ_=>False,rfl,Qj _,rfl,sM,by simp[az],aV.nil k,aj.refl _,λ_ w=>w.elim⟩,?_⟩
 rintro a6 L M X b3 _ Z ⟨h,y,rfl,hj,rfl,a7,d4,r,n,hF⟩;have b4:=r.len dC;refine al.dec (λd5=>?_) (λd6=>?_)
 ·obtain⟨P,a0,g,es,rfl,_,_,s,l,c0,n1,c1,rfl,hd,N⟩:=(hr.af n).BR (i:=h) oM
  have o:=λi (hi:i<10)=>l i hi;refine⟨P,a0,rfl,oM,oM,_,_,_,_,_,_,_,_,_,_,_,_,o 0 dC,o 1 dC,o 2 dC,o 3 dC,o 4 dC,o 5 dC,o 6 dC,o 7 dC,o 8 dC,o 9 dC,PA.mk λC E s2 g2=>?_⟩;refine storeAll (aF g c0 n1 c1) g2 rfl λF t s3 q=>?_;have z:ai Z F:=E.new t λP e=>.inr oM;refine⟨_,_,_,_,_,_,_,_,_,_,_,_,ae q rfl,ae q rfl,ae q rfl,ae q rfl,ae q rfl,ae q rfl,ae q rfl,ae q rfl,ae q rfl,ae q rfl,?_⟩;refine PC.ok (Cc (W.af ((w.gr.then n).then z)) (hd.af z) N λP e=>by have:=d1 P e;have:=(n.then z).size;omega) ?_;rintro _ w4 ⟨c3,n4,f0,F4,rfl,u,v,b5⟩
  by_cases O:g.aJ.length<=64
  ·have a8:=pk N O
   rw[a8]at u⊢;have f1:=Kp N O;refine⟨_,_,_,_,rfl,al.dQ (λl=>Zz rfl l) (λ_=>?_)⟩;have a1:=z.then v;have c4:Row fF 1 w4 F4 c3 n4 (mi g):=u.row (bytes:=1) dC (by unfold aS;dsimp only;omega);have f2:=a1.size;have f3:=z.size;refine yi (r.af a1) rU c4 (λg=>u.LF g) (λP e=>⟨u.aE P e,λl=>by have:=r.aE P (r.self P l);have:=b5 P e;omega⟩) ba (by unfold maxLen;omega) λb6 c5 w5 F5 b0 d7 d8 _=>?_;have b1:B.take (h+1)=B.take h++[g]:=by rw[Qw,s];rfl
   refine⟨_,_,_,rfl,j-(h+1),oM,h+1,F5,an oM,oM,rfl,?_,?_,?_,(n.then a1).new d7 λP e=>.inr (by have:=hF P (r.self P e);omega),?_⟩
   ·rw[b1]
    intro c6 a3;rcases Q6.1 a3 with Y|Y
    ·exact a7 c6 Y
    ·simp at Y;subst Y;exact⟨N,O⟩
   ·rw[b1,ng];simp;omega
   ·rw[b1,ng];exact b0
   ·intro P e
    have:=n.size;rcases d8 P e with Y|Y|Y
    ·exact hF P Y
    ·have:=b5 P Y;omega
    ·omega
  ·have a8:=wv O
   rw[a8]at u⊢;refine⟨_,_,_,_,rfl,al.dQ (λ_=>?_) (λl=>Zz l dC)⟩;have d2:B.any eD=true:=List.any_eq_true.2 ⟨g,QZ s,by unfold eD;simp;omega⟩;refine Ok.mk ?_;rw[show aD a9 D B=(3,a9,D) by unfold aD;rw[Zx d2]];have b7:=(n.then z).then v;exact⟨rfl,w.af b7,ai.keep b7⟩
 ·obtain rfl:h=j:=oM
  rw[Qz oM]at a7 d4 r b4;have b8:B.any eD=false:=by
   rw[<-Bool.not_eq_true];intro l;obtain⟨g,he,h2⟩:=List.any_eq_true.1 l;have:=(a7 g he).2;unfold eD at h2;simp at h2;omega
  refine al.dU (λhz=>?_) (λd9=>?_)
  ·have he:B=[]:=QW oM
   refine Ok.mk ?_;rw[show aD a9 D B=(0,a9,D) by unfold aD;rw[Zq (by simp[b8]),Zx he]];exact⟨rfl,w.af n,ai.keep n⟩
  have e0:B≠[]:=λg=>d9 (by rw[A,g];rfl)
  let H:XM:=λP=>f P\/y P
  have b9:cy b Z a c a9 D H:=w.add n λP e=>⟨hF P e,r.aE P e⟩
  have d3:aD a9 D B=if(if a9.size<=a9.bytes then aK a9 D else(0,a9,D)).1≠0 then(if a9.size<=a9.bytes then aK a9 D else(0,a9,D))else
    if((if a9.size<=a9.bytes then aK a9 D else(0,a9,D)).2.2.append (if a9.size<=a9.bytes then aK a9 D else(0,a9,D)).2.1.last (az B)).1≠0 then(((if a9.size<=a9.bytes then aK a9 D else(0,a9,D)).2.2.append (if a9.size<=a9.bytes then aK a9 D else(0,a9,D)).2.1.last (az B)).1,(if a9.size<=a9.bytes then aK a9 D else(0,a9,D)).2.1,((if a9.size<=a9.bytes then aK a9 D else(0,a9,D)).2.2.append (if a9.size<=a9.bytes then aK a9 D else(0,a9,D)).2.1.last (az B)).2)
    else(0,⟨(if a9.size<=a9.bytes then aK a9 D else(0,a9,D)).2.1.size,(if a9.size<=a9.bytes then aK a9 D else(0,a9,D)).2.1.a_,XH .i64 ((if a9.size<=a9.bytes then aK a9 D else(0,a9,D)).2.1.bytes+((az B).length:Nat)),(if a9.size<=a9.bytes then aK a9 D else(0,a9,D)).2.1.next⟩,((if a9.size<=a9.bytes then aK a9 D else(0,a9,D)).2.2.append (if a9.size<=a9.bytes then aK a9 D else(0,a9,D)).2.1.last (az B)).2):=by
   unfold aD;rw[Zq (by simp[b8]),Zq e0]
  obtain⟨GL,f4,e2,f5⟩:=id b9;obtain⟨aL,nL,cL,EL,gL,f6,f7,g0⟩:=e2.row;rw[d3];refine⟨λx=>∃I Q,(if a9.size<=a9.bytes then aK a9 D else(0,a9,D))=(0,I,Q)/\I.a_≠[]/\cy b x a c I Q H/\aj (dK f) k x/\aV fF 5 y x L M X (az B),?_,?_⟩
  ·refine⟨c,0,rfl,_,ae gL rfl,c,0,rfl,_,ae gL rfl,λC e1=>?_⟩
   have E:ai Z C:=e1.keep;have R:=b9.af E;have S:=r.af E;have T:aj (dK f) k C:=ai.keep (n.then E);refine al.dec (λd6=>?_) (λd5=>⟨a9,D,by rw[Zq oM],d0,R,T,S⟩);refine PC.ok (CB W R) ?_;rintro _ F ⟨rfl,J,t⟩;have c2:aj (dK f) k F:=T.then (t.mono λP _ e s=>e (.inl s));have a4:(if a9.size<=a9.bytes then aK a9 D else(0,a9,D))=aK a9 D:=Zx oM;rw[a4];refine⟨_,rfl,al.dQ (λa5=>?_) (λU=>⟨_,_,by rw[<-U],rD U,J,c2,S.keep t λP e A=>A (.inr e)⟩)⟩;rw[Zx a5];exact Ok.mk ⟨rfl,J.mono λP e=>.inl e,c2⟩
  ·rintro _ C ⟨I,Q,a4,e3,R,T,S⟩ F e4
   rw[a4];have t:ai C F:=e4.keep;have J:=R.af t;have e5:=S.af t;obtain⟨G3,e6,V,K⟩:=id J;obtain⟨f8,n3,f9,E3,e7,-,-,-⟩:=V.row;refine⟨λP=>P≠c,c,0,rfl,λhs=>hs rfl,_,ae e7 rfl,PC.ok (GU (W.af J.gr) V e3) ?_⟩;rintro _ w4 ⟨rfl,v⟩;have u:=e5.af v;have e8:Row fF 1 w4 y L M (az B):=u.row (bytes:=1) dC ba;refine⟨_,rfl,v.keep,PC.ok ((e6.af v).append e8 (λg=>u.LF g) λP e=>.inr (.inl (.inr e))) ?_⟩;rintro _ w5 ⟨rfl,b2,k5⟩;have m:=(V.af v).keep k5 λP e A=>A (.inr e);have c7:aj (dK f) k w5:=((T.af t).af v).then (k5.mono λP _ e s=>e (.inl (.inl s)));refine⟨_,rfl,k5.mono λP _ e g=>e (.inr (g▸V.self)),?_⟩;rw[Zq (λl:((0,I,Q):Int×dm×ak).1≠0=>l rfl)];refine al.dQ (λa5=>?_) (λU=>?_)
   ·rw[Zx a5]
    exact Ok.mk ⟨rfl,cy.mono (X:=H) ⟨G3,b2,m,K⟩ λP e=>.inl e,c7⟩
   ·rw[Zq (by simpa using U)]
    obtain⟨b6,n5,c5,E5,c8,b0,c9⟩:=m.body;refine⟨c,0,rfl,_,ae c8 rfl,c,0,rfl,PS.mk c8 sM λw6 k6 s6 g6=>Ok.mk ⟨rfl,?_,c7.then (k6.mono λP _ e s=>(K P (e▸m.self)).2 (.inl s))⟩⟩;rw[b4]at g6;refine cy.mono (X:=H) ⟨G3,b2.fB k6 (λP e=>⟨.inr (e▸m.self),(K P (e▸m.self)).1⟩) (λP e=>⟨.inl e,by have:=(e.elim (cy.aE (X:=H) ⟨G3,b2,m,K⟩ P) (m.aE P):P<w5.heap.size);omega⟩),⟨⟨b6,n5,c5,E5,g6,b0.keep k6 λP e g=>(c9 P e).2 g,c9⟩,m.self,λP e=>by have:=m.aE P e;omega,m.many,m.zl⟩,K⟩ λP e=>.inl e
def dI(P:List UInt8):bL:=⟨P,P.length,true⟩
structure bS (D:ak):Prop where
 dead:D.dead=false
 iI:D.iI=false
section
variable {D E:ak} {k:ByteArray} {l:List Int}
def zu(D:ak)(P:ak->Int×ak):D.op P=(15,D.gone)\/D.op P=P D.cQ:=by
 unfold ak.op;split
 ·exact .inl rfl
 ·exact .inr rfl
def bS.op(a:bS D)(P:ak->Int×ak):D.op P=P D:=by
 unfold ak.op ak.dies ak.cQ;rw[a.dead,a.iI]
 rfl
def bS.same(P:bS D)(a:E.dead=D.dead)(b:E.iI=D.iI):bS E:=⟨a.trans P.dead,b.trans P.iI⟩
def NH(P:bL):P.cut P.bytes.length=dI P.bytes:=by
 have a:gw (P.bytes.length:Int) P.bytes.length=P.bytes.length:=by unfold gw;omega
 simp[bL.cut,a,dI]
def jZ(D:ak)(k:ByteArray):((D.create k).1≠0/\(D.create k).2.files=D.files)\/((D.create k).1=0/\cV k=true/\aq D.files k=none/\(D.create k).2.files=aH D.files k ⟨[],0,false⟩):=by
 unfold ak.create;rcases zu D λD=>if cV k then(if(aq D.files k).isSome then(16,D)else if 64<=D.files.length then(12,D)else(0,D.fv k ⟨[],0,false⟩))else(1,D)with h|h
 ·rw[h];exact .inl ⟨sM,rfl⟩
 ·rw[h]
  have P:=eh D;split
  ·rename_i a
   split
   ·exact .inl ⟨sM,P⟩
   ·split
    ·exact .inl ⟨sM,P⟩
    ·rename_i b _
     refine .inr ⟨rfl,a,?_,?_⟩
     ·rw[<-P];simpa using b
     ·show aH D.cQ.files k _=_;rw[P]
  ·exact .inl ⟨sM,P⟩
def bS.create(P:bS D)(k:ByteArray):bS (D.create k).2/\(cV k=true->aq D.files k=none->(D.create k).1=0\/(D.create k).1=12):=by
 unfold ak.create;rw[P.op];split
 ·split
  ·rename_i d b;exact⟨P,λ_ a=>by rw[a]at b;cases b⟩
  ·split
   ·exact⟨P,λ_ _=>.inr rfl⟩
   ·exact⟨P.same rfl rfl,λ_ _=>.inl rfl⟩
 ·rename_i a;exact⟨P,λc=>Zz c a⟩
def tV(D:ak)(k:ByteArray)(P:ak->bL->Int×ak):((D.op (ak.zv k P)).1≠0/\(D.op (ak.zv k P)).2.files=D.files)\/∃a,aq D.files k=some a/\D.op (ak.zv k P)=P D.cQ a:=by
 rcases zu D (ak.zv k P)with h|h
 ·rw[h];exact .inl ⟨sM,rfl⟩
 ·rw[h]
  unfold ak.zv;rw[eh];split
  ·exact .inl ⟨sM,eh D⟩
  ·rename_i a b;exact .inr ⟨a,b,rfl⟩
def bS.on(a:bS D)(b:aq D.files k=some U)(P:ak->bL->Int×ak):D.op (ak.zv k P)=P D U:=by
 rw[a.op];unfold ak.zv;rw[b]
def bS.Uz(a:bS D){P:ak->bL->Int×ak}(b:∀c,bS (P D c).2):bS (D.op (ak.zv k P)).2:=by
 rw[a.op];unfold ak.zv;split
 ·exact a
 ·exact b _
def mR(D:ak)(k:ByteArray)(a:List UInt8):((D.append k a).1≠0/\(D.append k a).2.files=D.files)\/((D.append k a).1=0/\∃P,aq D.files k=some P/\(D.append k a).2.files=aH D.files k {P with bytes:=P.bytes++a}):=by
 unfold ak.append;rcases tV D k λD P=>if(a.length:Int)>D.room then(12,D)else(0,D.fv k {P with bytes:=P.bytes++a})with b|⟨P,c,b⟩
 ·exact .inl b
 ·rw[b]
  split
  ·exact .inl ⟨sM,eh D⟩
  ·exact .inr ⟨rfl,P,c,by show aH D.cQ.files k _=_;rw[eh]⟩
def bS.append(P:bS D)(k:ByteArray)(a:List UInt8):bS (D.append k a).2/\∀b,aq D.files k=some b->(D.append k a).1=0\/(D.append k a).1=12:=by
 refine⟨?_,λb c=>?_⟩
 ·unfold ak.append
  refine P.Uz λb=>?_;split
  ·exact P
  ·exact P.same rfl rfl
 ·unfold ak.append
  rw[P.on c];split
  ·exact .inr rfl
  ·exact .inl rfl
def lY(D:ak)(k:ByteArray):((D.sync k).1≠0/\(D.sync k).2.files=D.files)\/((D.sync k).1=0/\∃P,aq D.files k=some P/\(D.sync k).2.files=aH D.files k (dI P.bytes)):=by
 unfold ak.sync;rcases tV D k λD P=>(0,D.fv k (P.cut P.bytes.length))with a|⟨P,b,a⟩
 ·exact .inl a
 ·rw[a,NH];exact .inr ⟨rfl,P,b,by show aH D.cQ.files k _=_;rw[eh]⟩
def bS.sync(P:bS D)(k:ByteArray):bS (D.sync k).2/\∀a,aq D.files k=some a->(D.sync k).1=0:=by
 refine⟨?_,λa b=>?_⟩
 ·unfold ak.sync;exact P.Uz λa=>P.same rfl rfl
 ·unfold ak.sync;rw[P.on b]
def bS.mq(a:bS D)(b:aq D.files k=some U)(P:Int):(D.mq k P).1=0/\(D.mq k P).2=D.fv k (U.cut P)/\bS (D.mq k P).2:=by
 unfold ak.mq;rw[a.on b];exact⟨rfl,rfl,a.same rfl rfl⟩
def iO(D:ak)(k:ByteArray):(D.delete k).2.files=D.files\/(D.delete k).2.files=bI D.files k:=by
 unfold ak.delete;rcases tV D k λD a=>(0,D.tW k)with P|⟨a,b,P⟩
 ·exact .inl P.2
 ·rw[P];exact .inr (by show bI D.cQ.files k=_;rw[eh])
def bS.delete(P:bS D)(k:ByteArray):bS (D.delete k).2/\((D.delete k).2.files=bI D.files k\/(aq D.files k=none/\(D.delete k).2.files=D.files)):=by
 unfold ak.delete;refine⟨P.Uz λb=>P.same rfl rfl,?_⟩;rw[P.op];unfold ak.zv;split
 ·rename_i a;exact .inr ⟨a,rfl⟩
 ·exact .inl rfl
def r_(k:ByteArray)(D E:ak):Prop:=Tidy E.files/\∀P,P≠k->aq E.files P=aq D.files P
def r_.refl(P:Tidy D.files):r_ k D D:=⟨P,λ_ _=>rfl⟩
def r_.of(P:r_ k D E){a:ak}(b:a.files=E.files):r_ k D a:=⟨by rw[b];exact P.1,λc d=>by rw[b];exact P.2 c d⟩
def r_.put(P:r_ k D E){a:ak}(b:a.files=aH E.files k U):r_ k D a:=⟨by rw[b];exact P.1.aH _ _,λd c=>by rw[b,bz,Zq (by simpa using c)];exact P.2 d c⟩
def r_.del(P:r_ k D E){F:ak}(a:F.files=bI E.files k):r_ k D F:=⟨by rw[a];exact P.1.bI _,λc b=>by rw[a,fD P.1,Zq (by simpa using b)];exact P.2 c b⟩
def r_.clean(P:r_ aP D E):r_ aP D (d_ E).2:=by
 unfold d_;split
 ·rcases iO E aP with e|e
  ·exact P.of e
  ·exact P.del e
 ·exact P
def yh:aP≠bO:=λP=>by have:=tn;rw[P]at this;simp at this
def PU(D:ak)(l:List Int)(P:Int×ak):Prop:=(P.1≠0/\r_ aP D P.2)\/
  (P.1=0/\l.length<=64/\Tidy P.2.files/\aq P.2.files bO=some (dI (bJ l))/\∀a,a≠aP->a≠bO->aq P.2.files a=aq D.files a)
def PU.step{a k:Nat}{r:Int×ak}(g:nN l a E=r)(b:r.1≠0->r_ aP D r.2)(c:r.1=0->PU D l (ni l (a+1) k r.2)):PU D l (ni l a (k+1) E):=by
 rw[ni,g];split
 ·rename_i P;exact .inl ⟨P,(b P).clean⟩
 ·rename_i P;exact c (by simpa using P)
def Il(o:Tidy D.files)(l:List Int):PU D l (bw D l):=by
 unfold bw;split
 ·exact .inl ⟨sM,r_.refl o⟩
 rename_i z;have i:r_ aP D (d_ D).2:=(r_.refl o).clean;refine PU.step (r:=d_ D) rfl (λ_=>i) λ_=>?_;generalize(d_ D).2=e at i;have B:=jZ e aP;refine PU.step (r:=e.create aP) rfl (λd=>?_) λu=>?_
 ·rcases B with B|B
  ·exact i.of B.2
  ·exact Zz B.1 d
 rcases B with B|⟨_,_,_,B⟩
 ·exact Zz u B.1
 have k:r_ aP D (e.create aP).2:=i.put B;have p:aq (e.create aP).2.files aP=some ⟨[],0,false⟩:=by rw[B,bz];simp
 generalize(e.create aP).2=f at k p;have b:=mR f aP (bJ l);refine PU.step (r:=f.append aP (bJ l)) rfl (λd=>?_) λv=>?_
 ·rcases b with b|b
  ·exact k.of b.2
  ·exact Zz b.1 d
 rcases b with b|⟨_,j,c,b⟩
 ·exact Zz v b.1
 rw[p]at c;cases c
 have m:r_ aP D (f.append aP (bJ l)).2:=k.put b;have q:aq (f.append aP (bJ l)).2.files aP=some ⟨bJ l,0,false⟩:=by rw[b,bz];simp
 generalize(f.append aP (bJ l)).2=g at m q;have F:=lY g aP;refine PU.step (r:=g.sync aP) rfl (λd=>?_) λw=>?_
 ·rcases F with F|F
  ·exact m.of F.2
  ·exact Zz F.1 d
 rcases F with F|⟨_,j,c,F⟩
 ·exact Zz w F.1
 rw[q]at c;cases c
 have h:r_ aP D (g.sync aP).2:=m.put F;have r:aq (g.sync aP).2.files aP=some (dI (bJ l)):=by rw[F,bz];simp
 generalize(g.sync aP).2=P at h r;have a:((P.rename aP bO).1≠0/\(P.rename aP bO).2.files=P.files)\/((P.rename aP bO).1=0/\(P.rename aP bO).2.files=aH (bI P.files aP) bO (dI (bJ l))):=by
  unfold ak.rename;rcases tV P aP λD j=>if cV bO then(0,(D.tW aP).fv bO {j with iS:=true})else(1,D)with n|⟨j,c,n⟩
  ·exact .inl n
  ·rw[n,Zx Gh]
   rw[r]at c;cases c
   exact .inr ⟨rfl,by show aH (bI P.cQ.files aP) bO _=_;rw[eh];rfl⟩
 refine PU.step (r:=P.rename aP bO) rfl (λd=>?_) λx=>?_
 ·rcases a with a|a
  ·exact h.of a.2
  ·exact Zz a.1 d
 rcases a with a|⟨_,a⟩
 ·exact Zz x a.1
 refine .inr ⟨rfl,oM,?_,?_,λs t y=>?_⟩
 ·show Tidy (P.rename aP bO).2.files;rw[a];exact(h.1.bI _).aH _ _
 ·show aq (P.rename aP bO).2.files bO=_;rw[a,bz];simp
 ·show aq (P.rename aP bO).2.files s=_
  rw[a,bz,Zq (by simpa using y),fD h.1,Zq (by simpa using t)];exact h.2 s t
def PV(P:Int×ak):Prop:=bS P.2/\(P.1=0\/P.1=3\/P.1=12)
def bS.clean(P:bS D):bS (d_ D).2:=by
 unfold d_;split
 ·exact(P.delete _).1
 ·exact P
def IK(b:bS D)(P:Tidy D.files):(d_ D).1=0/\aq (d_ D).2.files aP=none/\Tidy (d_ D).2.files:=by
 unfold d_;split
 ·rename_i a
  obtain⟨e,c⟩:=Option.isSome_iff_exists.1 a;have d:D.delete aP=(0,D.tW aP):=by unfold ak.delete;rw[b.on c]
  rw[d];exact⟨rfl,by show aq (bI _ _) _=_;rw[fD P];simp,P.bI _⟩
 ·rename_i a;exact⟨rfl,by simpa using a,P⟩
def PV.step{P k:Nat}{r:Int×ak}(g:nN l P E=r)(a:bS r.2)(b:r.1=0\/r.1=3\/r.1=12)(c:r.1=0->PV (ni l (P+1) k r.2)):PV (ni l P (k+1) E):=by
 rw[ni,g];split
 ·exact⟨a.clean,b⟩
 ·rename_i d;exact c (by simpa using d)
def bS.bw(i:bS D)(s:Tidy D.files)(l:List Int):PV (bw D l):=by
 unfold Go.Proofs.YtblabbpipmodgaaGreatDoor.bw;split
 ·exact⟨i,.inr (.inl rfl)⟩
 obtain⟨z1,p,t⟩:=IK i s;have j:=i.clean;refine PV.step (r:=d_ D) rfl j (.inl z1) λ_=>?_;generalize(d_ D).2=e at j p t;have P:=jZ e aP;obtain⟨k,u⟩:=j.create aP;refine PV.step (r:=e.create aP) rfl k ((u PW p).imp id .inr) λv=>?_;rcases P with P|⟨_,_,_,P⟩
 ·exact Zz v P.1
 have q:aq (e.create aP).2.files aP=some ⟨[],0,false⟩:=by rw[P,bz];simp
 generalize(e.create aP).2=f at k q;have a:=mR f aP (bJ l);obtain⟨m,w⟩:=k.append aP (bJ l);refine PV.step (r:=f.append aP (bJ l)) rfl m ((w _ q).imp id .inr) λx=>?_;rcases a with a|⟨_,b,A,a⟩
 ·exact Zz x a.1
 have g:∃b,aq (f.append aP (bJ l)).2.files aP=some b:=by rw[a,bz];simp
 generalize(f.append aP (bJ l)).2=h at m g;obtain⟨B,g⟩:=g;have c:=lY h aP;obtain⟨d,y⟩:=m.sync aP;refine PV.step (r:=h.sync aP) rfl d (.inl (y _ g)) λz=>?_;rcases c with c|⟨_,b,C,c⟩
 ·exact Zz z c.1
 have r:aq (h.sync aP).2.files aP=some (dI b.bytes):=by rw[c,bz];simp
 generalize(h.sync aP).2=n at d r;have o:n.rename aP bO=(0,(n.tW aP).fv bO {dI b.bytes with iS:=true}):=by
  unfold ak.rename;rw[d.on r,Zx Gh]
 refine PV.step (r:=n.rename aP bO) rfl (by rw[o];exact d.same rfl rfl) (.inl (by rw[o])) λE=>?_;rw[o];exact⟨d.same rfl rfl,.inl rfl⟩
def LJ{l:List (ByteArray×bL)}(b:Tidy l)(c:bL->Bool)(e:bL->bL)(k:ByteArray):
  aq ((l.filter λP=>c P.2).map λP=>(P.1,e P.2)) k=(aq l k).bind λg=>if c g then some (e g)else none:=by
 induction l with
 |nil=>rfl
 |cons m l f=>
  obtain⟨P,h⟩:=m;unfold Tidy at b f;simp only[QY,List.nodup_cons]at b;rw[List.filter_cons]
  by_cases i:(k==P)=true
  ·have n:k=P:=eq_of_beq i
   subst n;have o:aq ((l.filter λP=>c P.2).map λP=>(P.1,e P.2)) k=none:=by
    rw[mr];intro j;apply b.1;simp only[List.map_map,Xk,List.mem_filter]at j⊢;obtain⟨p,⟨q,_⟩,r⟩:=j;exact⟨p,q,r⟩
   by_cases a:c h=true
   ·simp[a,aq]
   ·rw[Zq (by simpa using a),o];simp[a,aq]
  ·have d:(k==P)=false:=by simpa using i
   by_cases a:c h=true
   ·simp only[a,if_true,QY,aq,d,Bool.false_eq_true,if_false]
    exact f b.2
   ·rw[Zq (by simpa using a)]
    simp only[aq,d,Bool.false_eq_true,if_false];exact f b.2
def Cf(b:Tidy D.files)(a:Int)(k:ByteArray):aq (D.dV a).files k=(aq D.files k).bind λP=>if P.iS then some (qU a P)else none:=
 LJ b (λP=>P.iS) (qU a) k
def IL(b:Tidy D.files)(a:Int):Tidy (D.dV a).files:=by
 show(((D.files.filter λP=>P.2.iS).map λP=>(P.1,qU a P.2)).map (·.1)).Nodup;rw[List.map_map];exact(pq b λP=>P.2.iS)
def Gi(D:ak)(P:Int):bS (D.dV P):=⟨rfl,rfl⟩
def Cg(b:Int)(P:List UInt8)(d:a<=P.length):∃c,a<=c/\c<=P.length/\qU b ⟨P,a,true⟩=dI (P.take c):=by
 refine⟨gw (DT b ⟨P,a,true⟩) P.length,?_,mu _ _,?_⟩
 ·unfold gw DT;simp only;omega
 ·have:=mu (DT b ⟨P,a,true⟩) P.length
  unfold qU bL.cut dI;simp only[Qy,X2 this]
def sK(a:Tidy D.files)(P:Int){k:ByteArray}(b:aq D.files k=some (dI s)):aq (D.dV P).files k=some (dI s):=by
 rw[Cf a,b];obtain⟨d,e,f,c⟩:=Cg P s (Q4 _);show(if true then some (qU P ⟨s,s.length,true⟩)else none)=_;rw[c,Qz oM];rfl
end
abbrev nZ:=List (Int×List ah)
def cT(P:nZ):List Int:=P.map (·.1)
def cj(P:nZ)(a:List ah):List ah:=(P.map (·.2)).flatten++a
structure cH (D:ak) (A:nZ) (no:Int) (l:List ah) (k:Nat):Prop where
 tidy:Tidy D.files
 full:∀x∈A,aq D.files (ax x.1)=some (dI (az x.2))
 last:∃s,aq D.files (ax no)=some ⟨az l,s,true⟩/\(az (l.take k)).length<=s/\s<=(az l).length
 kl:k<=l.length
 Td:aq D.files bO=some (dI (bJ (cT A++[no])))
 yd:∀n∈cT A++[no],1<=n/\n<1000000000000
 Dz:(cT A++[no]).Pairwise (·<·)
 evs:∀e∈cj A l,e.Ok/\e.aJ.length<=64
 many:A.length+1<=64
structure ES (V:dm) (A:nZ) (no:Int) (l:List ah):Prop where
 a_:V.a_=cT A++[no]
 bytes:V.bytes=((az l).length:Nat)
 next:no<V.next/\V.next<=1000000000000
def eV{n:Int}(d:cV (ax n)=true\/0<=n/\n<1000000000000):ax n≠bO/\ax n≠aP:=by
 have b:bO.data.toList.take 4≠dy:=by decide+kernel
 have c:aP.data.toList.take 4≠dy:=by decide+kernel
 have P:(ax n).data.toList.take 4=dy\/(ax n).data.toList=[]:=by
  unfold ax;rw[mE];unfold aw;split
  ·exact .inr rfl
  ·exact .inl (by simp[dy])
 refine⟨λa=>?_,λa=>?_⟩
 ·rw[a]at P
  rcases P with P|P
  ·exact b P
  ·revert P;decide+kernel
 ·rw[a]at P
  rcases P with P|P
  ·exact c P
  ·revert P;decide+kernel
def qm{a P:Int}(b:0<=a/\a<1000000000000)(c:ax P=ax a):P=a:=GW b.1 b.2 (KJ c)
def rZ(a:0<=e):cV (ax e)=true↔e<1000000000000:=by
 constructor
 ·intro P
  by_cases b:e<1000000000000
  ·exact b
  ·have:ax e=cz []:=by unfold ax aw;rw[Zx (.inr oM)]
   have c:cV (cz [])=false:=by decide+kernel
   rw[this,c]at P;cases P
 ·intro P;exact GX a P
def i_(P:List ah)(a:Nat):(az (P.take a)).length<=(az P).length:=by
 have b:=ZX a P
 conv=>rhs;rw[<-b,fI,QX]
 omega
def Ao(P:nZ)(no:Int)(a b:List ah):cj (P++[(no,a)]) b=cj P a++b:=by simp[cj]
section
variable {D E:ak} {A:nZ} {no:Int} {l x:List ah} {k j:Nat} {V:dm}
def cH.same(P:cH D A no l k)(d:Tidy E.files)(a:∀b∈cT A++[no],aq E.files (ax b)=aq D.files (ax b))(e:aq E.files bO=aq D.files bO):cH E A no l k:=
 ⟨d,λx c=>(a x.1 (ZV _ (Xk.2 ⟨x,c,rfl⟩))).trans (P.full x c),by
  obtain⟨f,g,h⟩:=P.last;exact⟨f,(a no (ZW _ (List.mem_singleton.2 rfl))).trans g,h⟩,P.kl,e.trans P.Td,P.yd,P.Dz,P.evs,P.many⟩
def cH.files(a:cH D A no l k)(P:E.files=D.files):cH E A no l k:=a.same (by rw[P];exact a.tidy) (λ_ _=>by rw[P]) (by rw[P])
def cH.sd(P:cH D A no l k):1<=no/\no<1000000000000:=P.yd no (ZW _ (List.mem_singleton.2 rfl))
def cH.RM(a:cH D A no l k):∀P∈A,ax P.1≠ax no:=λP c d=>by
 have e:=a.sd;have:=qm ⟨oM,e.2⟩ d;have b:=a.Dz;rw[List.pairwise_append]at b;have:=b.2.2 P.1 (Xk.2 ⟨P,c,rfl⟩) no (List.mem_singleton.2 rfl);omega
def cH.put(P:cH D A no l k){s c:Nat}(a:E.files=aH D.files (ax no) ⟨az B,s,true⟩)(f:c<=B.length)(g:(az (B.take c)).length<=s)(h:s<=(az B).length)(i:∀b∈B,b.Ok/\b.aJ.length<=64):cH E A no B c:=
 ⟨by rw[a];exact P.tidy.aH _ _,λd e=>by rw[a,bz,Zq (by simpa using P.RM d e)];exact P.full d e,⟨s,by rw[a,bz];simp,g,h⟩,f,by
  have:=(eV (n:=no) (.inr (by have:=P.sd;omega))).1;rw[a,bz,Zq (by simpa using this.symm)];exact P.Td,P.yd,P.Dz,λb a=>by
  rcases Q6.1 a with F|F
  ·exact P.evs b (ZV _ F)
  ·exact i b F,P.many⟩
def cH.Uj(a:cH D A no l k):∀P∈l,P.Ok/\P.aJ.length<=64:=λP b=>a.evs P (ZW _ b)
def cH.Jp(P:ES V A no l):V.last=ax no:=by unfold dm.last;rw[P.a_];simp[ax]
def cH.mono(P:cH D A no l k)(a:j<=k):cH D A no l j:=by
 obtain⟨b,c,d,e⟩:=P.last;exact⟨P.tidy,P.full,⟨b,c,Xx (Ap a) d,e⟩,Xx a P.kl,P.Td,P.yd,P.Dz,P.evs,P.many⟩
def Ct(P:cH D A no l k):((D.sync (ax no)).1=0/\cH (D.sync (ax no)).2 A no l l.length)\/((D.sync (ax no)).1≠0/\cH (D.sync (ax no)).2 A no l k):=by
 rcases lY D (ax no)with⟨a,b⟩|⟨a,e,c,b⟩
 ·exact .inr ⟨a,P.files b⟩
 ·obtain⟨f,d,g,h⟩:=P.last
  rw[d]at c;cases c
  exact .inl ⟨a,P.put b (Q4 _) (by rw[List.take_length];exact Q4 _) (Q4 _) P.Uj⟩
def Aq(n:Tidy D.files)(o:0<=V.next):((bu V D).1≠0/\(bu V D).2.1=V/\Tidy (bu V D).2.2.files/\∀x,x≠ax V.next->x≠aP->aq (bu V D).2.2.files x=aq D.files x)\/
  ((bu V D).1=0/\V.next<1000000000000/\V.a_.length+1<=64/\aq D.files (ax V.next)=none/\(bu V D).2.1=⟨V.size,V.a_++[V.next],0,V.next+1⟩/\Tidy (bu V D).2.2.files/\aq (bu V D).2.2.files (ax V.next)=some (dI [])/\
   aq (bu V D).2.2.files bO=some (dI (bJ (V.a_++[V.next])))/\∀x,x≠ax V.next->x≠aP->x≠bO->aq (bu V D).2.2.files x=aq D.files x):=by
 unfold bu;dsimp only;rw[show cz (aw V.next)=ax V.next from rfl];rcases jZ D (ax V.next)with⟨f,g⟩|⟨f,g,w,p⟩
 ·rw[Zx f]
  exact .inl ⟨f,rfl,by show Tidy (D.create _).2.files;rw[g];exact n,λx _ _=>by show aq (D.create (ax V.next)).2.files x=_;rw[g]⟩
 have q:=(rZ o).1 g;obtain⟨y,nt⟩:=eV (n:=V.next) (.inr ⟨o,q⟩);rw[Zq (show¬(D.create (ax V.next)).1≠0 by simpa using f)];have h:r_ (ax V.next) D (D.create (ax V.next)).2:=(r_.refl n).put p;have r:aq (D.create (ax V.next)).2.files (ax V.next)=some ⟨[],0,false⟩:=by rw[p,bz];simp
 generalize(D.create (ax V.next)).2=a at h r;unfold lJ;dsimp only;rw[show cz (aw V.next)=ax V.next from rfl];have b:∀{F:ak},Tidy F.files->(∀x,x≠ax V.next->x≠aP->aq F.files x=aq D.files x)->Tidy (F.delete (ax V.next)).2.files/\∀x,x≠ax V.next->x≠aP->aq (F.delete (ax V.next)).2.files x=aq D.files x:=by
  intro F m s;rcases iO F (ax V.next)with e|e
  ·rw[e];exact⟨m,s⟩
  ·rw[e];exact⟨m.bI _,λx P c=>by rw[fD m,Zq (by simpa using P)];exact s x P c⟩
 rcases lY a (ax V.next)with⟨i,d⟩|⟨i,E,t,d⟩
 ·rw[Zx i]
  have:=b (F:=(a.sync (ax V.next)).2) (by rw[d];exact h.1) λx P _=>by rw[d];exact h.2 x P
  exact .inl ⟨i,rfl,this⟩
 rw[r]at t;cases t
 have j:r_ (ax V.next) D (a.sync (ax V.next)).2:=h.put d;have u:aq (a.sync (ax V.next)).2.files (ax V.next)=some (dI []):=by rw[d,bz];simp
 rw[Zq (show¬(a.sync (ax V.next)).1≠0 by simpa using i)];generalize(a.sync (ax V.next)).2=z at j u;rcases Il j.1 (V.a_++[V.next])with⟨k,l⟩|⟨k,l,A,B,v⟩
 ·rw[Zx k]
  have:=b (F:=(bw z (V.a_++[V.next])).2) l.1 λx P c=>(l.2 x c).trans (j.2 x P);exact .inl ⟨k,rfl,this⟩
 ·rw[Zq (by simpa using k)]
  refine .inr ⟨rfl,q,by simpa using l,w,?_,A,(v _ nt y).trans u,B,λx P c C=>(v x c C).trans (j.2 x P)⟩;rw[wrap_i64 bb]
def cH.bu(c:cH D A no l l.length)(j:ES V A no l):((bu V D).1≠0/\(bu V D).2.1=V/\cH (bu V D).2.2 A no l l.length)\/
  ((bu V D).1=0/\(bu V D).2.1.size=V.size/\cH (bu V D).2.2 (A++[(no,l)]) V.next [] 0/\ES (bu V D).2.1 (A++[(no,l)]) V.next []/\(bu V D).2.1.next=V.next+1):=by
 have H:=c.sd;have I:=j.next;have q:∀P∈cT A++[no],P<V.next:=λP b=>by
  rcases Q6.1 b with a|a
  ·have k:=c.Dz
   rw[List.pairwise_append]at k;have:=k.2.2 P a no (List.mem_singleton.2 rfl);omega
  ·have:=List.mem_singleton.1 a;omega
 have m:∀P∈cT A++[no],ax P≠ax V.next:=λP b e=>by
  have a:=c.yd P b;have k:=q P b;have:=qm (a:=P) ⟨oM,a.2⟩ e.symm;omega
 have f:∀P∈cT A++[no],ax P≠bO/\ax P≠aP:=λP b=>eV (.inr (by have:=c.yd P b;omega));have u:bO≠ax V.next:=λe=>by
  by_cases J:V.next<1000000000000
  ·exact(eV (n:=V.next) (.inr oM)).1 e.symm
  ·have v:ax V.next=cz []:=by unfold ax aw;rw[Zx (.inr oM)]
   rw[v]at e
   revert e;decide+kernel
 rcases Aq (V:=V) c.tidy oM with⟨n,r,h,o⟩|⟨n,r,h,o,g,w,x,s,t⟩
 ·exact .inl ⟨n,r,c.same h (λP b=>o _ (m P b) (f P b).2) (o _ u λe=>yh e.symm)⟩
 ·rw[j.a_]at h s
  have y:A.length+1+1<=64:=by simpa[cT]using h
  have i:cT (A++[(no,l)])=cT A++[no]:=by simp[cT]
  refine .inr ⟨n,by rw[g],⟨w,λp z=>?_,⟨0,x,by simp[az],Qj _⟩,Q4 _,by rw[i];exact s,?_,?_,by rw[Ao,List.append_nil];exact c.evs,by simpa using y⟩,⟨by rw[g,i,j.a_],by rw[g];simp[az],by rw[g];simp only;omega⟩,by rw[g]⟩
  ·rcases Q6.1 z with a|a
   ·have d:p.1∈cT A++[no]:=ZV _ (Xk.2 ⟨p,a,rfl⟩)
    rw[t _ (m _ d) (f _ d).2 (f _ d).1];exact c.full p a
   ·rw[List.mem_singleton]at a
    subst a;have d:no∈cT A++[no]:=ZW _ (List.mem_singleton.2 rfl);obtain⟨B,C,E,K⟩:=c.last;rw[List.take_length]at E;have F:B=(az l).length:=oM
    show aq _ (ax no)=_;rw[t _ (m _ d) (f _ d).2 (f _ d).1,C,F];rfl
  ·rw[i]
   intro P b;rcases Q6.1 b with a|a
   ·exact c.yd P a
   ·have:=List.mem_singleton.1 a;omega
  ·rw[i,List.pairwise_append]
   exact⟨c.Dz,List.pairwise_singleton _ _,λP b L d=>by have:=List.mem_singleton.1 d;have:=q P b;omega⟩
def cH.begin(d:cH D A no l k)(a:ES V A no l):((aK V D).1≠0/\(aK V D).2.1=V/\cH (aK V D).2.2 A no l k)\/
  ((aK V D).1=0/\(aK V D).2.1.size=V.size/\cH (aK V D).2.2 (A++[(no,l)]) V.next [] 0/\ES (aK V D).2.1 (A++[(no,l)]) V.next []/\(aK V D).2.1.next=V.next+1):=by
 have e:¬V.a_=[]:=by rw[a.a_];simp
 have f:aK V D=if(D.sync (ax no)).1≠0 then((D.sync (ax no)).1,V,(D.sync (ax no)).2)else Go.Proofs.YtblabbpipmodgaaGreatDoor.bu V (D.sync (ax no)).2:=by
  unfold aK;rw[Zq e,cH.Jp a]
 rw[f];rcases Ct d with⟨P,c⟩|⟨P,c⟩
 ·rw[Zq (by simpa using P)]
  rcases c.bu a with⟨g,h,i⟩|b
  ·exact .inl ⟨g,h,i.mono d.kl⟩
  ·exact .inr b
 ·rw[Zx P];exact .inl ⟨P,rfl,c⟩
end
def bG(P:List ah):List UInt8×Int:=if P.any eD then([],3)else(az P,0)
def ID(V:Laid b)(E:Row iC 96 b f d a B)(W:∀P,f P->P<b.heap.size)(hl:B.length<=20000000):
  ZH 115 #[.slice d a c] b (Ok λX q=>∃F H I m,X= .tuple #[.slice F H I,QH (bG B).2]/\aV fF 5 m q F H I (bG B).1/\ai b q/\∀P,m P->b.heap.size<=P):=by
 have hn:=E.len;refine vz ⟨λJ K L N O q=>∃(e:Nat) (m:XM),O=e/\e<=a/\J=a-e/\(∀g∈B.take e,g.Ok/\g.aJ.length<=64)/\(az (B.take e)).length<=675*e/\aV fF 5 m q K L N (az (B.take e))/\ai b q/\∀P,m P->b.heap.size<=P,
  ⟨_,0,λ_=>False,rfl,Qj _,rfl,sM,by simp[az],aV.nil b,aj.refl _,λ_ u=>u.elim⟩,?_⟩
 rintro J K L N O _ Y ⟨e,m,rfl,hj,rfl,v,Z,o,n,w⟩;refine al.dec (λa9=>?_) (λb0=>?_)
 ·obtain⟨P,x,g,es,rfl,_,_,Q,k,a1,n1,c1,rfl,hd,s⟩:=(E.af n).BR (i:=e) oM
  have h:=λi (hi:i<10)=>k i hi;refine⟨P,x,rfl,oM,oM,_,_,_,_,_,_,_,_,_,_,_,_,h 0 dC,h 1 dC,h 2 dC,h 3 dC,h 4 dC,h 5 dC,h 6 dC,h 7 dC,h 8 dC,h 9 dC,PA.mk λw2 k2 s2 g2=>?_⟩;refine storeAll (aF g a1 n1 c1) g2 rfl λw3 k3 s3 j=>?_;have p:ai Y w3:=k2.new k3 λP l=>.inr oM;refine⟨_,_,_,_,_,_,_,_,_,_,_,_,ae j rfl,ae j rfl,ae j rfl,ae j rfl,ae j rfl,ae j rfl,ae j rfl,ae j rfl,ae j rfl,ae j rfl,?_⟩;refine PC.ok (Cc (V.af (n.then p)) (hd.af p) s λP l=>by have:=W P l;have:=(n.then p).size;omega) ?_;rintro _ R ⟨a4,n4,c4,F4,rfl,r,S,T⟩
  by_cases t:g.aJ.length<=64
  ·have y:=pk s t
   rw[y]at r⊢;have b1:=Kp s t;refine⟨_,_,_,_,rfl,al.dQ (λk=>Zz rfl k) (λ_=>?_)⟩;have z:=p.then S;have a0:Row fF 1 R F4 a4 n4 (mi g):=r.row (bytes:=1) dC (by unfold aS;dsimp only;omega);have b2:=z.size;have b3:=p.size;refine yi (o.af z) rU a0 (λg=>r.LF g) (λP l=>⟨r.aE P l,λk=>by have:=o.aE P (o.self P k);have:=T P l;omega⟩) ba (by unfold maxLen;omega) λb4 c5 w5 F5 a3 a6 a7 _=>?_;have A:B.take (e+1)=B.take e++[g]:=by rw[Qw,Q];rfl
   refine⟨_,_,_,rfl,a-(e+1),oM,e+1,F5,an oM,oM,rfl,?_,?_,?_,(n.then z).new a6 λP l=>.inr (by have:=w P (o.self P l);omega),?_⟩
   ·rw[A]
    intro a2 C;rcases Q6.1 C with M|M
    ·exact v a2 M
    ·simp at M;subst M;exact⟨s,t⟩
   ·rw[A,ng];simp;omega
   ·rw[A,ng];exact a3
   ·intro P l
    have:=n.size;rcases a7 P l with M|M|M
    ·exact w P M
    ·have:=T P M;omega
    ·omega
  ·have y:=wv t
   rw[y]at r⊢;refine⟨_,_,_,_,rfl,al.dQ (λ_=>?_) (λk=>Zz k dC)⟩;have a5:B.any eD=true:=List.any_eq_true.2 ⟨g,QZ Q,by unfold eD;simp;omega⟩;rw[show bG B=([],3) by unfold bG;rw[Zx a5]];exact Ok.mk ⟨none,0,0,λ_=>False,rfl,aV.nil R,(n.then p).then S,λ_ u=>u.elim⟩
 ·obtain rfl:e=a:=oM
  rw[Qz oM]at v Z o;have a8:B.any eD=false:=by
   rw[<-Bool.not_eq_true];intro k;obtain⟨g,he,U⟩:=List.any_eq_true.1 k;have:=(v g he).2;unfold eD at U;simp at U;omega
  rw[show bG B=(az B,0) by unfold bG;rw[Zq (by simp[a8])]];exact Ok.mk ⟨_,_,_,m,rfl,o,n,w⟩
def bA(no:Int)(e:List UInt8)(D:ak):Int×ak:=
 let P:=cz (aw no)
 let a:=D.create P
 if a.1≠0 then(a.1,a.2)else
 let b:=a.2.append P e
 if b.1≠0 then(b.1,(b.2.delete P).2)else
 let c:=b.2.sync P
 if c.1≠0 then(c.1,(c.2.delete P).2)else
 let d:=bw c.2 [no]
 (d.1,if d.1≠0 then(d.2.delete P).2 else d.2)
def LG{D:ak}{no:Int}(hL:Laid b)(L:aZ b k a D f)(R:aN no)(g:Row fF 1 k a2 d c s)(c4:d=none->c=0/\j=0)(b2:∀P,a2 P->f P):
  ZH 116 #[XP a,QH no,.slice d c j] k (Ok (mj b k a f (bA no s D))):=by
 have e3:=L.gr.size;have S:∀P,f P->P<k.heap.size:=by obtain⟨a4,f1,f2,T,U⟩:=L;exact U
 refine xz (PA.mk λx k1 s1 g1=>PA.mk λw2 V s2 g2=>PC.ok (jj (hL.af ((L.gr.then k1).then V)) R) ?_);rintro _ W ⟨rfl,M⟩;have z3:=M.size;refine⟨_,rfl,PA.mk λw4 X s4 g4=>PS.mk g4 sM λY Z s5 g5=>?_⟩
 let t:XM:=λP=>f P\/(P=k.heap.size\/P=x.heap.size\/P=W.heap.size)
 have b3:ai k Y:=((((k1.then V).then M).then X)).new Z λP g=>.inr oM;have c9:aZ b Y a D t:=L.add b3 λP g=>by omega
 let y:World->Int->Prop:=λi m=>i.heap[k.heap.size]? =some (.cells #[XP a] 87 (0,0))/\i.heap[x.heap.size]? =some (.cells #[QH m] 34 (0,0))/\i.heap[W.heap.size]? =some (.cells #[.string (cz (aw no))] 9 (0,0))
 have C5:y Y 0:=⟨Z.get (X.get (M.get (V.get g1 id) id) id) oM,Z.get (X.get (M.get g2 id) id) oM,g5⟩
 have h:∀{i o:World} {m:Int},y i m->aj (dK t) i o->y o m:=λn u=>
  ⟨u.get n.1 λp=>p (.inr (.inl rfl)),u.get n.2.1 λp=>p (.inr (.inr (.inl rfl))),u.get n.2.2 λp=>p (.inr (.inr (.inr rfl)))⟩
 have H:∀{i o:World},aj (dK f) k i->aj (dK t) i o->aj (dK f) k o:=λd P=>d.then (P.mono λP _ g q=>g (.inl q));have e:∀{i:World} {m B:Int} {v:ak} {κ:XT},y i m->aZ b i a v t->aj (dK f) k i->(∀o,y o B->aZ b o a v t->aj (dK f) k o->aj (·=x.heap.size) i o->κ o)->PS i ⟨x.heap.size,0,none⟩ (QH B) κ:=by
  intro i m B v κ n hN u a0;have h1:=aB n.2.1;refine PS.mk n.2.1 sM λo z e4 d0=>a0 o ⟨z.get n.1 oM,d0,z.get n.2.2 oM⟩ ?_ (u.then (z.mono λP _ g q=>by have:=S P q;omega)) z;obtain⟨a4,f1,f2,T,U⟩:=hN;exact⟨a4,f1.keep z λP g m=>(T P g).2 (.inr (.inr (.inl m))),f2.new z λP g=>.inr oM,T,λP g=>Qk (U P g) z.size⟩
 have l:∀{I:Int×ak} (m:Int) (v:ak) (i:World),aZ b i a v t->aj (dK f) k i->y i m->I=(m,if m≠0 then(v.delete (cz (aw no))).2 else v)->
   Lv XG (λb4=>∃b5:Int,b4.cell? ⟨x.heap.size,0,none⟩=some (QH b5)/\Ok (mj b k a f I) (.returned (QH b5)) b4) (λch i=>Ok (mj b k a f I) (.panicked ch) i)
    ([{target:=.fn (.func 170) #[XP x.heap.size,XP k.heap.size,XP W.heap.size],args:= #[]}]:List Deferred) .returning i:=by
  intro I m v i p u n hr;refine Lv.one sM kR (CallsD.mono (si (R:=λB J=>B= .returned (.tuple #[])/\∃b6:Int,J.cell? ⟨x.heap.size,0,none⟩=some (QH b6)/\Ok (mj b k a f I) (.returned (QH b6)) J) ⟨_,ae n.2.1 rfl,al.dQ (λr=>⟨_,ae n.1 rfl,_,ae n.2.2 rfl,PC.ok p.delete ?_⟩) (λA=>⟨rfl,_,ae n.2.1 rfl,Ok.mk ?_⟩)⟩) ?_)
  ·rintro _ wb ⟨rfl,d1,kb⟩
   have d2:=h n kb;refine⟨_,rfl,rfl,_,ae d2.2.1 rfl,Ok.mk ?_⟩;rw[hr,Zx r];exact⟨rfl,d1.mono λP g=>.inl g,H u kb⟩
  ·rw[hr,Zq (by simpa using A)]
   exact⟨rfl,p.mono λP g=>.inl g,u⟩
  ·rintro B u' J ⟨rfl,rfl,S⟩
   exact Lv.ret rfl S
 refine⟨_,ae C5.1 rfl,_,ae C5.2.2 rfl,PC.ok c9.create ?_⟩;rintro _ w6 ⟨rfl,b7,k6⟩;have C6:=h C5 k6;have d3:=H (ai.keep b3) k6;have hW:bA no s D=if(D.create (cz (aw no))).1≠0 then((D.create (cz (aw no))).1,(D.create (cz (aw no))).2)else
   if((D.create (cz (aw no))).2.append (cz (aw no)) s).1≠0 then(((D.create (cz (aw no))).2.append (cz (aw no)) s).1,(((D.create (cz (aw no))).2.append (cz (aw no)) s).2.delete (cz (aw no))).2)else
   if((((D.create (cz (aw no))).2.append (cz (aw no)) s).2).sync (cz (aw no))).1≠0 then(((((D.create (cz (aw no))).2.append (cz (aw no)) s).2).sync (cz (aw no))).1,(((((D.create (cz (aw no))).2.append (cz (aw no)) s).2).sync (cz (aw no))).2.delete (cz (aw no))).2)else
   ((bw ((((D.create (cz (aw no))).2.append (cz (aw no)) s).2).sync (cz (aw no))).2 [no]).1,if(bw ((((D.create (cz (aw no))).2.append (cz (aw no)) s).2).sync (cz (aw no))).2 [no]).1≠0 then((bw ((((D.create (cz (aw no))).2.append (cz (aw no)) s).2).sync (cz (aw no))).2 [no]).2.delete (cz (aw no))).2 else(bw ((((D.create (cz (aw no))).2.append (cz (aw no)) s).2).sync (cz (aw no))).2 [no]).2):=rfl
 rw[hW];generalize D.create (cz (aw no))=cr at b7⊢;refine⟨_,rfl,e C6 b7 d3 λJ C b8 a5 k7=>⟨_,ae C.2.1 rfl,al.dQ (λr=>?_) (λA=>?_)⟩⟩
 ·refine⟨_,ae C.2.1 rfl,e C b8 a5 λw8 C8 N a6 k8=>⟨_,ae C8.2.1 rfl,Ok.mk ?_⟩⟩
  rw[Zx r];exact⟨rfl,N.mono λP g=>.inl g,a6⟩
 rw[Zq (by simpa using A)];have d4:Row fF 1 J a2 d c s:=g.keep a5 λP g p=>p (b2 P g);refine⟨_,ae C.1 rfl,_,ae C.2.2 rfl,PC.ok (b8.append d4 c4 λP g=>.inr (.inl (b2 P g))) ?_⟩;rintro _ w8 ⟨rfl,N,k8⟩;have C8:=h C k8;have a6:=H a5 k8;generalize cr.2.append (cz (aw no)) s=ap at N⊢;refine⟨_,rfl,e C8 N a6 λw9 E b9 c0 k9=>⟨_,ae E.2.1 rfl,al.dQ (λr=>?_) (λA=>?_)⟩⟩
 ·refine⟨_,ae E.2.1 rfl,e E b9 c0 λc1 a7 O a1 a8=>?_⟩
  rw[Zx r];exact l _ _ c1 O a1 a7 (by rw[Zx r])
 rw[Zq (by simpa using A)];refine⟨_,ae E.1 rfl,_,ae E.2.2 rfl,PC.ok b9.sync ?_⟩;rintro _ c1 ⟨rfl,O,a8⟩;have a7:=h E a8;have a1:=H c0 a8;generalize ap.2.sync (cz (aw no))=sy at O⊢;refine⟨_,rfl,e a7 O a1 λa9 K b1 c2 e5=>⟨_,ae K.2.1 rfl,al.dQ (λr=>?_) (λA=>?_)⟩⟩
 ·refine⟨_,ae K.2.1 rfl,e K b1 c2 λF b0 a3 c5 Q=>?_⟩
  rw[Zx r];exact l _ _ F a3 c5 b0 (by rw[Zx r])
 rw[Zq (by simpa using A)];refine⟨_,ae K.1 rfl,PA.mk λF Q e6 c3=>?_⟩;have a3:aZ b F a sy.2 (λP=>t P\/P=a9.heap.size):=b1.add Q λP g=>by subst g;exact⟨Q4 _,aB c3⟩
 have c6:Row aM 8 F (·=a9.heap.size) (XL a9.heap.size) 1 [no]:=Row.lit c3 [no] rfl (λc7 q=>by simp at q;subst q;exact R) (by unfold aS;simp);refine PC.ok (a3.bw hL.mQ c6 (λc7 q=>by simp at q;subst q;exact R) λP g=>.inr (.inr g)) ?_;rintro _ d5 ⟨rfl,c8,d6⟩;have w:aj (dK t) F d5:=d6.mono λP _ g hy=>g (.inl hy);have b0:y F sy.1:=h K (ai.keep Q);have d7:=h b0 w;have d8:=H (c2.af Q) w;exact⟨_,rfl,e d7 (c8.mono λP g=>.inl g) d8 λd9 e0 e1 e2 e7=>l _ _ d9 e1 e2 e0 rfl⟩
def iQ:List Int->ak->ak
 |[],D=>D
 |no::P,D=>if(D.delete (ax no)).1≠0 then(D.delete (ax no)).2 else iQ P (D.delete (ax no)).2
def aQ(P:dm)(D:ak)(a:List ah)(b:Int):nh:=
 if(bG a).2≠0 then⟨(bG a).2,[],P,D⟩else
 if(bA P.next (bG a).1 D).1≠0 then⟨(bA P.next (bG a).1 D).1,[],P,(bA P.next (bG a).1 D).2⟩else
 aR (iQ P.a_ (bA P.next (bG a).1 D).2) b
def IE(d h:World)(e i:Nat)(j:dm)(b:XM)(a:nh)(f:Value)(c:World):Prop:=
 ∃G,iH c e i G j/\(∀P,G P->d.heap.size<=P/\¬b P)/\aj (dK b) h c/\
  ((a.no≠0/\f= .tuple #[.pointer none,QH a.no]/\aZ d c e a.D (λP=>b P\/G P))\/
   (a.no=0/\∃g,f= .tuple #[XP g,QH 0]/\cy d c e g a.V a.D (λP=>b P\/G P)))
def FZ{D:ak}(C:Laid b)(W:cy b k a c a9 D f)(X:Row iC 96 k a2 d j B)(b3:∀P,a2 P->P<k.heap.size)(hl:B.length<=20000000):
  ZH 60 #[XP a,XP c,.slice d j p,QH e] k (Ok (IE b k a c a9 f (aQ a9 D B e))):=by
 obtain⟨G,K,w,E⟩:=id W;have c4:=w.many;refine tB (PC.ok (ID (C.af W.gr) X b3 hl) ?_);rintro _ w1 ⟨a5,n1,c1,F1,rfl,L,r,b5⟩;have hz:∀P,(f P\/G P)->P<k.heap.size:=by obtain⟨d0,f1,f2,f3,f4⟩:=K;exact f4
 refine⟨_,_,_,_,rfl,al.dQ (λl=>Ok.mk ?_) (λs=>PC.ok (NC (w.af r)) ?_)⟩
 ·rw[show aQ a9 D B e=⟨(bG B).2,[],a9,D⟩ by unfold aQ;rw[Zx l]]
  exact⟨G,w.af r,E,ai.keep r,.inl ⟨l,rfl,K.af r⟩⟩
 rintro _ _ ⟨rfl,rfl⟩;have b6:aZ b w1 a D (λP=>(f P\/G P)\/F1 P):=K.add r λP g=>⟨b5 P g,L.aE P g⟩
 have d1:(bG B).1.length<=13500000000:=by
  unfold bG;split
  ·simp
  ·rename_i b8
   have:∀o∈B,o.Ok/\o.aJ.length<=64:=λo Y=>by
    obtain⟨i,hi⟩:=List.mem_iff_getElem?.1 Y;obtain⟨P,x,es,-,-,-,-,a5,n1,c1,-,-,b9⟩:=X.el i o hi;refine⟨b9,?_⟩;have:¬eD o=true:=λM=>b8 (List.any_eq_true.2 ⟨o,Y,M⟩);unfold eD at this;simp at this;omega
   have:=F_ this;show(az B).length<=_;omega
 refine⟨_,rfl,PC.ok (LG C b6 w.zl (L.row (bytes:=1) dC ba) (λo=>L.LF o) λP g=>.inr g) ?_⟩;rintro _ Z ⟨rfl,c0,k2⟩;have N:aZ b Z a (bA a9.next (bG B).1 D).2 (λP=>f P\/G P):=c0.mono λP g=>.inl g;have O:=(w.af r).keep k2 λP g m=>m (.inl (.inr g));have a6:aj (dK f) k Z:=(ai.keep r).then (k2.mono λP _ g n=>g (.inl (.inl n)));have hC:aQ a9 D B e=if(bA a9.next (bG B).1 D).1≠0 then⟨(bA a9.next (bG B).1 D).1,[],a9,(bA a9.next (bG B).1 D).2⟩else aR (iQ a9.a_ (bA a9.next (bG B).1 D).2) e:=by
  unfold aQ;rw[Zq (by simpa using s)]
 rw[hC];generalize bA a9.next (bG B).1 D=y at N⊢;refine⟨_,rfl,al.dQ (λl=>Ok.mk ?_) (λs=>?_)⟩
 ·rw[Zx l]
  exact⟨G,O,E,a6,.inl ⟨l,rfl,N⟩⟩
 rw[Zq (by simpa using s)];refine⟨λq=>aZ b q a (iQ a9.a_ y.2) (λP=>f P\/G P)/\iH q a c G a9/\aj (dK f) k q,PC.ok (DS O) ?_,?_⟩
 ·rintro _ w3 ⟨a3,u,c3,F,rfl,Q,R,c2⟩
  have d2:=Q.len dC;have S:aZ b w3 a y.2 (λP=>(f P\/G P)\/F P):=N.add R λP g=>⟨c2 P g,Q.aE P g⟩
  refine⟨_,_,_,rfl,λa0 a1 q=>∃(h:Nat) (t:ak),a1=h/\h<=u/\a0=u-h/\iQ a9.a_ y.2=iQ (a9.a_.drop h) t/\aZ b q a t (λP=>(f P\/G P)\/F P)/\aV aM 3 F q a3 u c3 a9.a_/\iH q a c G a9/\aj (dK f) k q,
   ⟨_,0,y.2,rfl,Qj _,rfl,rfl,S,Q,O.af R,a6.af R⟩,?_⟩
  rintro a0 a1 _ w4 ⟨h,t,rfl,hj,rfl,H,z,T,a7,a8⟩;refine al.dec (λd3=>?_) (λd4=>?_)
  ·have c5:Row aM 8 w4 F a3 u a9.a_:=T.row dC ba
   obtain⟨P,x,v,rfl,n,c6,M⟩:=c5.lq (i:=h) oM;refine⟨P,x,rfl,oM,oM,v,M,PC.ok (jj (C.af z.gr) c6) ?_⟩;rintro _ w5 ⟨rfl,I⟩;refine⟨_,rfl,PC.ok (z.af I).delete ?_⟩;rintro _ w6 ⟨rfl,U,V⟩;have b4:a9.a_.drop h=v::a9.a_.drop (h+1):=by
    obtain⟨c7,rfl⟩:=Qv.1 n;exact X4 c7
   rw[b4]at H;have J:iQ a9.a_ y.2=if(t.delete (cz (aw v))).1≠0 then(t.delete (cz (aw v))).2 else iQ (a9.a_.drop (h+1)) (t.delete (cz (aw v))).2:=H
   have a4:=(a7.af I).keep V λP g m=>m (.inl (.inr g));have b0:aj (dK f) k w6:=(a8.af I).then (V.mono λP _ g n=>g (.inl (.inl n)));have c8:=(T.af I).keep V λP g m=>m (.inr g);generalize t.delete (cz (aw v))=b7 at J U⊢;refine⟨_,rfl,al.dQ (λl=>?_) (λs=>?_)⟩
   ·rw[J,Zx l]
    exact⟨U.mono λP g=>.inl g,a4,b0⟩
   ·rw[Zq (by simpa using s)]at J
    exact⟨u-(h+1),oM,h+1,b7.2,an oM,oM,rfl,J,U,c8,a4,b0⟩
  ·obtain rfl:h=u:=oM
   rw[List.drop_of_length_le oM]at H;rw[H];exact⟨z.mono λP g=>.inl g,a7,a8⟩
 ·rintro _ w3 ⟨S,b1,b2⟩
  refine PC.ok (Gb (size:=e) C S) ?_;rintro _ w4 (⟨l,rfl,z,A⟩|⟨s,q2,d5,n4,d6,G4,rfl,T,c9,A,-,-,-⟩)
  ·exact⟨_,_,_,_,_,rfl,Ok.mk ⟨G,b1.keep A λP g m=>m (.inr g),E,b2.then (A.mono λP _ g n=>g (.inl n)),.inl ⟨l,rfl,z⟩⟩⟩
  ·exact⟨_,_,_,_,_,rfl,Ok.mk ⟨G,b1.keep A λP g m=>m (.inr g),E,b2.then (A.mono λP _ g n=>g (.inl n)),.inr ⟨s,q2,rfl,c9.mono λP g=>.inl g⟩⟩⟩
end Go.Proofs.YtblabbpipmodgaaGreatDoor
namespace Go.au
open Go
abbrev FW(P:Option Nat):Fence:={Fence.wide with round:=P}
variable{E:Act}{S:Array Oper}{o:Array Value}{F:Bool}{g5 g6:Bool->XT}{Z:Code}{z:XR}{e2:Exit}{d4:Exit->Act->XT}{a5:Func}{y:FuncId}{b2:List Nat}{a3 e1:List Value}{a c j:Nat}{f:XM}{c3:Obj}{O:Oper}{V:Operand}{e0:Operand->Value}{c4:Option Nat}{h:Program}{m:XN}{b k:World}{M:cX}{T:cg}{b9:iu}{d9:lv}
def sV:CallsIn (FW c4) a h y o b z↔Calls h y o b z:=
 ⟨λP=>callsIn_wide.1 (show CallsIn Fence.wide a h y o b z from P),λP=>show CallsIn (FW c4) a h y o b z from(callsIn_wide (n:=a)).2 P⟩
def QU(P:Nat):(FW c4).room P:=λ_ a=>by simp[Fence.wide]at a
def MG{P:String}(c:Rows h P o b m):RowsIn (FW c4) a h P o b m:=by
 intro d cs _;obtain⟨e,f,g,i⟩:=c d cs;exact⟨e,f,g,(stepsIn_wide (P:=h)).2 i⟩
def uU(P:Oper):Bool:=match P.op with
 | .defer _=>false
 |_=>true
def uU.out(P:uU O=true):∀a,O.op≠.defer a:=by
 intro a b;unfold uU at P;rw[b]at P;cases P
section
variable {P:Program} {ro:Option Nat} {n:Nat}
def KX{next:Act->XT}(d:ro=none\/uU O=true)(a:O.wp P E b next d4):O.wpIn (FW ro) n P E b next d4:=by
 refine⟨λ_ _=>trivial,?_⟩;have f:O.semAt (FW ro).round E.eval=execOp E.eval O:=by
  rcases d with rfl|d
  ·rfl
  ·exact Oper.semAt_eq _ _ _ (uU.out d)
 rw[f];unfold Oper.wp at a;generalize(execOp E.eval O).run P b=g at a⊢
 cases g with
 |ok e h=>
  cases e with
  |value i=>exact a
  |skip=>exact a
  |defer j=>exact a
  |enter k c=>exact⟨λa=>by simp[Fence.wide]at a,sV.2 a⟩
  |row row c=>exact⟨λa=>by simp[Fence.wide]at a,MG a⟩
  |_=>exact a.elim
 |halt e h=>cases e<;>first|exact a|exact a.elim
def qf{b:Array Oper}{g:Exit->Act->XT}(h:∀d c,¬g .outgrown d c)(e:ro=none\/∀i∈b.toList,uU i=true):∀(f:List Nat) (d:Act) (c:World),wpOps P b g f d c->wpOpsIn (FW ro) n P b g f d c
 |[],d,c,a=>a
 |l::f,d,c,a=>by
  unfold wpOps at a;unfold wpOpsIn
  cases j:b[l]? with
  |none=>rw[j]at a;exact qf h e f d c a
  |some i=>
   rw[j]at a;simp only at a⊢;split
   ·rename_i k
    rw[Zx k]at a;rcases a with a|⟨-,m,o,a⟩
    ·have p:i.wp P d c (wpOpsIn (FW ro) n P b g f) g:=Oper.wp_mono (λd c a=>qf h e f d c a) a
     refine KX ?_ p;rcases e with e|e
     ·exact .inl e
     ·refine .inr (e i ?_)
      obtain⟨q,rfl⟩:=Q5.1 j;simp
    ·exact Zz a (h m o)
   ·rename_i k
    rw[Zq k]at a;exact⟨λ_ _=>trivial,qf h e f _ c a⟩
end
section
variable {F:Fence} {n:Nat} {P:Program} {Q:Exit->Act->XT} {a:Act} {w:World} {b:Frame} {k:List Item} {cs:List Frame}
def gP:step P (lone (b.atR a (.code (.scope Z)::k)) cs w)= .next (lone (b.atR a (.code Z:: .inScope Z::k)) cs w):=
 step_lone_go (by simp[stepG,stepG.exec,Frame.atR])
def BM:step P (lone (b.atR a (.inScope Z::k)) cs w)= .next (lone (b.atR a k) cs w):=
 step_lone_go (by simp[stepG,stepG.exec,Frame.atR])
def JQ(o:Z.wpIn F n P (Exit.noGoto Q) a w):(Code.scope Z).wpIn F n P Q a w:=by
 intro b k cs p h i;have e:(lone (b.atR a (.code (.scope Z)::k)) cs w).fenced P F:=fenced_calm h i rfl;obtain⟨q,c,d,f,g⟩:=o b (.inScope Z::k) cs p h i
 cases q with
 |normal=>exact⟨.normal,c,d,f,.head e gP (StepsIn.trans g (.one (fenced_calm h i rfl) BM))⟩
 |exit id=>
  have m:exitTo id (.inScope Z::k)=exitTo id k:=by simp[exitTo]
  exact⟨.exit id,c,d,f,λr j=>.head e gP (g.1 r (by rw[m];exact j)),
   λl j=>let⟨k₁,h1,h2⟩:=g.2 l (by rw[m];exact j);⟨k₁,h1,.head e gP h2⟩⟩
 |goto s=>exact f.elim
 |ret=>exact⟨_,c,d,f,.of_steps (.one e gP) g⟩
 |panic t=>exact⟨_,c,d,f,.of_steps (.one e gP) g⟩
 |outgrown=>exact⟨_,c,d,f,.of_steps (.one e gP) g⟩
def wpIn_loop_ghost(b:Nat->Act->XT)(c:Nat)(g:b c a w)(d:∀e a w,b e a w->Z.wpIn F n P (Exit.then (λh i=>∃l,l<e/\b l h i) Q) a w):(Code.loop Z).wpIn F n P Q a w:=by
 refine wpIn_loop (λa w=>∃e,b e a w) (λa w=>leastOf (λe=>b e a w)) ⟨c,g⟩ ?_;intro a w m;refine wpIn_mono (d _ a w (leastOf_spec m).1) ?_;intro o h i f
 cases o with
 |normal=>
  obtain⟨j,p,k⟩:=f;exact show(∃n,b n h i)/\leastOf (λn=>b n h i)<leastOf (λn=>b n a w)from⟨⟨j,k⟩,Nat.lt_of_le_of_lt ((leastOf_spec ⟨j,k⟩).2 j k) p⟩
 |exit id=>exact f
 |goto q=>exact f
 |ret=>exact f
 |panic r=>exact f
 |outgrown=>exact f
end
def JR(A:h.follows .mixedOrders=true){n id:Nat}(B:∀a,a∈writes (.region id S F)->a<n)(p:Rel n T M E)(P:D h d9 (.region id S F) b9 T M E.defers b):
  (F=false->wpOps h S (di n T M (writes (.region id S F)) b9) (List.range S.size) E b)/\
  (F=true->∀a,wpOps h S (di n T M (writes (.region id S F)) b9) (Region.schedule (h.follows .mixedOrders) S a) E {b with drawn:=b.drawn+1}):=by
 have m:∀j∈S.toList,∀k,j.dst=some k->k<n/\k∈writes (.region id S F):=λj g k y=>⟨B k (jW g y),jW g y⟩
 have q:∀r a,jr S r=some a->a<n:=by
  intro r a l;unfold jr at l
  cases g:S[r]? with
  |none=>rw[g]at l;simp at l
  |some j=>
   rw[g]at l;have C:j∈S.toList:=by
    have:=Q5.1 g;obtain⟨O,rfl⟩:=this;simp
   exact(m j C a l).1
 cases F with
 |false=>
  refine⟨λ_=>?_,λP=>by cases P⟩;rw[List.range_eq_range',<-XK,wpOps_eq_wpList S.toList 0 sM];exact yo q S.toList M E b m p (λ_ _=>rfl) P
 |true=>
  refine⟨λP=>(by cases P),λ_ a=>?_⟩;simp only[Region.schedule,A,Bool.true_or,if_true];refine wpAny_sound S.size a _ E _ ?_;unfold D at P;simp only at P;split at P
  ·obtain⟨s,P⟩:=fg.out P
   simp only[Region.lexB,QK]at s;have H:=pN (B0:=T) (e0:=M) (W:=writes (.region id S true)) q S.toList M E m p (λ_ _=>rfl) P;have I:wpQuiet h S (bY b) (λo=>∀c,bY b c->di n T M (writes (.region id S true)) b9 .normal o c) S.toList E:=by
    refine jS ?_ _ _ H;rintro o ⟨J,t,u,K,L⟩ c f;exact⟨T,J,t,K,by rw[u];exact L c f⟩
   refine wpAny_of_quiet (C:=bY b) (Q:=λo=>∀c,bY b c->di n T M (writes (.region id S true)) b9 .normal o c) (λ_ c f P=>P c f) _ _ _ _ ⟨1,rfl⟩ ?_;have:=wpAnyQ_lex (C:=bY b) (md:=.any) s.1 S.toList 0 (Array.replicate S.size false) E sM (by simpa using s.2) I;simpa using this
  ·obtain⟨N,P⟩:=fg.out P
   have d:∀(e:Bool) (i:XM) (v:Nat->Bool),uC h T S e i (λw x b=>∀T M,b9 (.panic w) T M x b) (λM x b=>b9 .normal T M x b) v S.size (Array.replicate S.size false) M E.defers (b.drewN 1)->
     wpAny h .any S (di n T M (writes (.region id S true)) b9) S.size (Array.replicate S.size false) E {b with drawn:=b.drawn+1}:=λe i v P=>
    np (λw E b P=>Ah.post w E b P) (λ_ _ P=>P) _ _ _ _ _ (lb (B0:=T) (e0:=M) (W:=writes (.region id S true)) q N m v _ _ M E _ p (λ_ _=>rfl) P)
   split at P
   ·split at P
    ·obtain⟨i,P⟩:=P _ ⟨1,rfl⟩
     exact d _ i _ P
    ·exact d _ _ _ (P _ ⟨1,rfl⟩)
   ·obtain⟨z,P⟩:=fg.out P
    split at P
    ·obtain⟨i,P⟩:=P _ ⟨1,rfl⟩
     rw[pR z _ _ (Em.init _)]at P;exact d _ i _ P
    ·have P:=P _ ⟨1,rfl⟩
     rw[pR z _ _ (Em.init _)]at P;exact d _ _ _ P
def lu(a:Program)(b:Nat)(c:List Value)(d:World)(e:Bool->XT):Prop:=
 YieldAt (FW none) 0 a b c.toArray d λf g=>∃P,f= .returned (.bool P)/\e P g
def lu.mono(g:lu h a a3 b g5)(i:∀c f,g5 c f->g6 c f):lu h a a3 b g6:=by
 obtain⟨j,d,P,e,k,l⟩:=g;exact⟨j,d,P,e,k,l.mono λn f ⟨c,m,g⟩=>⟨c,m,i c f g⟩⟩
def SR(b:Program)(c:Value)(P:Array Value)(d:World)(e:XN):Prop:=
 ∃a,c= .func (.yield a) #[] #[]/\lu b a P.toList d λf g=>e (.bool f) g
def yq(P:Oper):Option (Operand×Array Operand):=match P.op with
 | .call {callee:=.value (.func _),..}=>none
 | .call {callee:=.value f,args,..}=>some (f,args)
 |_=>none
def OU(e:Program)(b:cg)(c:Array Oper)(i:iu)(d:Oper)(f:cX->List Deferred->XT)(a:cX)(g:List Deferred)(h:World):Prop:=match yq d with
 |some (j,P)=>SR e (ev b a j) (P.map (ev b a)) h λk l=>f (ck a d.dst k) g l
 |none=>QC e c b d i f a g h
def qg(c:Program)(b:cg)(P:Array Oper)(d:iu):List Oper->(cX->List Deferred->XT)->cX->List Deferred->XT
 |[],f,e,g,h=>f e g h
 |j::a,f,e,g,h=>match j.guard with
  |none=>OU c b P d j (qg c b P d a f) e g h
  |some (l,i)=>match jr P l with
   |none=>False
   |some k=>match get b e k with
    | .bool m=>al m
     (match i with
      |true=>OU c b P d j (qg c b P d a f) ((k,.bool true)::e) g h
      |false=>qg c b P d a f (ck ((k,.bool true)::e) j.dst undef) g h)
     (match i with
      |true=>qg c b P d a f (ck ((k,.bool false)::e) j.dst undef) g h
      |false=>OU c b P d j (qg c b P d a f) ((k,.bool false)::e) g h)
    | .tuple _=>qg c b P d a f (ck e j.dst undef) g h
    |_=>False
def JS{P d:Code}(e:RoundIn (FW none) c h j y o P d b z):RoundIn (FW c4) a h j y o P d b z:=
 ⟨trivial,λf cs _=>e.2 f cs (QU _)⟩
def EF{P:Array Operand}{l:Nat}(a:yq O=some (V,P))(d:e0 V= .func (.yield l) #[] #[]):
  (execOp e0 O).run h b=(Instr.yield l (P.map e0)).run h b:=by
 unfold yq at a;split at a
 ·cases a
 ·rename_i f c g e
  simp only[Q1,Prod.mk.injEq]at a;obtain⟨rfl,rfl⟩:=a;simp only[execOp,e,resolve,d];simp[Deferred.ofValue,invoke,Sem.run_bind,Sem.run_pure,Result.andThen]
 ·cases a
def uV{w:Program}{B:Option Nat}{L o:Nat}{f t:cg}{u:cX}{l:List Nat}{a:Array Oper}{m:iu}(M:∀n b,jr a n=some b->b<o)(S:∀a1 f P y g,m a1 f P y g->a1≠.outgrown)(v:B=none\/∀e∈a.toList,uU e=true):
  ∀(N:List Oper) (p:Nat) (P:cX) (j:Act) (g:World),(∀n,N[n]? =a[p+n]?)->(∀e∈N,∀h,e.dst=some h->h<o/\h∈l)->Rel o f P j->(∀b,b∉l->get f P b=get t u b)->
   qg w f a m N (λP y g=>m .normal f P y g) P j.defers g->wpOpsIn (FW B) L w a (di o t u l m) (List.range' p N.length) j g
 |[],p,P,j,g,_,_,k,i,d=>⟨f,P,k,i,d⟩
 |e::c,p,P,j,g,a2,T,k,i,d=>by
  have h0:a[p]? =some e:=by simpa using(a2 0).symm
  have a4:e∈a.toList:=by
   obtain⟨a7,rfl⟩:=Q5.1 h0;simp
  have U:∀n,c[n]? =a[p+1+n]? :=λn=>by have:=a2 (n+1);simpa[Nat.add_assoc,Nat.add_comm 1 n]using this
  have V:∀h,e.dst=some h->h<o:=λh v=>(T e (QV ..) h v).1;have W:∀(P:cX),(∀b,b∉l->get f P b=get t u b)->∀C b,b∉l->get f (ck P e.dst C) b=get t u b:=by
   intro P i C b X
   cases v:e.dst with
   |none=>exact i b X
   |some h=>
    have a5:=(T e (QV ..) h v).2;show get f ((h,C)::P) b=_;rw[et,Zq (by rintro rfl;exact X a5)];exact i b X
  have z:∀e∈c,∀h,e.dst=some h->h<o/\h∈l:=λe ho=>T e (QJ _ ho);have A:∀(P:cX),Rel o f P j->(∀b,b∉l->get f P b=get t u b)->OU w f a m e (qg w f a m c λP y g=>m .normal f P y g) P j.defers g->
    e.wpIn (FW B) L w j g (wpOpsIn (FW B) L w a (di o t u l m) (List.range' (p+1) c.length)) (di o t u l m):=λP k i d=>by
   unfold OU at d;split at d
   ·rename_i a8 E q
    obtain⟨Y,hf,fn,F,x,H,h1,h2⟩:=d;refine⟨λ_ _=>trivial,?_⟩;have Z:∀a3,e.op≠.defer a3:=by
     intro a3 Z;unfold yq at q;rw[Z]at q;cases q
    rw[Oper.semAt_eq _ _ _ Z,k.eval,EF (l:=Y) q hf];have a6:(Instr.yield Y (E.map (ev f P))).run w g= .ok (.round Y fn F x H) g:=by
     have:=h1
     rwa [Array.toArray_toList]at this
    rw[a6,Oper.uponIn_round];refine⟨λd=>by simp[Fence.wide]at d,(JS h2).mono ?_⟩;rintro _ w' ⟨I,rfl,hK⟩;exact uV M S v c (p+1) _ _ _ U z (k.put _ V _) (W P i _) (by rw[put_defers];exact hK)
   ·refine KX (v.imp id λv=>v e a4) ?_
    exact Jr k V d (λC a' w' a0 hK=>uV M S v c (p+1) _ _ _ U z a0 (W P i C) hK) (λch w' hq=>⟨f,P,k,i,hq⟩)
  have r:∀(P:cX),Rel o f P j->(∀b,b∉l->get f P b=get t u b)->qg w f a m c (λP y g=>m .normal f P y g) (ck P e.dst undef) j.defers g->
    wpOpsIn (FW B) L w a (di o t u l m) (List.range' (p+1) c.length) (j.put e.dst undef) g:=λP k i d=>
   uV M S v c (p+1) _ _ _ U z (k.put _ V _) (W P i _) (by rw[put_defers];exact d)
  simp only[Xq,List.range'_succ];unfold wpOpsIn;rw[h0];simp only;unfold qg at d;split at d
  ·rename_i O
   rw[Zx (by simp[Region.wanted,O])];exact A P k i d
  ·rename_i n s O
   split at d
   ·exact d.elim
   ·rename_i b hj
    have q:=nn k hj (M n b hj);split at d
    ·rename_i I J
     rw[J]at q;simp only at q;have hw:Region.wanted e (yielded a j.tmps)=(I==s):=by
      simp only[Region.wanted,O,q]
      cases I<;>cases s<;>rfl
     rw[hw];have Q:=k.again J;have R:∀K,K∉l->get f ((b,.bool I)::P) K=get t u K:=λK hu=>by rw[qu J];exact i K hu
     cases I<;>cases s<;>simp only[al]at d
     ·exact A _ Q R d
     ·exact⟨λ_ _=>trivial,r _ Q R d⟩
     ·exact⟨λ_ _=>trivial,r _ Q R d⟩
     ·exact A _ Q R d
    ·rename_i vs J
     rw[J]at q;simp only at q;have hw:Region.wanted e (yielded a j.tmps)=false:=by
      simp[Region.wanted,O,q]
     rw[hw];exact⟨λ_ _=>trivial,r _ k i d⟩
    ·exact d.elim
def xv(b:Nat)(P a:World):Prop:=aj (λc=>c=b) P a/\a.heap.size=P.heap.size
def vK(P:Nat)(a:World):Prop:=a.heap[P]? =some (.deferred (some []))
def KY(P:Nat):Deferred:={target:=.collected P,args:= #[]}
def JT:List Value->(List Value->Prop)->Prop
 |[],P=>P []
 |z::c,P=>match z with
  | .agg cs=>lI cs.toList λa=>JT c λb=>P (.agg a.toArray::b)
  |z=>lI [z] λa=>JT c λb=>P (a++b)
def tr(P:World):XM:=λa=>a≠P.heap.size/\a≠P.heap.size+1
def vj(a b:List Value):Prop:=∀P:List Value->Prop,JT a P->P b
def MH:List (Exit×(XT))->(Exit->(XT)->Prop)->Prop
 |[],_=>True
 |(a,b)::c,P=>P a b/\MH c P
def TS(P:Exit->XT):List Exit->List (Exit×(XT))
 |[]=>[]
 |x::a=>(x,λb=>P x b)::TS P a
def Um(P:Exit):List (Exit×(XT))->Prop
 |[]=>False
 |(a,_)::b=>P=a\/Um P b
def MH.out{b:Exit->XT}{φ:Exit->(XT)->Prop}:∀{l:List Exit},MH (TS b l) φ->∀P,Um P (TS b l)->P∈l/\φ P (λc=>b P c)
 |[],_,P,a=>a.elim
 |y::i,d,P,a=>by
  obtain⟨e,f⟩:=d;rcases a with rfl|a
  ·exact⟨QV ..,e⟩
  ·obtain⟨g,h⟩:=MH.out f P a
   exact⟨QJ _ g,h⟩
def IC(n:Program)(v:Value)(w:List Value)(b:World)(y:(List Value->Prop)->(List Value->Exit->XT)->XT)(z:XT)(p:List (Exit×(XT))):Prop:=
 ∃o l,v= .func (.func o) #[] l/\enters n o=true/\
 ∃(q:Type) (r:q) (g:q->List (List Value)->XT) (k:Exit->List (List Value)->XT) (s:List (List Value)->List Value->Prop) (t:List (List Value)->Prop),
  (∀i,aj (λ_=>False) b i->i.heap.size=b.heap.size+2->g r [] i)/\
  (∀c P a e,g c P a->xv (b.heap.size+1) a e->g c P e)/\
  (∀x P a e,k x P a->xv (b.heap.size+1) a e->k x P e)/\
  (∀c P a,g c P a->b.heap.size+2<=a.heap.size->y (s P) (λh x d=>match x with
   | .normal=>g c (P++[h]) d
   |x=>Um x p/\k x (P++[h]) d) a)/\
  (∀(j:XT) (m:Exit->XT),(∀a e,j a->aj (tr b) a e->j e)->(∀x a e,m x a->aj (tr b) a e->m x e)->
   (∀a,j a->b.heap.size+2<=a.heap.size)->
   (∀c P h a,g c P a->j a->vj w h->s P h->lu n (b.heap.size+1) h a λu d=>(u=true/\g c (P++[h]) d/\j d)\/(u=false/\∃x,k x (P++[h]) d/\m x d))->
   ∀i,g r [] i->j i->Calls n o (#[.func (.yield (b.heap.size+1)) #[] #[]]++l) i λA d=>(∃B,A= .returned B)/\((j d/\∃c f,g c f d/\t f)\/∃x P,k x P d/\m x d))/\
  (∀c f a,g c f a->t f->vK b.heap.size a->z a)/\
  MH p λx C=>∀P a,k x P a->vK b.heap.size a->C a
def KZ:List Nat->List Value->cX->cX
 |a::b,c::d,P=>KZ b d ((a,c)::P)
 |_,_,P=>P
def MI:List (Nat×Value)->List Nat
 |[]=>[]
 |(P,_)::a=>P::MI a
def iA:Code->Bool
 | .region _ a _=>a.toList.all uU
 | .seq b c=>iA b&&iA c
 | .cond _ b c=>iA b&&iA c
 | .block _ P=>iA P
 | .loop P=>iA P
 | .scope P=>iA P
 | .rangeFunc .. =>false
 |_=>true
def gl:Code->List Exit
 | .exit id=>[.exit id]
 | .ret=>[.ret]
 | .seq a b=>gl a++gl b
 | .cond _ a b=>gl a++gl b
 | .block _ P=>gl P
 | .loop P=>gl P
 | .scope P=>gl P
 |_=>[]
def OV:Exit->Code
 | .ret=>.ret
 | .exit id=>.exit id
 | .goto P=>.goto P
 |_=>.skip
def SS(P:Exit->XT):iu:=λb _ _ _ a=>match b with
 | .normal=>P .normal a
 | .ret=>P .ret a
 | .exit id=>P (.exit id) a
 |_=>False
def DR(g:Program)(f:lv)(h:List Nat):Bool->Code->iu->cg->cX->List Deferred->XT
 |_,.skip,d,c,P,b,a=>d .normal c P b a
 |_,.label _,d,c,P,b,a=>d .normal c P b a
 |_,.exit id,d,c,P,b,a=>d (.exit id) c P b a
 |_,.ret,d,c,P,b,a=>d .ret c P b a
 |_,.region id q p,d,c,P,b,a=>match BG h id with
  |true=>(match p with
   |false=>qg g c q d q.toList (λP b a=>d .normal c P b a) P b a
   |true=>False)
  |false=>D g f (.region id q p) d c P b a
 |top,.seq i l,d,c,P,b,a=>match Mq f.NX (key l)with
  |none=>DR g f h top i (Ak (λc P b a=>DR g f h top l d c P b a) d) c P b a
  |some e=>∃x:Fn (iy e) (XT),DR g f h top i (Ak (λm s k j=>Aj k b (ap (iy e) x (xX m s e) j)) d) c P b a/\
    eR (writes i) P λu=>lI (iy e) λn=>∀(m:cg) (j:World),ap (iy e) x n j->DR g f h top l d m (wN e n u) b j
 |top,.cond o i l,d,c,P,b,a=>match ev c P o with
  | .bool A=>al A (DR g f h top i d c P b a) (DR g f h top l d c P b a)
  |_=>False
 |top,.block id o,d,c,P,b,a=>DR g f h top o (vV id d) c P b a
 |top,.scope o,d,c,P,b,a=>DR g f h top o (En d) c P b a
 |top,.loop o,d,c,P,b,a=>match Mq f.loops (key o)with
  |none=>False
  |some e=>∃v:Nat->Fn (iy e) (XT),(∃t,ap (iy e) (v t) (xX c P e) a)/\
    ∀t,eR (writes o) P λu=>lI (iy e) λn=>∀(m:cg) (j:World),ap (iy e) (v t) n j->
     DR g f h top o (Ak (λm s k j=>Aj k b (∃y,y<t/\ap (iy e) (v y) (xX m s e) j)) d) m (wN e n u) b j
 |top,.rangeFunc B C i l,d,c,P,b,a=>match top with
  |false=>False
  |true=>match Mq f.loops (key l)with
   |none=>False
   |some e=>fg (Mp (MI e) C.toList&&(iA i&&iA l)) (IC g (ev c P B) (iy e) a
     (λE F r=>JT (iy e) λn=>E n->DR g f h false i (Ak (λm s k j=>aj (tr a) r j/\∀w,xv (a.heap.size+1) j w->DR g f h false l (SS λi z=>aj (tr a) w z/\F n i z) m s k w) (λ_ _ _ _ _=>False)) c (KZ (MI e) n P) [] r)
     (λr=>d .normal c P (KY a.heap.size::b) r) (TS (λi r=>d i c P (KY a.heap.size::b) r) (gl l)))
 |_,_,_,_,_,_,_=>False
def ks:Code->List Nat
 | .region _ c _=>Cv c.toList
 | .seq P a=>ks P++ks a
 | .cond _ P a=>ks P++ks a
 | .block _ b=>ks b
 | .loop b=>ks b
 | .scope b=>ks b
 | .rangeFunc _ d P a=>d.toList++(ks P++ks a)
 |_=>[]
def OW:∀(a:List Value) (c:List Value->Prop),(∀P,P.length=a.length->c P)->JT a c:=by
 have e:∀(a:List Value) (c:List Value->Prop),(∀P,P.length=a.length->c P)->lI a c:=by
  intro a
  induction a with
  |nil=>intro c b;exact b [] rfl
  |cons h a f=>
   intro c b
   cases h
   case pointer i=>cases i<;>simp only[lI]<;>intros<;>exact f _ λP d=>b _ (by simp[d])
   all_goals(simp only[lI];intros;exact f _ λP d=>b _ (by simp[d]))
 intro a
 induction a with
 |nil=>intro c b;exact b [] rfl
 |cons h a f=>
  intro c b
  cases h
  case pointer i=>cases i<;>(simp only[JT];exact e [_] _ λP d=>f _ λk g=>b _ (by have j:P.length=1:=d;simp[j,g,Nat.add_comm]))
  case agg cs=>exact e cs.toList _ λP d=>f _ λk g=>b _ (by simp[g])
  all_goals(simp only[JT];exact e [_] _ λP d=>f _ λk g=>b _ (by have j:P.length=1:=d;simp[j,g,Nat.add_comm]))
def vj.len(P:vj a3 e1):e1.length=a3.length:=P _ (OW a3 _ λ_ P=>P)
def Hx:∀P:List (Nat×Value),(MI P).length=(iy P).length
 |[]=>rfl
 |(_,_)::a=>by simp[MI,iy,Hx a]
def CQ{f:Nat}{j:cg}:∀(c:List Nat) (a:List Value) (d:cX) (P:Array Value),(∀b∈c,b<f)->a.length=c.length->Rel f j d {tmps:=P,defers:=[]}->
  Rel f j (KZ c a d) {tmps:=(c.zip a).foldl (λb (k:Nat×Value)=>b.setIfInBounds k.1 k.2) P,defers:=[]}
 |[],a,d,P,_,e,g=>by
  cases a with
  |nil=>exact g
  |cons h a=>simp at e
 |b::c,a,d,P,l,e,g=>by
  cases a with
  |nil=>simp at e
  |cons h a=>
   exact CQ c a ((b,h)::d) _ (λm i=>l m (QJ _ i)) (by simpa using e) (g.put (some b) (λm i=>by cases i;exact l b (QV ..)) h)
def Hy:∀(a:Code) (b:Exit),b∈gl a->b= .ret\/∃id,b= .exit id:=by
 intro a
 induction a with
 |exit id=>intro b P;simp only[gl,List.mem_singleton]at P;exact .inr ⟨id,P⟩
 |ret=>intro b P;simp only[gl,List.mem_singleton]at P;exact .inl P
 |seq b g c d=>intro e P;exact(Q6.1 P).elim (c e) (d e)
 |cond a b g c d=>intro e P;exact(Q6.1 P).elim (c e) (d e)
 |block id a f=>exact f
 |loop a f=>exact f
 |scope a f=>exact f
 |_=>intro e P;cases P
def jw{w:World}{l:Nat}{o:Obj}:xv l w (w.putObj l o):=
 ⟨⟨rfl,rfl,rfl,sM,λa _ P=>World.putObj_heap_other P⟩,sM⟩
def aj.obj(c:aj f b k)(P:b.heap[a]? =some c3)(d:¬f a):k.heap[a]? =some c3:=
 (c.block a (Q5.1 P).1 d).trans P
def di.of(P:Rel a T M E)(c:b9 e2 T M E.defers b):di a T M b2 b9 e2 E b:=⟨T,M,P,λ_ _=>rfl,c⟩
def TU(hm:h.follows .mixedOrders=true){n m:Nat}:∀(I:Code) (r:Option Nat) (d:Bool) (t:iu) (e:cg) (f:cX) (l:Act) (b:World),
  (r=none\/(d=false/\iA I=true))->(∀a,a∈ks I->a<n)->(∀u e f Y b,t u e f Y b->u≠.outgrown)->Rel n e f l->DR h d9 b2 d I t e f l.defers b->I.wpIn (FW r) m h (di n e f (writes I) t) l b:=by
 intro I
 induction I generalizing m with
 |skip=>intro r d t e f l b _ _ _ k P;exact wpIn_skip (di.of k P)
 |label a0=>intro r d t e f l b _ _ _ k P;exact wpIn_label (di.of k P)
 |exit id=>intro r d t e f l b _ _ _ k P;exact wpIn_exit (di.of k P)
 |ret=>intro r d t e f l b _ _ _ k P;exact wpIn_ret (di.of k P)
 |goto a0=>intro r d t e f l b _ _ _ k P;exact P.elim
 |refuse qw=>intro r d t e f l b _ _ _ k P;exact P.elim
 |scope I ih=>
  intro r d t e f l b C y J k P;refine JQ (wpIn_mono (ih r d (En t) e f l b C y (by intro q e f Y b c Q;subst Q;exact J _ _ _ _ _ c rfl) k P) ?_);intro q v x o;obtain⟨z,w,B,F,c⟩:=o
  cases q with
  |goto a0=>exact c.elim
  |normal=>exact⟨z,w,B,F,c⟩
  |exit id=>exact⟨z,w,B,F,c⟩
  |ret=>exact⟨z,w,B,F,c⟩
  |panic ch=>exact⟨z,w,B,F,c⟩
  |outgrown=>exact⟨z,w,B,F,c⟩
 |region id A Z=>
  intro r d t e f l b C y J k P;have hd:r=none\/∀V∈A.toList,uU V=true:=C.imp (λP=>P) λP=>by
   have:=P.2;unfold iA at this;exact ZY.1 this
  have d1:∀v x,¬di n e f (writes (.region id A Z)) t .outgrown v x:=λl b ⟨e,f,_,_,c⟩=>J _ _ _ _ _ c rfl;unfold DR at P;split at P
  ·split at P
   ·have W:∀V∈A.toList,∀a5,V.dst=some a5->a5<n/\a5∈writes (.region id A false):=λV ho a5 hd=>⟨y a5 (jW ho hd),jW ho hd⟩
    have e9:∀c4 a,jr A c4=some a->a<n:=by
     intro c4 a N;unfold jr at N
     cases ho:A[c4]? with
     |none=>rw[ho]at N;simp at N
     |some V=>
      rw[ho]at N;have f0:V∈A.toList:=by
       obtain⟨d2,rfl⟩:=Q5.1 ho;simp
      exact(W V f0 a N).1
    refine wpIn_region ?_;rw[List.range_eq_range',<-XK];exact uV e9 J hd A.toList 0 f l b sM W k (λ_ _=>rfl) P
   ·exact P.elim
  ·obtain⟨h1,h2⟩:=JR hm (n:=n) y k P
   cases Z with
   |false=>exact wpIn_region (qf d1 hd _ _ _ (h1 rfl))
   |true=>exact wpIn_region_draw λa=>qf d1 hd _ _ _ (h2 rfl a)
 |seq u R K L=>
  intro r d t e f l b C y J k P;have b4:r=none\/(d=false/\iA u=true):=C.imp (λP=>P) λP=>⟨P.1,by have:=P.2;simp only[iA,QK]at this;exact this.1⟩
  have b5:r=none\/(d=false/\iA R=true):=C.imp (λP=>P) λP=>⟨P.1,by have:=P.2;simp only[iA,QK]at this;exact this.2⟩
  have b6:∀a,a∈ks u->a<n:=λa j=>y a (Q6.2 (.inl j));have b7:∀a,a∈ks R->a<n:=λa j=>y a (Q6.2 (.inr j));have g:∀(a3:cg->cX->List Deferred->XT) (q:Exit) (v:Act) (x:World),q≠.normal->di n e f (writes u) (Ak a3 t) q v x->di n e f (writes (u.seq R)) t q v x:=by
   intro a3 q v x f4 o;refine o.mono (λa j=>Q6.2 (.inl j)) (λ_ _=>rfl) λz w i8 w1 c=>?_
   cases q with
   |normal=>exact Zz rfl f4
   |outgrown=>exact c.elim
   |_=>exact c
  have d3:∀(a3:cg->cX->List Deferred->XT) q e f Y b,Ak a3 t q e f Y b->q≠.outgrown:=by
   intro a3 q e f Y b c Q;subst Q;exact c.elim
  unfold DR at P;split at P
  ·have hx:=K (m:=m) r d _ e f l b b4 b6 (d3 _) k P
   refine wpIn_seq (wpIn_mono hx ?_);intro q v x o
   cases q with
   |normal=>
    obtain⟨z,w,B,F,c⟩:=o;have hy:=L (m:=m) r d t z w v x b5 b7 J B c;refine wpIn_mono hy (λq d4 d5 o=>?_);refine o.mono (λa j=>Q6.2 (.inr j)) (λa j=>F a λhm=>j (Q6.2 (.inl hm))) λ_ _ _ _ c=>c
   |exit id=>exact g _ _ _ _ sM o
   |goto a0=>exact g _ _ _ _ sM o
   |ret=>exact g _ _ _ _ sM o
   |panic ch=>exact g _ _ _ _ sM o
   |outgrown=>exact g _ _ _ _ sM o
  ·rename_i H hS
   obtain⟨f5,P,c5⟩:=P;obtain⟨w,h1,h2,c5⟩:=eR.out c5;have hx:=K (m:=m) r d _ e f l b b4 b6 (d3 _) k P;refine wpIn_seq (wpIn_mono hx ?_);intro q v x o
   cases q with
   |normal=>
    obtain⟨B2,e2,O,b8,c⟩:=o;obtain⟨b9,hJ⟩:=Aj.out c;have hv:=mC O H;have a7:=js B2 e2 H;have d6:=ap.all a7 hJ c5 (λa=>v.tmps.getD a undef) x hJ;rw[hv,<-b9]at d6;have d7:=uJ (n:=n) H O.size h1 h2 (B0:=e) (λa j=>(O.slot a).trans (b8 a j));have hy:=L (m:=m) r d t _ _ v x b5 b7 J d7 d6;refine wpIn_mono hy (λq d4 d5 o=>?_);refine o.mono (λa j=>Q6.2 (.inr j)) (λa j=>?_) λ_ _ _ _ c=>c;rw[<-d7.slot];exact(O.slot a).trans (b8 a λhm=>j (Q6.2 (.inl hm)))
   |exit id=>exact g _ _ _ _ sM o
   |goto a0=>exact g _ _ _ _ sM o
   |ret=>exact g _ _ _ _ sM o
   |panic ch=>exact g _ _ _ _ sM o
   |outgrown=>exact g _ _ _ _ sM o
 |cond I u R K L=>
  intro r d t e f l b C y J k P;have b4:r=none\/(d=false/\iA u=true):=C.imp (λP=>P) λP=>⟨P.1,by have:=P.2;simp only[iA,QK]at this;exact this.1⟩
  have b5:r=none\/(d=false/\iA R=true):=C.imp (λP=>P) λP=>⟨P.1,by have:=P.2;simp only[iA,QK]at this;exact this.2⟩
  unfold DR at P;split at P
  ·rename_i f6 S
   refine wpIn_cond_split (t:=f6) (by rw[k.eval];exact S) (λj=>?_) (λhf=>?_)
   ·subst j
    refine wpIn_mono (K r d t e f l b b4 (λa j=>y a (Q6.2 (.inl j))) J k P) (λq v x o=>?_);exact o.mono (λa j=>Q6.2 (.inl j)) (λ_ _=>rfl) λ_ _ _ _ c=>c
   ·subst hf
    refine wpIn_mono (L r d t e f l b b5 (λa j=>y a (Q6.2 (.inr j))) J k P) (λq v x o=>?_);exact o.mono (λa j=>Q6.2 (.inr j)) (λ_ _=>rfl) λ_ _ _ _ c=>c
  ·exact P.elim
 |block id I ih=>
  intro r d t e f l b C y J k P;refine wpIn_block (wpIn_mono (ih r d (vV id t) e f l b C y (by intro q e f Y b c Q;subst Q;exact c.elim) k P) ?_);intro q v x o;obtain⟨z,w,B,F,c⟩:=o
  cases q with
  |exit a8=>
   show(if a8=id then _ else _);simp only[vV]at c
   cases S:Nat.beq a8 id with
   |true=>
    rw[S]at c;rw[Zx (X9 S)];exact⟨z,w,B,F,c⟩
   |false=>
    rw[S]at c;rw[Zq (by rintro rfl;simp at S)];exact⟨z,w,B,F,c⟩
  |normal=>exact⟨z,w,B,F,c⟩
  |goto a0=>exact⟨z,w,B,F,c⟩
  |ret=>exact⟨z,w,B,F,c⟩
  |panic ch=>exact⟨z,w,B,F,c⟩
  |outgrown=>exact c.elim
 |loop I ih=>
  intro r d t e f l b C y J k P;unfold DR at P;split at P
  ·exact P.elim
  ·rename_i H hS
   obtain⟨f7,⟨m0,h0⟩,f8⟩:=P;refine wpIn_loop_ghost (λm v x=>v.tmps.size=n/\(∀a,a∉writes I->v.tmps.getD a undef=get e f a)/\v.defers=l.defers/\
    ap (iy H) (f7 m) (H.map λa4=>v.tmps.getD a4.1 undef) x) m0 ⟨k.size,λa _=>k.slot a,rfl,by rw[<-mC k H];exact h0⟩ ?_
   rintro mm v x ⟨f9,d8,b9,hI⟩;obtain⟨w,h1,h2,g0⟩:=eR.out (f8 mm);have a7:(H.map λa4=>v.tmps.getD a4.1 undef).length=(iy H).length:=by rw[<-js e f H,yp];simp
   have S:=ap.all a7 hI g0 (λa=>v.tmps.getD a undef) x hI;have c0:=uJ (n:=n) H f9 h1 h2 d8;rw[<-b9]at S;have c6:=ih (m:=m) r d _ _ _ v x C y (by intro q e f Y b c Q;subst Q;exact c.elim) c0 S;refine wpIn_mono c6 ?_;intro q d4 d5 o;obtain⟨B2,e2,O,b8,c⟩:=o;have a9:∀a,a∉writes I->get B2 e2 a=get e f a:=λa j=>(b8 a j).trans ((c0.slot a).symm.trans (d8 a j))
   cases q with
   |normal=>
    obtain⟨g1,m',d2,g2⟩:=Aj.out c;refine⟨m',d2,O.size,λa j=>(O.slot a).trans (a9 a j),g1.trans b9,?_⟩;rw[<-mC O H];exact g2
   |outgrown=>exact c.elim
   |exit id=>exact⟨B2,e2,O,a9,c⟩
   |goto a0=>exact⟨B2,e2,O,a9,c⟩
   |ret=>exact⟨B2,e2,O,a9,c⟩
   |panic ch=>exact⟨B2,e2,O,a9,c⟩
 |rangeFunc g3 ps u R K L=>
  intro r d t e f l b C y J k P;unfold DR at P;split at P
  ·exact P.elim
  obtain rfl:r=none:=C.resolve_right λP=>by cases P.1
  split at P
  ·exact P.elim
  rename_i H hS;obtain⟨e0,P⟩:=fg.out P;simp only[QK]at e0;obtain⟨c1,g4,g5⟩:=e0;have c1:=Mp.out c1;obtain⟨c7,a1,g6,g7,σ,s0,f5,Jx,a3,i9,g8,e1,c2,c6,g9,h3,h4⟩:=P;have b6:∀a,a∈ks u->a<n:=λa j=>y a (Q6.2 (.inr (Q6.2 (.inl j))));have b7:∀a,a∈ks R->a<n:=λa j=>y a (Q6.2 (.inr (Q6.2 (.inr j))));have h5:∀a,a∈ps.toList->a<n:=λa j=>y a (Q6.2 (.inl j));refine wpIn_rangeFunc ?_;intro fn _;obtain⟨p,s⟩:∃p:LoopState->Option Code->Loop,p=λst pe=>{state:=st,pending:=pe,fn,tmps:=l.tmps,params:=ps,assign:=u,body:=R,defers:=b.heap.size}:=⟨_,rfl⟩
  obtain⟨T,b0⟩:∃T,(b.alloc (.deferred (some []))).alloc (.loop (p .ready none))=T:=⟨_,rfl⟩
  have h6:T.heap[b.heap.size+1]? =some (.loop (p .ready none)):=by
   rw[<-b0];have:=World.alloc_heap_new (b.alloc (.deferred (some []))) (.loop (p .ready none));rwa [World.size_alloc]at this
  have h7:T.heap[b.heap.size]? =some (.deferred (some [])):=by
   rw[<-b0];exact(Go.RowKit.Below.heap_alloc _ _ _ sM).trans (World.alloc_heap_new b _)
  have h8:T.heap.size=b.heap.size+2:=by rw[<-b0];simp
  have h9:aj (λ_=>False) b T:=by
   rw[<-b0];exact⟨rfl,rfl,rfl,by simp;omega,λi0 E _=>(Go.RowKit.Below.heap_alloc _ _ _ bc).trans (Go.RowKit.Below.heap_alloc b _ i0 E)⟩
  let i1:XT:=λd9=>d9.heap[b.heap.size+1]? =some (.loop (p .ready none))/\d9.heap[b.heap.size]? =some (.deferred (some []))
  let Rx:Exit->XT:=λu d9=>Um u (TS (λu A0=>t u e f (KY b.heap.size::l.defers) A0) (gl R))/\d9.heap[b.heap.size+1]? =some (.loop (p .done (some (OV u))))/\d9.heap[b.heap.size]? =some (.deferred (some []))
  have c3:∀{d9 e:World} {V o':Obj},aj (tr b) d9 e->d9.heap[b.heap.size+1]? =some V->d9.heap[b.heap.size]? =some o'->e.heap[b.heap.size+1]? =some V/\e.heap[b.heap.size]? =some o':=λE h1 h2=>
   ⟨E.obj h1 λP=>P.2 rfl,E.obj h2 λP=>P.1 rfl⟩
  refine⟨b.heap.size+1,[KY b.heap.size],T,{target:=.fn (.func c7) a1,args:= #[.func (.yield (b.heap.size+1)) #[] #[]]},T,c7,#[.func (.yield (b.heap.size+1)) #[] #[]]++a1,T,?_,?_,λ_ _=>trivial,?_,λP=>by simp[Fence.wide]at P,?_⟩
  ·rw[<-b0,s];exact run_enterLoop_outer _ _ _ _ _
  ·have hg:l.eval g3= .func (.func c7) #[] a1:=by rw[k.eval];exact g6
   simp only[resolve,hg];simp[go_sem]
  ·simp only[invoke];exact iv g7 _ _
  refine sV.2 (Calls.mono (g9 i1 Rx (λd9 e P E=>c3 E P.1 P.2) (λu d9 e P E=>⟨P.1,c3 E P.2.1 P.2.2⟩) (λd9 P=>by have:=(Q5.1 P.1).1;omega) ?_ T (g8 T h9 h8) ⟨h6,h7⟩) ?_)
  ·
   rintro c8 M vs A1 N ⟨W,E⟩ e3 hN;have a7:=e3.len;have e4:vs.length=ps.toList.length:=by rw[a7,<-c1,Hx]
   have hy:=run_yield (P:=h) (args:=vs.toArray) W (by rw[s];simpa using e4);rw[s]at hy;refine⟨fn,_,u,R,hy,roundIn_of_wpIn trivial ?_⟩;have S:=e3 _ (c6 c8 M A1 N (by have:=(Q5.1 W).1;omega)) hN;have c0:Rel n e (KZ (MI H) vs f) {tmps:=(ps.zip vs.toArray).foldl (λU (u:Tmp×Value)=>U.setIfInBounds u.1 u.2) l.tmps,defers:=[]}:=by
    have h0:Rel n e f {tmps:=l.tmps,defers:=[]}:=⟨k.size,k.slot⟩
    have:=CQ ps.toList vs f l.tmps h5 e4 h0;rw[c1];have w:(ps.zip vs.toArray).foldl (λU (u:Tmp×Value)=>U.setIfInBounds u.1 u.2) l.tmps=(ps.toList.zip vs).foldl (λa (a4:Nat×Value)=>a.setIfInBounds a4.1 a4.2) l.tmps:=by
     rw[<-Array.foldl_toList,Array.toList_zip]
    rw[w];exact this
   have hx:=K (m:=0) (some (b.heap.size+1)) false _ e _ _ A1 (.inr ⟨rfl,g4⟩) b6 (by intro q e f Y b c Q;subst Q;exact c.elim) c0 S;refine wpIn_mono hx ?_;intro q i2 A2 o;obtain⟨z,w,B,-,c⟩:=o
   cases q with
   |exit id=>exact c.elim
   |goto a0=>exact c.elim
   |ret=>exact c.elim
   |panic ch=>exact c.elim
   |outgrown=>exact c.elim
   |normal=>
    obtain⟨i3,c⟩:=c;obtain⟨e5,i4⟩:=c3 i3 W E;refine⟨_,run_beginRound e5 (by rw[s]),?_⟩;have c:=c _ (jw (w:=A2) (l:=b.heap.size+1) (o:=.loop {p .ready none with state:=.busy}));have e6:(A2.putObj (b.heap.size+1) (.loop {p .ready none with state:=.busy})).heap[b.heap.size+1]? =some (.loop {p .ready none with state:=.busy}):=World.putObj_heap_same (Q5.1 e5).1;have e7:(A2.putObj (b.heap.size+1) (.loop {p .ready none with state:=.busy})).heap[b.heap.size]? =some (.deferred (some [])):=(World.putObj_heap_other oM).trans i4;generalize A2.putObj (b.heap.size+1) (.loop {p .ready none with state:=.busy})=A3 at c e6 e7;have hy:=L (m:=0) (some (b.heap.size+1)) false _ z w i2 A3 (.inr ⟨rfl,g5⟩) b7 (by intro q e f Y b c Q;subst Q;exact c.elim) B c;refine wpIn_mono hy ?_;have a2:∀(i:Option Code) (X:World),aj (tr b) A3 X->
      (Instr.endRound (b.heap.size+1) i).run h X= .ok (.bool i.isNone) (X.putObj (b.heap.size+1) (.loop (p (if i.isNone then .ready else .done) i)))/\
      (X.putObj (b.heap.size+1) (.loop (p (if i.isNone then .ready else .done) i))).heap[b.heap.size+1]? =some (.loop (p (if i.isNone then .ready else .done) i))/\
      (X.putObj (b.heap.size+1) (.loop (p (if i.isNone then .ready else .done) i))).heap[b.heap.size]? =some (.deferred (some [])):=λi X a6=>by
     obtain⟨e8,i5⟩:=c3 a6 e6 e7;have:=run_endRound (P:=h) i e8;rw[s]at this⊢;exact⟨this,World.putObj_heap_same (Q5.1 e8).1,(World.putObj_heap_other oM).trans i5⟩
    intro q j0 X o;obtain⟨B4,j1,j2,-,b1⟩:=o
    cases q with
    |normal=>
     obtain⟨a6,b3⟩:=b1;obtain⟨f1,f2,f3⟩:=a2 none X a6;exact⟨_,_,f1,true,rfl,.inl ⟨rfl,e1 _ _ _ _ b3 jw,f2,f3⟩⟩
    |ret=>
     obtain⟨a6,c9,b3⟩:=b1;obtain⟨f1,f2,f3⟩:=a2 (some .ret) X a6;exact⟨_,_,f1,false,rfl,.inr ⟨rfl,.ret,c2 _ _ _ _ b3 jw,c9,f2,f3⟩⟩
    |exit id=>
     obtain⟨a6,c9,b3⟩:=b1;obtain⟨f1,f2,f3⟩:=a2 (some (.exit id)) X a6;exact⟨_,_,f1,false,rfl,.inr ⟨rfl,.exit id,c2 _ _ _ _ b3 jw,c9,f2,f3⟩⟩
    |goto a=>exact b1.elim
    |panic ch=>exact b1.elim
    |outgrown=>exact b1.elim
  ·
   rintro ed A2 ⟨⟨j3,rfl⟩,(⟨⟨W,E⟩,c8,d0,N,hT⟩|⟨x1,M,N,i6,W,E⟩)⟩
   ·refine⟨none,_,by have:=run_endLoop (P:=h) W (by rw[s];simp);rw[s]at this;exact this,?_⟩
    exact di.of (k.defers _) (h3 c8 d0 _ (e1 _ _ _ _ N jw) hT ((World.putObj_heap_other oM).trans E))
   ·refine⟨some (OV x1),_,by have:=run_endLoop (P:=h) W (by rw[s];simp);rw[s]at this;exact this,?_⟩
    obtain⟨i7,c⟩:=MH.out h4 x1 i6;rcases Hy R x1 i7 with rfl|⟨id,rfl⟩
    ·exact wpIn_ret (di.of (k.defers _) (c M _ (c2 .ret M A2 _ N jw) ((World.putObj_heap_other oM).trans E)))
    ·exact wpIn_exit (di.of (k.defers _) (c M _ (c2 (.exit id) M A2 _ N jw) ((World.putObj_heap_other oM).trans E)))
def Tf(P:XT):List Deferred->XT
 |[],a=>P a
 |d::e,a=>match d.target with
  | .collected b=>vK b a/\∀c,xv b a c->Tf P e c
  |_=>False
def RS(d:Program)(e:Func)(a:XR):iu:=λh f g b P=>match h with
 | .normal=>Tf (λP=>GQ d e.results.toList f g P λc=>a (.returned (oneOf c)) P) b P
 | .ret=>Tf (λP=>GQ d e.results.toList f g P λc=>a (.returned (oneOf c)) P) b P
 | .panic i=>Tf (λP=>a (.panicked i) P) b P
 |_=>False
def nG{g:Program}{h:Func}{P:Array Value}{i:XR}{c:XT}{f:FrameMode}(j:f≠.run){k:Nat}(l:∀a,c a->LeavesIn (FW none) k g h P i [] f a):∀(e:List Deferred) (a:World),Tf c e a->LeavesInM (FW none) k g h P i e f a
 |[],a,b=>l a b
 |d::e,a,b=>by
  unfold Tf at b;split at b
  ·rename_i m n
   obtain⟨o,b⟩:=b;exact⟨j,.inl ⟨m,_,n,run_takeDeferred o,nG j l e _ (b _ jw)⟩⟩
  ·exact b.elim
def tS(i:lv)(j:List Nat)(k:h.follows .mixedOrders=true)(l:h.funcs[y]? =some a5)(m:a5.body=some Z)(n:o.size<=a5.ntmps)(p:tw a5.ntmps (ks Z)=true)(a:DR h i j true Z (RS h a5 z) (λ_=>undef) (eW 0 o.toList) [] b):Calls h y o b z:=by
 refine sV.1 (callsIn_of_wp_marks (F:=FW none) (n:=0) l m trivial (wpIn_mono (TU k Z none true (RS h a5 z) _ _ _ b (.inl rfl) (kp p) (by intro d e f u b P q;subst q;exact P.elim) (vW n []) a) ?_));rintro d r v ⟨e,f,s,_,P⟩;have g:∀b,(GQ h a5.results.toList e f b λc=>z (.returned (oneOf c)) b)->LeavesIn (FW none) 0 h a5 r.tmps z [] .returning b:=λb a=>by
  obtain⟨c,t,a⟩:=pS s a;exact⟨_,pT t,a⟩
 cases d with
 |normal=>exact nG sM g _ _ P
 |ret=>exact nG sM g _ _ P
 |panic w=>exact nG sM (λb a=>a) _ _ P
 |exit id=>exact P.elim
 |goto c=>exact P.elim
 |outgrown=>exact P.elim

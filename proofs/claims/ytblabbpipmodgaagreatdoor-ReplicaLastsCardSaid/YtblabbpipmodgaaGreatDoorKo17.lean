import Derived.Test.YtblabbpipmodgaaGreatDoorKo16
set_option maxHeartbeats 4000000
set_option linter.all false
set_option maxRecDepth 20000
namespace Go.Proofs.YtblabbpipmodgaaGreatDoor
open Go.au
section
variable {w w':World} {D Fs Fv:XM} {s v:Nat} {S:ar} {V:bd} {d:aW} {c:kz} {origin start:Int}
def uO(w:World)(P:ah×Bool×Int)(d:Value)(w':World):Prop:=∃b c e G,d= .tuple #[jJ P.1 b c e,.bool P.2.1,QH P.2.2]/\Row aM 8 w' G b c P.1.aJ/\(∀a,G a->w.heap.size<=a/\a<w'.heap.size)/\ai w w'
def wh(d:aW)(s:ar)(v:bd)(origin start:Int)(c:kz):kZ d s v origin start c=if jh d c≠0 then(rf,false,jh d c)else
  match s.keyed c.key with
  |some P=>(P,false,0)
  |none=>if¬(c.expect= -1\/c.expect=((v.state c.bk c.agg).getD ⟨0,[]⟩).version)then(rf,false,11)else
   if vg (d.at c.bk) (match v.state c.bk c.agg with|some a=>a.cells|none=>dP (d.at c.bk)) c.field c.op c.arg≠0 then(rf,false,10)else
   ((aY c origin s.vec (max s.top start)).2,decide ((aY c origin s.vec (max s.top start)).1=0),(aY c origin s.vec (max s.top start)).1):=rfl
def BL{ta pa:XU}{tn tc pn pc:Nat}(hT:eP w)(hd:bl w D d ta tn pa pn)(hD:∀P,D P->P<w.heap.size)(j0:dt d=0)(hs:cF w s Fs S)(j1:S.l.length<=20000000)(hv:cI w v Fv V)(j2:V.decl=d)(o4:start<=9223372036854775807)(o1:S.top<=9223372036854775807):
  ZH 42 #[.agg #[.slice ta tn tc,.slice pa pn pc],XP s,XP v,QH origin,QH start,rW c] w (Ok (uO w (kZ d S V origin start c))):=by
 refine xB (PA.mk λw1 k1 s1 g1=>PA.mk λw2 k2 s2 g2=>PA.mk λw3 k3 s3 g3=>?_);have q:=(k1.then k2).then k3;have gd:=k3.get (k2.get g1 id) id;have gc:=k3.get g2 id;have y:∀{z:World} {no:Int},ai w3 z->kZ d S V origin start c=(rf,false,no)->BY XG 55 (XP w2.heap.size) (jJ rf none 0 0) z λt=>ri XG 55 (XP w2.heap.size) t λr=>Ok (uO w (kZ d S V origin start c)) (.returned (.tuple #[r,.bool false,QH no])) t:=λ{z no} h4 R=>
  aC (bf rf none 0 0) (h4.get g3 id) rfl λt k5 s5 g5=>ay (bf rf none 0 0) g5 (Ok.mk ⟨none,0,0,λ_=>False,by rw[R],by rw[R];exact Row.nil _ _,λP a=>a.elim,(q.then h4).new k5 λP a=>.inr oM⟩)
 refine⟨_,_,_,_,_,_,ae gd rfl,ae gd rfl,ay (BZ c) gc (PC.ok (Bf (hT.af q) (hd.af q) λP a=>by have:=hD P a;omega) ?_)⟩;rintro _ z ⟨rfl,T⟩;refine⟨_,rfl,al.dQ (λU=>y T (by rw[wh,Zx U])) (λe5=>⟨_,ae (T.get gc id) rfl,PC.ok (ML (hs.af (q.then T)) j1) ?_⟩)⟩;rintro _ t ⟨W,X,Y,G5,rfl,e6,e7,k5⟩;have b6:=T.then k5;have o5:=b6.size;have A:∀{r:ah×Bool×Int},(match S.keyed c.key with
  |some l=>(l,false,0)
  |none=>if¬(c.expect= -1\/c.expect=((V.state c.bk c.agg).getD ⟨0,[]⟩).version)then(rf,false,11)else
   if vg (d.at c.bk) (match V.state c.bk c.agg with|some B=>B.cells|none=>dP (d.at c.bk)) c.field c.op c.arg≠0 then(rf,false,10)else
   ((aY c origin S.vec (max S.top start)).2,decide ((aY c origin S.vec (max S.top start)).1=0),(aY c origin S.vec (max S.top start)).1))=r->kZ d S V origin start c=r:=λ{r} hr=>by
  rw[wh,Zq (by simpa using e5)];exact hr
 refine cD (rR _ W X Y) ⟨_,rfl,PA.mk λw6 k6 s6 g6=>aC (bf _ W X Y) g6 rfl λm k7 s7 g7=>al.mk (λhk=>?_) (λhk=>?_)⟩
 ·obtain⟨l,R⟩:=Option.isSome_iff_exists.1 hk
  rw[R]at e6 g7 A;have b2:ai t m:=k6.new k7 λP a=>.inr oM;refine ay (bf _ W X Y) g7 (aC (bf _ W X Y) (b2.get (b6.get g3 id) id) rfl λw8 k8 s8 g8=>ay (bf _ W X Y) g8 (Ok.mk ⟨W,X,Y,G5,?_,?_,λP a=>?_,?_⟩))
  ·rw[A rfl];rfl
  ·rw[A rfl]
   exact(e6.af b2).keep k8 λP a l=>by have:=e7 P a;have:=q.size;have:=T.size;omega
  ·have:=e7 P a;have:=q.size;have:=T.size;omega
  ·exact((q.then b6).then b2).new k8 λP a=>.inr oM
 have d2:S.keyed c.key=none:=by simpa using hk
 rw[d2]at A;have b2:ai t m:=k6.new k7 λP a=>.inr oM;have L:=b6.then b2;have o6:=L.size;have b7:=q.then L;have e8:kq d c.bk c.field c.op c.arg=0:=by
  have:=e5;unfold jh at this;split at this
  ·simp at this
  ·exact this
 have j3:V.decl.at c.bk=d.at c.bk:=by rw[j2]
 obtain⟨hV,b0,hq⟩:=hv;have a6:(match V.state c.bk c.agg with|some B=>B.cells|none=>dP (d.at c.bk)).length=(d.at c.bk).length:=by
  unfold bd.state
  cases hs:aq V.eE (c.bk,c.agg)with
  |none=>simp[dP]
  |some s=>rw[<-j3];exact hV.st _ (b_ hs)
 obtain⟨c4,t0,t1,o7⟩:=Le j0 e8 a6;obtain⟨C,e9⟩:∃C:Nat,c.bk=C:=⟨c.bk.toNat,oM⟩
 have j4:d.at c.bk=d.types.getD C []:=by
  unfold aW.at;rw[Zx (bF.2 ⟨t0,oM⟩),e9,Qx]
 obtain⟨tb,oF,es,j5,o8,o2,j6,fa,fn,fc,rfl,b3⟩:=(hd.af b7).bk.el C d.types[C] sM;have b3:Row nY 48 m D fa fn (d.at c.bk):=by
  rw[j4];have:d.types.getD C []=d.types[C]:=by simp[QQ,show C<d.types.length by omega]
  rw[this];exact b3
 have o9:=(hd.af b7).bk.len;have c7:=j6 0 dC;have f2:jX.k=1:=rfl;rw[f2,Nat.mul_one]at c7;have j7:=L.get gd id;have f3:=L.get gc id;refine⟨_,_,_,ae j7 rfl,_,ae f3 rfl,tb,oF,j5,t0,oM,fa,fn,fc,by rw[e9,Qx];exact c7,PA.mk λw8 k8 s8 g8=>PS.mk g8 sM λw9 k9 s9 g9=>?_⟩;have Z:ai m w9:=k8.new k9 λP a=>.inr oM;have d3:=Z.get f3 id;have d4:cI w v Fv V:=⟨hV,b0,hq⟩
 refine⟨_,ae d3 rfl,_,ae d3 rfl,PC.ok (mJ (d4.af (b7.then Z))) ?_⟩;rintro _ d5 ⟨ca,cn,cc,j8,rfl,f5,o3,M⟩;have b4:=Z.then M;have f6:=b7.then b4;have p0:=b4.size;obtain⟨E,hX⟩:∃E,E=(match V.state c.bk c.agg with|some B=>B.cells|none=>dP (d.at c.bk)):=⟨_,rfl⟩
 rw[<-hX]at c4 a6 A;refine⟨_,_,_,_,_,rfl,PA.mk λp1 j9 p2 k0=>PS.mk k0 sM λp3 l0 p4 l3=>PS.mk l3 sM λf7 l4 p5 g0=>?_⟩;have a5:ai d5 f7:=(j9.new l0 λP a=>.inr oM).new l4 λP a=>.inr oM;have l5:f7.heap[m.heap.size]? =some (.cells #[.slice fa fn fc] 130 (0,0)):=a5.get (M.get g9 id) id;have c8:=f5.af a5;refine⟨λw'=>ai d5 w'/\∃ca cn cc G,w'.heap[d5.heap.size]? =some (.cells #[QH ((V.state c.bk c.agg).getD ER).version,.slice ca cn cc] 42 (0,0))/\Row gG 32 w' G ca cn E,?_,?_⟩
 ·refine al.not (al.mk (λl6=>⟨a5,ca,cn,cc,j8,g0,?_⟩) (λl7=>⟨_,_,_,ae l5 rfl,PC.ok (FL (t:=d.at c.bk) rfl b3.len (by rw[b3.len];omega)) ?_⟩))
  ·obtain⟨B,hx⟩:=Option.isSome_iff_exists.1 l6
   rw[hx]at c8 hX;have b8:E=B.cells:=hX;rw[b8];exact c8.row dC (by show B.cells.length*32<=aS;rw[<-b8,a6];unfold aS;omega)
  ·rintro _ p6 ⟨b1,n6,c6,G6,rfl,l8,d6,l9⟩
   have p7:=d6.size;refine⟨_,_,_,rfl,PS.mk (d6.get g0 id) sM λp8 g4 p9 m0=>⟨(a5.then d6).new g4 λP a=>.inr oM,b1,n6,c6,G6,m0,?_⟩⟩;have hn:V.state c.bk c.agg=none:=by simpa using l7
   rw[hn]at hX;have b8:E=dP (d.at c.bk):=hX;rw[b8];exact(l8.keep g4 λP a l=>by have:=l9 P a;omega).row dC (by unfold aS dP;simp;omega)
 rintro _ m1 ⟨m2,q0,q1,q2,G2,h3,h5⟩;refine PA.mk λh8 d7 q3 m3=>?_;have F:=m2.then d7;have m4:=F.size;have c9:=f6.then F;have h9:=d7.get h3 id;have i0:=F.get (M.get d3 id) id;have i1:=F.get (M.get g9 id) id;have i2:=(((L.then Z).then M).then F).get g3 id;have n:∀{z:World} {no:Int},ai h8 z->kZ d S V origin start c=(rf,false,no)->BY XG 55 (XP w2.heap.size) (jJ rf none 0 0) z λt=>ri XG 55 (XP w2.heap.size) t λr=>Ok (uO w (kZ d S V origin start c)) (.returned (.tuple #[r,.bool false,QH no])) t:=λ{z no} h4 R=>y (((L.then Z).then M).then (F.then h4)) R;refine⟨λa9 c5 w'=>∃H:Nat,c5=H/\H<=2/\a9=2-H/\ai h8 w'/\(1<=H->c.expect= -1\/c.expect=((V.state c.bk c.agg).getD ⟨0,[]⟩).version)/\(2<=H->vg (d.at c.bk) E c.field c.op c.arg=0),⟨_,0,rfl,oM,rfl,aj.refl _,λh=>oM,λh=>oM⟩,?_⟩;rintro a9 _ _ I ⟨H,rfl,hj,rfl,j,d8,m5⟩;have d0:=j.get h9 id;have a0:=j.get i0 id;have i3:=j.get i1 id;have d1:=j.get m3 id;refine al.dec (λq4=>⟨m1.heap.size,0,rfl,oM,oM,?_⟩) (λq5=>?_)
 ·have m6:H=0\/H=1:=oM
  rcases m6 with rfl|rfl
  ·refine⟨_,ae d1 rfl,_,_,_,rfl,kR,PC.ok (φ:=λv w'=>v= QH (if c.expect= -1\/c.expect=((V.state c.bk c.agg).getD ⟨0,[]⟩).version then 0 else 11)/\I=w') (tD ⟨_,ae a0 rfl,al.dU (λh1=>Ok.mk ⟨by rw[Zx (.inl h1)],rfl⟩) (λh1=>⟨_,ae a0 rfl,_,ae d0 rfl,al.dU (λh2=>Ok.mk ⟨by rw[Zx (.inr h2)],rfl⟩) (λh2=>Ok.mk ⟨by rw[Zq (by rintro(h|h);exact h1 h;exact h2 h)],rfl⟩)⟩)⟩) ?_⟩
   rintro _ _ ⟨rfl,rfl⟩
   by_cases hx:c.expect= -1\/c.expect=((V.state c.bk c.agg).getD ⟨0,[]⟩).version
   ·rw[Zx hx]
    exact⟨_,rfl,al.ff rfl ⟨_,oM,1,rfl,oM,rfl,j,λ_=>hx,λh=>oM⟩⟩
   ·rw[Zq hx]
    exact⟨_,rfl,al.tt rfl (n j (A (by rw[Zx hx])))⟩
  ·refine⟨_,ae d1 rfl,_,_,_,rfl,kR,PC.ok (φ:=λv w'=>v= QH (vg (d.at c.bk) E c.field c.op c.arg)/\ai I w') (tE ⟨_,_,_,ae i3 rfl,_,_,_,ae d0 rfl,_,ae a0 rfl,_,ae a0 rfl,_,ae a0 rfl,PC.ok (FK c4 ((b3.af (b4.then F)).af j) ((h5.af d7).af j)) ?_⟩) ?_⟩
   ·rintro _ m7 ⟨rfl,b9⟩
    exact⟨_,rfl,Ok.mk ⟨rfl,b9⟩⟩
   ·rintro _ m7 ⟨rfl,b9⟩
    refine⟨_,rfl,al.dQ (λU=>n (j.then b9) (A ?_)) (λh0=>⟨_,oM,2,rfl,oM,rfl,j.then b9,λ_=>d8 oM,λ_=>h0⟩)⟩;have m8:vg (d.at c.bk) E c.field c.op c.arg=10:=by
     rw[Dq]at U⊢;split at U
     ·simp at U
     ·rename_i hq;rw[Zq hq]
    rw[Zq (λh=>h (d8 oM)),Zx U,m8]
 have i4:=A (r:=((aY c origin S.vec (max S.top start)).2,decide ((aY c origin S.vec (max S.top start)).1=0),(aY c origin S.vec (max S.top start)).1)) (by rw[Zq (λh=>h (d8 oM)),Zq (by rw[m5 oM];simp)]);have J:(if start>S.top then start else S.top)=max S.top start:=by split<;>omega
 have c0:(if start>S.top then start else S.top)<=9223372036854775807:=by split<;>omega
 refine⟨λeb eo no w'=>eo=0/\no=(aY c origin S.vec (max S.top start)).1/\ai I w'/\∃a2 a3 a7 G,w'.heap[eb]? =some (.cells (aF (aY c origin S.vec (max S.top start)).2 a2 a3 a7).toArray 55 (0,0))/\Row aM 8 w' G a2 a3 (aY c origin S.vec (max S.top start)).2.aJ/\∀P,G P->I.heap.size<=P/\P<w'.heap.size,?_,?_⟩
 rotate_left
 ·rintro eb _ no _ q6 ⟨rfl,rfl,d9,b,e,f,p,ge,u,g⟩
  have i5:=d9.get (j.get i2 id) id;have zk:=j.size;have q7:=d9.size;have zw:=q.size;refine ay (bf _ b e f) ge (aC (bf _ b e f) i5 rfl λq8 i6 q9 m9=>ay (bf _ b e f) m9 (Ok.mk ⟨b,e,f,p,?_,?_,λP a=>?_,?_⟩))
  ·rw[i4];rfl
  ·rw[i4];exact u.keep i6 λP a l=>by have:=g P a;omega
  ·have:=g P a;omega
  ·exact(((c9.then j).then d9)).new i6 λP a=>.inr oM
 ·intro N i7
  have e0:ai I N:=i7.keep;have r0:N.heap.size=I.heap.size:=by rw[i7.heap]
  have i8:=e0.get a0 id;have a4:=hs.af ((c9.then j).then e0);have zk:=j.size;have hn:=hs.1.n;have c1:S.vec.length<=20000000:=by rw[S.bZ];omega
  have c2:S.vec.length*8<=aS:=by unfold aS;omega
  have x:∀{wE w6 m:World} {a1:Nat} {b:XU} {e f:Nat} {p:XM},ai N wE->Row aM 8 wE p b e (aY c origin S.vec (max S.top start)).2.aJ->(∀P,p P->N.heap.size<=P/\P<wE.heap.size/\P≠a1)->ai wE w6->N.heap.size<=a1->aj (λP=>P=a1) w6 m->m.heap.size=w6.heap.size->m.heap[a1]? =some (.cells (aF (aY c origin S.vec (max S.top start)).2 b e f).toArray 55 (0,0))->
    (λ(eb eo:Nat) (no:Int) (w':World)=>eo=0/\no=(aY c origin S.vec (max S.top start)).1/\ai I w'/\∃a2 a3 a7 G,w'.heap[eb]? =some (.cells (aF (aY c origin S.vec (max S.top start)).2 a2 a3 a7).toArray 55 (0,0))/\Row aM 8 w' G a2 a3 (aY c origin S.vec (max S.top start)).2.aJ/\∀P,G P->I.heap.size<=P/\P<w'.heap.size) a1 0 (aY c origin S.vec (max S.top start)).1 m:=λ{wE w6 m a1 b e f p} hE hr hG h6 hg h7 r3 n0=>by
   have z6:=h6.size;exact⟨rfl,rfl,((e0.then hE).then h6).new h7 λP a=>.inr oM,b,e,f,p,n0,(hr.af h6).keep h7 λP a l=>(hG P a).2.2 l,λP a=>by have:=hG P a;omega⟩
  have zc:¬(N.heap.size<=w1.heap.size):=by
   have h1:=((((k3.then L).then Z).then M).then F).size;omega
  refine⟨λP=>N.heap.size<=P,zc,ay (BZ c) i8 ⟨PC.ok (kQ a4) ?_,PA.mk λr4 c3 r5 n1=>⟨ai.keep c3,PC.ok (kQ (a4.af c3)) ?_⟩⟩⟩
  ·rintro _ n2 ⟨av,nv,cv,a8,rfl,b5,k,n3⟩
   have n4:=k.size;refine⟨_,_,_,rfl,ai.keep k,PC.ok (EN (a4.af k)) ?_,PA.mk λn8 K n9 e1=>⟨ai.keep K,PC.ok (EN ((a4.af k).af K)) ?_⟩⟩
   ·rintro _ _ ⟨rfl,rfl⟩
    refine⟨_,rfl,aj.refl _,?_,?_⟩
    ·rw[J]
     refine PC.ok (iZ (b5.row dC c2) (by rw[<-J];exact c0) c1) ?_;rintro _ e2 ⟨b,e,f,p,rfl,u,g,i⟩;have e3:=i.size;exact cD (rR _ b e f) ⟨_,rfl,ai.keep i,PA.mk λr6 i9 r7 o0=>⟨ai.keep i9,aC (bf _ b e f) o0 rfl λe4 o O Q=>⟨o.mono λP _ l=>oM,x (k.then i) u (λP a=>⟨by have:=g P a;omega,(g P a).2,by have:=g P a;omega⟩) i9 oM o O Q⟩⟩⟩
    ·refine PA.mk λn8 K n9 e1=>⟨ai.keep K,?_⟩
     rw[J];refine PC.ok (iZ ((b5.af K).row dC c2) (by rw[<-J];exact c0) c1) ?_;rintro _ e2 ⟨b,e,f,p,rfl,u,g,i⟩;have e3:=i.size;exact cD (rR _ b e f) ⟨_,rfl,ai.keep i,aC (bf _ b e f) (i.get e1 id) rfl λe4 o O Q=>⟨o.mono λP _ l=>oM,x ((k.then K).then i) u (λP a=>⟨by have:=g P a;omega,(g P a).2,by have:=g P a;omega⟩) (aj.refl _) oM o O Q⟩⟩
   ·rintro _ _ ⟨rfl,rfl⟩
    refine⟨_,rfl,aj.refl _,?_⟩;refine PC.ok (by rw[J];exact iZ ((b5.af K).row dC c2) (by rw[<-J];exact c0) c1) ?_;rintro _ e2 ⟨b,e,f,p,rfl,u,g,i⟩;have e3:=i.size;exact cD (rR _ b e f) ⟨_,rfl,ai.keep i,aC (bf _ b e f) (i.get e1 id) rfl λe4 o O Q=>⟨o.mono λP _ l=>oM,x ((k.then K).then i) u (λP a=>⟨by have:=g P a;omega,(g P a).2,by have:=g P a;omega⟩) (aj.refl _) oM o O Q⟩⟩
  ·rintro _ n2 ⟨av,nv,cv,a8,rfl,b5,k,n3⟩
   have n4:=k.size;refine⟨_,_,_,rfl,ai.keep k,PC.ok (EN ((a4.af c3).af k)) ?_⟩;rintro _ _ ⟨rfl,rfl⟩;refine⟨_,rfl,aj.refl _,?_⟩;refine PC.ok (by rw[J];exact iZ (b5.row dC c2) (by rw[<-J];exact c0) c1) ?_;rintro _ e2 ⟨b,e,f,p,rfl,u,g,i⟩;have e3:=i.size;exact cD (rR _ b e f) ⟨_,rfl,ai.keep i,aC (bf _ b e f) ((k.then i).get n1 id) rfl λe4 o O Q=>⟨o.mono λP _ l=>oM,x ((c3.then k).then i) u (λP a=>⟨by have:=g P a;omega,(g P a).2,by have:=g P a;omega⟩) (aj.refl _) oM o O Q⟩⟩
end
structure jG where
 ta:XU
 tn:Nat
 tc:Nat
 pa:XU
 pn:Nat
 pc:Nat
 dp:Nat
 lp:XU
 sp:Nat
 bp:Nat
 wp:Nat
 tp:Nat
abbrev jG.cells(P:jG)(a:cJ)(b:Int):Array Value:= #[QH a.bT,QH a.sO,QH a.bh,QH a.chunk,QH a.buffer,QH a.cZ,QH a.every,QH a.start,.slice P.ta P.tn P.tc,.slice P.pa P.pn P.pc,QH b,
 XP P.dp,.pointer P.lp,XP P.sp,XP P.bp,XP P.wp,XP P.tp]
def DL(c:World)(G:XM)(d:Nat)(e:XU)(D:ak)(a:Option dm):Prop:=
 ∃b,aT c d b D/\(∀P,b P->G P)/\match a with
  |none=>e=none
  |some f=>f.a_≠[]/\∃g h,e=some ⟨g,0,none⟩/\iH c d g h f/\∀P,h P->G P/\¬b P
def Ma(c:World)(G:XM)(d:Nat)(P:Nat)(e:List ah):Prop:=∃b D,gH c d b D P e/\(∀a,b a->G a)/\∀a,D a->G a
def kN(d:Nat)(e:Array Value)(a:jG)(c:cJ)(b:bM)(f:List ah):Nat->World->(XM)->Prop
 |0=>λP G=>G d/\P.heap[d]? =some (.cells e 99 (0,0))
 |1=>λP G=>bl P G c.decl a.ta a.tn a.pa a.pn
 |2=>λP G=>DL P G a.dp a.lp b.D b.log
 |3=>λP G=>cF P a.sp G b.S/\b.S.Cl/\b.S.n=c.bT.toNat
 |4=>λP G=>dZ P a.bp G c.decl c.every.toNat f
 |5=>λP G=>Ma P G a.wp c.buffer.toNat b.waits
 |6=>λP G=>dX P a.tp G b.fM
 |_=>λ_ _=>True
variable{a1 o:Array Value}{B:List ah}{a:Nat}{f:XM}{a9:dm}
section
variable {w w' w0:World} {p:Nat} {F G T:XM} {cls:Nat->Nat} {h:jG} {c:cJ} {self:Int} {X:bM} {dp:Nat} {lp:XU} {D:ak} {log:Option dm}
def DL.keep(h:DL w G dp lp D log)(b:aj T w w')(c:∀P,G P->¬T P):DL w' G dp lp D log:=by
 obtain⟨g,i,d,e⟩:=h;refine⟨g,i.keep b λP a=>c P (d P a),d,?_⟩
 cases log with
 |none=>exact e
 |some o=>
  obtain⟨j,k,l,m,n,f⟩:=e;exact⟨j,k,l,m,n.keep b λP a=>c P (f P a).1,f⟩
def bQ:s_ (kN p o h c X B):=by
 intro k w w' G T P b a
 match k,P with
 |0,P=>exact⟨P.1,b.get P.2 (a p P.1)⟩
 |1,P=>exact bl.keep P b a
 |2,P=>exact DL.keep P b a
 |3,P=>exact⟨cF.keep P.1 b a,P.2⟩
 |4,P=>exact dZ.keep P b a
 |5,P=>obtain⟨i,D,j,f,g⟩:=P;exact⟨i,D,j.keep b (λd e=>a d (f d e)) λd e=>a d (g d e),f,g⟩
 |6,P=>exact dX.keep P b a
 |k+7,P=>trivial
structure mz (c:cJ) (me:Int):Prop where
 right:jH c me=true
 decl:dt c.decl=0
 VW:aN c.bh
 every:aN c.every
 start:aN c.start
structure Env (w0 w:World) (F:XM):Prop where
 mQ:eP w0
 laid:Laid w0
 gr:ai w0 w
 aE:∀b,F b->w0.heap.size<=b
def Env.AW(h:Env w0 w F)(b:cO F w f w'):Env w0 w' f:=⟨h.mQ,h.laid,h.gr.new b.keep λP a=>.inr (h.aE P a),λP a=>(b.new P a).elim (h.aE P) λc=>by have:=h.gr.size;omega⟩
def Env.af(h:Env w0 w F)(P:ai w w'):Env w0 w' F:=⟨h.mQ,h.laid,h.gr.then P,h.aE⟩
abbrev cU(w:World)(F:XM)(cls:Nat->Nat)(p:Nat)(h:jG)(c:cJ)(self:Int)(X:bM):Prop:=bH w F cls (kN p (h.cells c self) h c X X.S.l)
def bP(w:World)(p:Nat)(F:XM)(c:cJ)(self:Int)(X:bM):Prop:=mz c self/\∃h cls,cU w F cls p h c self X
def cU.af(P:cU w F cls p h c self X)(a:ai w w'):cU w' F cls p h c self X:=bH.af P bQ a
def cU.bD(P:cU w F cls p h c self X):w.heap[p]? =some (.cells (h.cells c self) 99 (0,0)):=(P.at' 0).2
def cU.Hh(P:cU w F cls p h c self X):F p/\cls p=0:=(P.at' 0).1
def bP.keep(a:bP w p F c self X)(b:aj T w w')(d:∀P,F P->¬T P):bP w' p F c self X:=by
 obtain⟨e,h,cls,f⟩:=a;exact⟨e,h,cls,bH.keep f bQ b d⟩
def bP.af(P:bP w p F c self X)(a:ai w w'):bP w' p F c self X:=P.keep a λ_ _ h=>h
def bP.aE(a:bP w p F c self X):∀P,F P->P<w.heap.size:=by obtain⟨d,h,cls,b⟩:=a;exact b.aE
def cU.store{b:jG}(P:bH w F cls (kN p o b c X B))(e:aj (·=p) w w')(f:w'.heap[p]? =some (.cells a1 99 (0,0))):bH w' F cls (kN p a1 b c X B):=by
 refine bH.same P bQ (k:=0) (e.mono λg _ a=>by have a:g=p:=a;exact a▸(P.at' 0).1) ⟨(P.at' 0).1,f⟩ λd G h i=>?_;rcases d with _|_|_|_|_|_|_|d<;>first|exact i|exact Zz rfl h
def DL.Mz(h:DL w G dp lp D (some a9))(d:Env w0 w G)(m:∀P,G P->P<w.heap.size):∃c,lp=XL c/\a9.a_≠[]/\cy w0 w dp c a9 D (λP=>P<w.heap.size/\¬G P):=by
 obtain⟨i,j,f,k,c,l,rfl,g,e⟩:=h;refine⟨c,rfl,k,l,⟨i,j,d.gr,λP a=>⟨d.aE P (f P a),λb=>?_⟩,λP a=>?_⟩,g,λP a=>⟨d.aE P (e P a).1,λb=>b.2 (e P a).1⟩⟩
 ·rcases b with b|b
  ·exact b.2 (f P a)
  ·exact(e P b).2 a
 ·rcases a with a|a
  ·exact a.1
  ·exact g.aE P a
def DL.sO(d:DL w G dp lp D log)(b:Env w0 w G):aZ w0 w dp D (λP=>P<w.heap.size/\¬G P):=by
 obtain⟨e,f,c,-⟩:=d;exact⟨e,f,b.gr,λP a=>⟨b.aE P (c P a),λg=>g.2 (c P a)⟩,λP a=>a.1⟩
def DL.Ey{Y:XM}(m:cy w0 w' dp a a9 D (λP=>(P<w.heap.size/\¬G P)\/Y P))(n:aj (dK λP=>P<w.heap.size/\¬G P) w w')(o:a9.a_≠[]):∃d,DL w' d dp (XL a) D (some a9)/\cO G w d w'/\(∀P,d P->P<w'.heap.size)/\∀P,d P->¬Y P:=by
 obtain⟨g,⟨h,i,r,e,s⟩,j,k⟩:=m;have f:∀P,¬(P<w.heap.size/\¬G P)->G P\/w.heap.size<=P:=λP b=>by
  rcases Nat.lt_or_ge P w.heap.size with c|c
  ·exact .inl (Classical.byContradiction λp=>b ⟨c,p⟩)
  ·exact .inr c
 refine⟨λP=>h P\/g P,⟨h,i,λP b=>.inl b,o,a,g,rfl,j,λP b=>⟨.inr b,λq=>(e P q).2 (.inr b)⟩⟩,⟨n.mono λP t b=>(f P b).resolve_right oM,λP b=>?_⟩,λP b=>?_,λP b l=>?_⟩
 ·rcases b with b|b
  ·exact f P λc=>(e P b).2 (.inl (.inl c))
  ·exact f P λc=>(k P b).2 (.inl c)
 ·exact b.elim (i.aE P) (j.aE P)
 ·rcases b with b|b
  ·exact(e P b).2 (.inl (.inr l))
  ·exact(k P b).2 (.inr l)
def DL.KS{Y:XM}(h:aZ w0 w' dp D (λP=>(P<w.heap.size/\¬G P)\/Y P))(i:aj (dK λP=>P<w.heap.size/\¬G P) w w'):∃c,DL w' c dp none D none/\cO G w c w'/\(∀P,c P->P<w'.heap.size)/\∀P,c P->¬Y P:=by
 obtain⟨d,e,l,f,m⟩:=h;have g:∀P,¬(P<w.heap.size/\¬G P)->G P\/w.heap.size<=P:=λP a=>by
  rcases Nat.lt_or_ge P w.heap.size with b|b
  ·exact .inl (Classical.byContradiction λj=>a ⟨b,j⟩)
  ·exact .inr b
 exact⟨d,⟨d,e,λP a=>a,rfl⟩,⟨i.mono λP n a=>(g P a).resolve_right oM,λP a=>g P λb=>(f P a).2 (.inl b)⟩,λP a=>e.aE P a,λP a k=>(f P a).2 (.inr k)⟩
end
def Ho{D:ak}(a:a9.a_≠[]):(aK a9 D).2.1.a_≠[]:=by
 have c:∀P:ak,(lJ a9 P).2.1.a_≠[]:=by
  intro P;unfold lJ;dsimp only;split
  ·exact a
  ·split
   ·exact a
   ·simp
 have b:∀P:ak,(bu a9 P).2.1.a_≠[]:=by
  intro P;unfold bu;dsimp only;split
  ·exact a
  ·exact c _
 unfold aK;dsimp only;split
 ·exact b D
 ·split
  ·exact a
  ·exact b _
def EC{D:ak}{l:List ah}(P:a9.a_≠[]):(aD a9 D l).2.1.a_≠[]:=by
 unfold aD;dsimp only;have a:(if a9.size<=a9.bytes then aK a9 D else(0,a9,D)).2.1.a_≠[]:=by
  split
  ·exact Ho P
  ·exact P
 generalize(if a9.size<=a9.bytes then aK a9 D else(0,a9,D))=b at a⊢;split
 ·exact P
 split
 ·exact P
 split
 ·exact a
 split
 ·exact a
 ·exact a
variable{Y c5 e u:Int}{q:List Int}{a4 f9:List PanicEntry->XT}{c0:List br}{H:Nat×Nat}{V X:Operand}{d t:XU}{L:Prop}{i:Type}{g n:TypeId}{m r:XN}{b:World}{N:aW}{K l:ah}{C:ar}{c9:kz}
def JN(e:Row iC 96 b f d a B):∀P∈B,P.Ok:=λP g=>by
 obtain⟨c,h,rfl⟩:=List.getElem_of_mem g;obtain⟨j,k,l,-,-,-,-,m,n,o,-,-,i⟩:=e.el c B[c] (Qq h);exact i
def ar.Hp:∀{l:List ah} {S:ar} {P:ah},P∈S.l->P∈(S.ey l).l
 |[],S,P,a=>a
 |e::l,S,P,a=>ar.Hp (l:=l) (S:=(S.add e).2) (by
  rcases S.gJ e with⟨-,b⟩|⟨c,-⟩
  ·rw[b];exact a
  ·rw[c];exact(cP e S.l).mem_iff.2 (QJ _ a))
def uq{P:cJ}(b:C.Cl)(c:C.n=P.bT.toNat)(a:List ah):eJ P C a=C.ey a:=by
 unfold eJ;rw[ar.yO,<-c,b.Sa]
section
variable {w w' w0:World} {p:Nat} {F E T:XM} {cls:Nat->Nat} {h:jG} {c:cJ} {self:Int} {X:bM} {evs:List ah} {ea:XU} {en ec:Nat}
def mz.bT(P:mz c self):c.bT=(c.bT.toNat:Int)/\c.bT.toNat<=64/\1<=c.bT.toNat:=by
 have:=P.right;unfold jH within at this;simp only[QK,Zk]at this;omega
def Hq(s:cU w F cls p h c self X)(b0:mz c self)(hr:Row iC 96 w E ea en evs)(t:∀P,E P->P<w.heap.size)(hl:X.S.l.length+evs.length<=20000000):
  ZH 93 #[XP p,.slice ea en ec] w (Ok λa0 w'=>∃L d,a0= XP L/\cF w' L d (eJ c X.S evs)/\(∀P,d P->w.heap.size<=P)/\ai w w'):=by
 obtain⟨b1,b2,c5⟩:=b0.bT;have fQ:=(s.at' 3).1;refine mY ⟨p,0,rfl,_,ae s.bD rfl,?_⟩;rw[b1];refine PC.ok (Dg b2) ?_;rintro _ w7 ⟨u,k,rfl,M,v,l⟩;have g:=cU.af s l;refine⟨_,rfl,p,0,rfl,_,ae g.bD rfl,PC.ok (qk (fQ.af l) oM) ?_⟩;rintro _ c6 ⟨a2,x,c1,G,rfl,i,y,m⟩;have N:=M.aE;have c7:=i.aE;have z7:=l.size;have c8:=y.size;have O:=l.then y;refine⟨_,_,_,rfl,yl i E_ (hr.af O) (λP a=>⟨by have:=t P a;omega,λz=>by have:=t P a;have:=m P (i.self P z);omega⟩) ba (by unfold maxLen;omega) λa' c' n Q A B b3 _=>⟨_,_,_,rfl,?_⟩⟩;have b4:=A.len dC;have c9:=B.size;rw[QX]at b4;have a3:Row iC 96 n Q a' (x+en) (X.S.l++evs):=A.row dC (by rw[QX];unfold aS;omega);have R:=A.aE;have S:∀P,Q P->¬k P:=λP a o=>by
  have e:=v P o;have h6:=N P o;rcases b3 P a with g|g|g
  ·have:=m P g;omega
  ·have:=t P g;omega
  ·omega
 have a4:ai w n:=O.new B λP a=>.inr (by have:=m P (i.self P a);omega);have a5:=(M.af y).keep B λP a z=>by have:=N P a;have:=m P (i.self P z);omega
 refine⟨λT C w'=>∃(b:Nat) (d:XM),C=b/\b<=x+en/\T=x+en-b/\cF w' u d ((⟨c.bT.toNat,[]⟩:ar).ey ((X.S.l++evs).take b))/\(∀P,d P->k P\/n.heap.size<=P)/\aj k n w',⟨_,0,k,rfl,Qj _,rfl,a5,λP a=>.inl a,aj.refl _⟩,?_⟩;rintro T _ _ U ⟨b,d,rfl,hj,rfl,H,q,r⟩;have d0:=r.size;refine al.dec (λd1=>?_) (λd2=>?_)
 ·obtain⟨f,V⟩:∃f,(X.S.l++evs)[b]? =some f:=⟨_,Qq (by rw[QX];omega)⟩
  obtain⟨P,a1,es,ha,d3,d4,b5,I,J,K,rfl,b6,a7⟩:=(a3.keep r S).el b f V;refine⟨P,a1,ha,oM,oM,bW (es:=aF f I J K) (k:=10) (bf _ _ _ _) rfl (λC ht=>by rw[Qx];exact b5 C ht) (PA.mk λd5 b7 d6 b8=>aC (bf f I J K) b8 rfl λb9 c0 d7 c2=>ay (bf f I J K) c2 ?_)⟩;have j:ai U b9:=b7.new c0 λP a=>.inr (by have a:P=U.heap.size:=a;omega);have W:=ar.lR ((X.S.l++evs).take b) ⟨c.bT.toNat,[]⟩;rw[Qy,QX]at W;simp only[ZQ]at W;refine PC.ok (tk (H.af j) (b6.af j) (λP a=>⟨by have:=R P a;have:=j.size;omega,λo=>?_⟩) a7 oM) ?_
  ·rcases q P o with e|e
   ·exact S P a e
   ·have:=R P a;omega
  rintro _ c3 ⟨rfl,Y,c4,Z⟩;refine⟨_,rfl,_,oM,b+1,Y,an oM,oM,rfl,?_,λP a=>?_,(r.af j).new Z.keep λP a=>q P a⟩
  ·rw[Qw,V]
   show cF c3 u Y (ar.ey _ ((X.S.l++evs).take b++[f]));rw[ar.ql];exact c4
  ·rcases Z.new P a with e|e
   ·exact q P e
   ·have:=j.size;exact .inr oM
 ·rw[Qz (by rw[QX];omega)]at H
  exact Ok.mk ⟨u,d,rfl,H,λP a=>(q P a).elim (v P) λe=>oM,a4.new r λP a=>.inr (v P a)⟩
end
section
variable {w w' w0:World} {p:Nat} {F E T:XM} {cls:Nat->Nat} {h:jG} {c:cJ} {self:Int} {X:bM} {evs lB:List ah} {ea:XU} {en ec:Nat}
def Env.sub(a:Env w0 w F)(b:∀P,f P->F P):Env w0 w f:=⟨a.mQ,a.laid,a.gr,λP c=>a.aE P (b P c)⟩
def OP(P:C.OK)(b:l∈C.l)(c:K∈C.l)(d:aX l=aX K):l=K:=by
 have a:=P.get b;have e:=P.get c;rw[d,e]at a;exact(XJ a).symm
def AD(v:bH w F cls (kN p (h.cells c self) h c X lB))(l:Env w0 w F)(R:∀(x:Nat) (m n:ah),lB[x]? =some m->X.S.l[x]? =some n->aX m=aX n->m=n)(y:X.S.l.length<=20000000){κ:XN}(o:∀w' g a,cU w' g a p h c self X->cO F w g w'->κ (QH 0) w'):
  ∀nX,bY w nX->∃q:XM,(∃r z,(XL p:XU)=some ⟨r,z,none⟩/\(¬q r/\(∃(A:XU),nX.cell? ⟨r,z+14,none⟩=some (.pointer A)/\(∃B C,(XL p:XU)=some ⟨B,C,none⟩/\(∃(E:XU),nX.cell? ⟨B,C+13,none⟩=some (.pointer E)/\
   PC XG 41 #[.pointer E] nX (λS d=>∃(H:XU) (I:Nat) (J:Nat),S= .slice H I J/\(aj q nX d/\PC XG 76 #[.pointer A,.slice H I J] d (λT i=>∃(U:Int),T= QH U/\(aj q d i/\κ (QH 0) i)) a4)) f9))))):=by
 intro nX V;have s:ai w nX:=V.keep;have j:=bH.af v bQ s;have K:=(j.at' 0).2;refine⟨λP=>F P/\cls P=4,p,0,rfl,λW=>?_,_,ae K rfl,p,0,rfl,_,ae K rfl,PC.ok (qk (show cF nX h.sp (λP=>F P/\cls P=3) X.S from(j.at' 3).1) y) ?_⟩
 ·have:=W.2
  have Y:=(show(F p/\cls p=0)/\_ from v.at' 0).1.2;rw[Y]at this;cases this
 rintro _ d ⟨a1,a2,cc,G,rfl,t,f,Z⟩;have b5:=f.size;have a6:=j.aE;have L:=bH.af j bQ f;have a8:=t.mL;have a0:dZ d h.bp (λP=>F P/\cls P=4) c.decl c.every.toNat lB:=L.at' 4;refine⟨_,_,_,rfl,ai.keep f,PC.ok (Fg a0 l.mQ ((l.gr.then s).then f) (λP e=>l.aE P e.1) (t.row dC ba) a8 (λP e=>⟨t.aE P e,λhf=>by have:=a6 P hf.1;have:=Z P e;omega⟩) y R) ?_⟩;rintro _ i ⟨k,rfl,G4,M,N⟩;obtain⟨g,a,u,b,-,-⟩:=L.AW bQ (k:=4) (G':=G4) (C2:=kN p (h.cells c self) h c X X.S.l) N M.aE M λO G hj hc=>by
  rcases O with _|_|_|_|_|_|_|O<;>first|exact hc|exact Zz rfl hj
 have Q:ai w d:=s.then f;exact⟨_,rfl,N.keep,o i g a u ⟨(ai.keep Q).then b.keep,λP e=>(b.new P e).imp id λh1=>by have:=Q.size;omega⟩⟩
def Hi(x:cU w F cls p h c self X)(c1:mz c self)(y:Env w0 w F){V:dm}(b3:X.log=some V)(Y:Row iC 96 w E ea en evs)(Z:∀a,E a->a<w.heap.size/\¬(F a/\cls a=2))(hl:X.S.l.length+evs.length<=20000000):
  ZH 43 #[XP p,.slice ea en ec] w (Ok λz w'=>z= QH (dh c X evs).1/\∃A r e,cU w' r e p A c self (dh c X evs).2/\cO F w r w'/\A.wp=h.wp):=by
 obtain⟨d,D,c2,P,j⟩:=X;simp only at b3 hl;subst b3;obtain⟨hS,B,hn⟩:=(show cF w h.sp (λa=>F a/\cls a=3) d/\d.Cl/\d.n=c.bT.toNat from x.at' 3)
 have c3:=x.aE;obtain⟨e1,C,H,a0⟩:=DL.Mz (show DL w (λa=>F a/\cls a=2) h.dp h.lp D (some V)from x.at' 2) (y.sub λa b=>b.1) λa b=>c3 a b.1;have c4:=JN Y;have a2:∀a,E a->a<w.heap.size:=λa b=>(Z a b).1;refine mV ⟨p,0,rfl,_,ae x.bD rfl,?_⟩;rw[C];refine PC.ok (Jy y.laid a0 H Y a2 oM) ?_;rintro _ w7 ⟨rfl,a1,k7⟩;have I:=EC (D:=D) (l:=evs) H;have s:∀{a3},(if(aD V D evs).1≠0 then((aD V D evs).1,({S:=d,D:=(aD V D evs).2.2,log:=some (aD V D evs).2.1,waits:=P,fM:=j}:bM))else
   if((aD V D evs).2.2.sync (aD V D evs).2.1.last).1≠0 then(((aD V D evs).2.2.sync (aD V D evs).2.1.last).1,{S:=d,D:=((aD V D evs).2.2.sync (aD V D evs).2.1.last).2,log:=some (aD V D evs).2.1,waits:=P,fM:=j})else
   (0,{S:=eJ c d evs,D:=((aD V D evs).2.2.sync (aD V D evs).2.1.last).2,log:=some (aD V D evs).2.1,waits:=P,fM:=j}))=a3->dh c ⟨d,D,some V,P,j⟩ evs=a3:=λ{a3} hq=>hq
 generalize e2:aD V D evs=ap at a1 I s;obtain⟨e3,t,D7⟩:=ap;simp only at a1 I s;obtain⟨G7,J,a4,a5,-⟩:=DL.Ey (Y:=λ_=>False) (a1.mono λa b=>b.elim id False.elim) k7 I;obtain⟨F7,l,K,f,-,-,c5⟩:=x.AW bQ (k:=2) (G':=G7) (C2:=kN p (h.cells c self) h c ⟨d,D7,some t,P,j⟩ d.l) a4 a5 (by rw[<-C]at J;exact J) λm G L M=>by
  rcases m with _|_|_|_|_|_|_|m<;>first|exact M|exact Zz rfl L
 refine⟨_,rfl,al.dQ (λa6=>Ok.mk ?_) (λh0=>?_)⟩
 ·rw[s (Zx a6)]
  exact⟨rfl,h,F7,l,K,f,rfl⟩
 simp only at h0;have c6:=y.AW f;obtain⟨q2,n,-,u⟩:=DL.Mz (show DL w7 (λa=>F7 a/\l a=2) h.dp h.lp D7 (some t)from K.at' 2) (c6.sub λa b=>b.1) λa b=>K.aE a b.1;refine⟨p,0,rfl,_,ae (K.at' 0).2 rfl,?_⟩;rw[n];refine PC.ok (GV y.laid u I) ?_;rintro _ b4 ⟨rfl,a7,c7⟩;generalize e4:D7.sync t.last=sy at a7 s;obtain⟨s1,S⟩:=sy;simp only at a7 s;obtain⟨a8,o,i,N,-⟩:=DL.Ey (Y:=λ_=>False) (a7.mono λa b=>b.elim id False.elim) c7 I;obtain⟨O,v,g,k,-,a9,T⟩:=K.AW bQ (k:=2) (G':=a8) (C2:=kN p (h.cells c self) h c ⟨d,S,some t,P,j⟩ d.l) i N (by rw[<-n]at o;exact o) λm G L M=>by
  rcases m with _|_|_|_|_|_|_|m<;>first|exact M|exact Zz rfl L
 have b0:=f.trans k;refine⟨_,rfl,al.dQ (λa6=>Ok.mk ?_) (λh1=>?_)⟩
 ·rw[s ((Zq (by simpa using h0)).trans (Zx a6))]
  exact⟨rfl,h,O,v,g,b0,rfl⟩
 simp only at h1;have c8:=s ((Zq (by simpa using h0)).trans (Zq (by simpa using h1)));rw[c8];have c9:Row iC 96 b4 E ea en evs:=by
  refine(Y.keep a4.keep λa b=>(Z a b).2).keep i.keep λa b hf=>?_;rcases a4.new a (c5▸hf)with h5|h5
  ·exact(Z a b).2 h5
  ·have:=a2 a b;omega
 refine PC.ok (Hq g c1 c9 (λa b=>by have:=a2 a b;have:=b0.keep.size;omega) hl) ?_;rintro _ d0 ⟨U,F2,rfl,b5,d1,d2⟩;have d3:(eJ c d evs).n=c.bT.toNat:=ar.Nw _ _;have b1:=uq B hn evs;have b6:(eJ c d evs).Cl:=by rw[b1];exact ar.Cl.ey B c4
 obtain⟨F3,Q,b7,q,d4,-⟩:=g.fB bQ (k:=3) (w':=d0) (G':=F2) (C2:=kN p (h.cells c self) {h with sp:=U} c ⟨eJ c d evs,S,some t,P,j⟩ d.l) (ai.keep d2) (λa b=>.inr (d1 a b)) b5.aE ⟨b5,b6,d3⟩ λm G L M=>by
  rcases m with _|_|_|_|_|_|_|m<;>first|exact M|exact Zz rfl L
 refine⟨_,rfl,p,0,rfl,PS.mk (b7.at' 0).2 sM λb8 b9 e5 d5=>?_⟩;have d6:bH b8 F3 Q (kN p (({h with sp:=U}:jG).cells c self) {h with sp:=U} c ⟨eJ c d evs,S,some t,P,j⟩ d.l):=cU.store b7 b9 d5;have d7:cO O b4 F3 b8:=⟨q.keep.then (b9.mono λa _ R=>by have R:a=p:=R;rw[R];exact(g.at' 0).1.1),q.new⟩
 have c0:=b0.trans d7;have d8:∀W∈d.l,W∈(eJ c d evs).l:=λW hx=>by rw[b1];exact ar.Hp hx
 have d9:(eJ c d evs).l.length<=20000000:=by rw[b1];exact Xx (ar.lR _ _) hl
 exact AD d6 (y.AW c0) (λe6 W e7 hx hy R=>OP b6.ok (d8 W (QZ hx)) (QZ hy) R) d9 (κ:=λz w'=>Ok (λz w'=>z= QH 0/\∃A r e,cU w' r e p A c self ⟨eJ c d evs,S,some t,P,j⟩/\cO F w r w'/\A.wp=h.wp) (.returned z) w')
  λw' r e b2 e0=>Ok.mk ⟨rfl,{h with sp:=U},r,e,b2,c0.trans e0,rfl⟩
end
def AA{D:ak}{size:Int}(P:(aR D size).no=0):(aR D size).V.a_≠[]:=by
 revert P
 unfold aR;generalize cM (told D) [] (dE D size) D=c;unfold fE;split
 ·rename_i b;intro P;exact Zz P b
 split
 ·intro P;exact rD P
 rename_i a;split
 ·intro _;exact a
 ·intro _;exact a
abbrev wg(P:jG)(a:cJ)(b:Int)(c d e:XU):Array Value:= #[QH a.bT,QH a.sO,QH a.bh,QH a.chunk,QH a.buffer,QH a.cZ,QH a.every,QH a.start,.slice P.ta P.tn P.tc,.slice P.pa P.pn P.pc,QH b,
 XP P.dp,.pointer c,.pointer d,.pointer e,XP P.wp,XP P.tp]
def recC(d:Nat)(e:Array Value)(a:jG)(c:cJ)(b:bM)(f:Bool):Nat->World->(XM)->Prop
 |0=>λP G=>G d/\P.heap[d]? =some (.cells e 99 (0,0))
 |1=>λP G=>bl P G c.decl a.ta a.tn a.pa a.pn
 |2=>λP G=>DL P G a.dp a.lp b.D b.log
 |3=>λP G=>f=true->cF P a.sp G b.S/\b.S.Cl/\b.S.n=c.bT.toNat
 |5=>λP G=>Ma P G a.wp c.buffer.toNat b.waits
 |6=>λP G=>dX P a.tp G b.fM
 |_=>λ_ _=>True
section
variable {w w' w0:World} {p:Nat} {F E T:XM} {cls:Nat->Nat} {h:jG} {c:cJ} {self:Int} {X:bM} {evs lB:List ah} {ea:XU} {en ec:Nat}
def gO{j:Bool}:s_ (recC p o h c X j):=by
 intro k w w' G T P b a
 match k,P with
 |0,P=>exact⟨P.1,b.get P.2 (a p P.1)⟩
 |1,P=>exact bl.keep P b a
 |2,P=>exact DL.keep P b a
 |3,P=>exact λf=>⟨cF.keep (P f).1 b a,(P f).2⟩
 |4,P=>trivial
 |5,P=>obtain⟨l,D,m,g,i⟩:=P;exact⟨l,D,m.keep b (λd e=>a d (g d e)) λd e=>a d (i d e),g,i⟩
 |6,P=>exact dX.keep P b a
 |k+7,P=>trivial
def wY{z1 z2 z3:XU}(T:bH w F cls (recC p (wg h c self z1 z2 z3) h c X false))(L:mz c self)(A:Env w0 w F):
  ZH 38 #[XP p] w (Ok λB w'=>B= QH (e_ c X).1/\(e_ c X).2.S.l.length<=16777216/\∃U q e,cU w' q e p U c self (e_ c X).2/\cO F w q w'):=by
 obtain⟨f7,d1,j4⟩:=L.bT;have g0:=T.aE;have V:F p/\cls p=0:=(T.at' 0).1;have i9:1<=c.every:=by
  have:=L.right;unfold jH at this;simp only[QK,Zk]at this;omega
 refine kH λw3 d3=>?_;have W:ai w w3:=d3.keep;have M:=bH.af T gO W;have N:=(M.at' 0).2;refine⟨λ_=>False,p,0,rfl,_,ae N rfl,p,0,rfl,id,_,_,_,_,_,_,ae N rfl,ae N rfl,p,0,rfl,id,_,ae N rfl,?_⟩;rw[f7];refine PC.ok (Dg d1) ?_;rintro _ d2 ⟨f,F2,rfl,Y,d4,C⟩;have a9:=W.then C;have d5:=bH.af M gO C;refine⟨_,rfl,C,PC.ok (Nf L.decl L.every ((A.mQ.af A.gr).af a9) (show bl d2 (λP=>F P/\cls P=1) c.decl h.ta h.tn h.pa h.pn from d5.at' 1) λP a=>d5.aE P a.1) ?_⟩;rintro _ g1 ⟨i,F4,rfl,Z,d6,b7⟩;have y3:=W.size;have j5:=C.size;have j6:=b7.size;rw[show(max 1 c.every).toNat=c.every.toNat by congr 1;omega]at Z;have j0:=Y.aE;obtain⟨Fa,d7,E,b0,g2,-⟩:=M.Ff gO (k:=3) (w':=d2) (G':=F2) (C2:=recC p (wg h c self z1 z2 z3) {h with sp:=f} c {X with S:=⟨c.bT.toNat,[]⟩} true) (ai.keep C) (λP a m=>by have:=d4 P a;have:=g0 P m;omega) Y.aE (λ_=>⟨Y,ar.Cl.new d1,rfl⟩) λb G j k=>by
  rcases b with _|_|_|_|_|_|_|b<;>first|exact k|exact Zz rfl j
 obtain⟨u,r,b8,b1,g4,-⟩:=E.Ff gO (k:=4) (w':=g1) (G':=F4) (C2:=kN p (wg h c self z1 z2 z3) {h with sp:=f,bp:=i} c {X with S:=⟨c.bT.toNat,[]⟩} []) (ai.keep b7) (λP a m=>by have:=d6 P a;have:=E.aE P m;omega) Z.aE Z λb G j k=>by
  rcases b with _|_|_|_|_|_|_|b<;>first|exact k|exact k rfl|exact Zz rfl j
 have e1:∀P,u P->F P\/w.heap.size<=P:=λP a=>by
  rcases g4 P a with l|l
  ·rcases g2 P l.1 with h6|h6
   ·exact .inl h6.1
   ·exact .inr (by have:=d4 P h6;omega)
  ·exact .inr (by have:=d6 P l;omega)
 refine⟨_,rfl,p,0,rfl,PS.mk (b8.at' 0).2 sM λj7 d8 j8 g5=>⟨p,0,rfl,PS.mk g5 sM λb9 d9 j9 g6=>λc0 g7=>?_⟩⟩;have j1:u p/\r p=0:=(b8.at' 0).1;have e0:ai b9 c0:=g7.keep;have g8:bH b9 u r (kN p (wg h c self z1 (XL f) (XL i)) {h with sp:=f,bp:=i} c {X with S:=⟨c.bT.toNat,[]⟩} []):=cU.store b8 (d8.then d9) g6;have b2:cO F w u b9:=⟨((ai.keep a9).af b7).then ((d8.then d9).mono λP _ g=>by have g:P=p:=g;rw[g];exact V.1),e1⟩
 have H:=bH.af g8 bQ e0;have O:cO F w u c0:=⟨b2.keep.af e0,b2.new⟩
 have e4:=A.AW O;have e2:=(H.at' 0).2;have g9:=DL.sO (show DL c0 (λP=>u P/\r P=2) h.dp h.lp X.D X.log from H.at' 2) (e4.sub λP a=>a.1);refine⟨p,0,rfl,_,ae e2 rfl,p,0,rfl,_,ae e2 rfl,PC.ok (Gb A.laid g9) ?_⟩;have a0:∀{d},(if(aR X.D c.bh).no≠0 then((aR X.D c.bh).no,{X with D:=(aR X.D c.bh).D,log:=none,S:=⟨c.bT.toNat,[]⟩})
   else(0,{X with D:=(aR X.D c.bh).D,log:=some (aR X.D c.bh).V,S:=(⟨c.bT.toNat,[]⟩:ar).ey (aR X.D c.bh).out}))=d->e_ c X=d:=λ{d} hq=>hq
 have b3:=AA (D:=X.D) (size:=c.bh);generalize aR X.D c.bh=d at a0 b3;rintro _ h4 (⟨I,rfl,e8,c2⟩|⟨I,s,e9,a1,cc,G,rfl,c3,h7,c2,hG,hq,j2⟩)
 ·obtain⟨G2,c4,a2,c5,-⟩:=DL.KS (Y:=λ_=>False) (e8.mono λP a=>a.elim id False.elim) c2
  obtain⟨t,Q,v,a3,-,-⟩:=H.AW bQ (k:=2) (G':=G2) (C2:=kN p (wg h c self z1 (XL f) (XL i)) {h with sp:=f,bp:=i,lp:=none} c {X with S:=⟨c.bT.toNat,[]⟩,D:=d.D,log:=none} []) a2 c5 (by
    obtain⟨Fd,h1,h2,M⟩:=c4;exact⟨Fd,h1,h2,rfl⟩) λb G j k=>by
   rcases b with _|_|_|_|_|_|_|b<;>first|exact k|exact Zz rfl j
  refine⟨_,_,_,_,_,rfl,p,0,rfl,PS.mk (v.at' 0).2 sM λx y e3 c6=>al.dQ (λ_=>Ok.mk ?_) (λh0=>Zz h0 I)⟩;rw[a0 (Zx I)];refine⟨rfl,Qj _,{h with sp:=f,bp:=i,lp:=none},t,Q,cU.store v y c6,?_⟩;have J:=O.trans a3;exact⟨J.keep.then (y.mono λP _ g=>by have g:P=p:=g;rw[g];exact V.1),J.new⟩
 ·obtain⟨G2,c4,a2,c5,hY⟩:=DL.Ey h7 c2 (b3 I)
  obtain⟨t,Q,v,a3,h8,-⟩:=H.AW bQ (k:=2) (G':=G2) (C2:=kN p (wg h c self z1 (XL f) (XL i)) {h with sp:=f,bp:=i,lp:=XL s} c {X with S:=⟨c.bT.toNat,[]⟩,D:=d.D,log:=some d.V} []) a2 c5 c4 λb G j k=>by
   rcases b with _|_|_|_|_|_|_|b<;>first|exact k|exact Zz rfl j
  refine⟨_,_,_,_,_,rfl,p,0,rfl,PS.mk (v.at' 0).2 sM λx y e3 c6=>al.dQ (λh0=>Zz rfl h0) (λ_=>?_)⟩;have f0:bH x t Q (kN p (({h with sp:=f,bp:=i,lp:=XL s}:jG).cells c self) {h with sp:=f,bp:=i,lp:=XL s} c {X with S:=⟨c.bT.toNat,[]⟩,D:=d.D,log:=some d.V} []):=cU.store v y c6;have J:=O.trans a3;have b4:cO F w t x:=⟨J.keep.then (y.mono λP _ g=>by have g:P=p:=g;rw[g];exact V.1),J.new⟩
  have j3:=O.keep.size;have c7:∀P,G P->¬t P:=λP a m=>by
   rcases h8 P m with l|l
   ·have:=H.aE P l.1;have:=hG P a;omega
   ·exact hY P l a
  have h9:∀P,G P->P≠p:=λP a g=>c7 P a (g▸(v.at' 0).1.1);have b5:=c3.aE;have k0:=c3.len dC;have b6:Row iC 96 x G e9 a1 d.out:=py.row (((c3.keep y λP a g=>h9 P a g)).row dC ba);have k1:x.heap.size=h4.heap.size:=e3;rw[a0 (Zq (by simpa using I))];have f9:=JN b6;refine⟨λc1 a4 w'=>∃(b:Nat) (R:XM) (e5:Nat->Nat),a4=b/\b<=a1/\c1=a1-b/\bH w' R e5 (kN p (({h with sp:=f,bp:=i,lp:=XL s}:jG).cells c self) {h with sp:=f,bp:=i,lp:=XL s} c {X with S:=(⟨c.bT.toNat,[]⟩:ar).ey (d.out.take b),D:=d.D,log:=some d.V} [])/\cO t x R w',
   ⟨_,0,t,Q,rfl,Qj _,rfl,f0,cO.refl _ _⟩,?_⟩
  rintro c1 _ _ e6 ⟨b,R,e5,rfl,j,rfl,c8,z⟩;have i0:∀P,G P->¬R P:=λP a m=>by
   rcases z.new P m with l|l
   ·exact c7 P a l
   ·have:=b5 P a;omega
  have c9:=ar.lR (d.out.take b) ⟨c.bT.toNat,[]⟩;rw[Qy]at c9;simp only[ZQ]at c9;refine al.dec (λk2=>?_) (λk4=>?_)
  ·obtain⟨n,S⟩:∃n,d.out[b]? =some n:=⟨_,Qq oM⟩
   obtain⟨P,f1,es,ha,k5,k6,i1,xa,xn,xc,rfl,i2,d0⟩:=(b6.keep z.keep c7).el b n S;refine⟨P,f1,ha,oM,oM,bW (es:=aF n xa xn xc) (k:=10) (bf _ _ _ _) rfl (λa4 ht=>by rw[Qx];exact i1 a4 ht) (PA.mk λk7 i3 k8 i4=>aC (bf n xa xn xc) i4 rfl λk9 i5 l0 i6=>λi7 e7=>?_)⟩;have K:ai e6 i7:=(i3.new i5 λP a=>.inr (by have a:P=e6.heap.size:=a;omega)).then e7.keep;have a5:=bH.af c8 bQ K;have l3:=z.keep.size;obtain⟨f3,f4,f5⟩:=a5.at' 3;refine⟨p,0,rfl,_,ae (a5.at' 0).2 rfl,ay (bf n xa xn xc) ((e7.keep (S:=λ_=>False)).get i6 id) (PC.ok (tk f3 (i2.af K) (λP a=>⟨by have:=b5 P a;have:=K.size;omega,λm=>i0 P a m.1⟩) d0 (by show((⟨c.bT.toNat,[]⟩:ar).ey (d.out.take b)).l.length<_;omega)) ?_)⟩;rintro _ l4 ⟨rfl,F8,f2,f6⟩;have i8:((⟨c.bT.toNat,[]⟩:ar).ey (d.out.take (b+1)))=(((⟨c.bT.toNat,[]⟩:ar).ey (d.out.take b)).add n).2:=by
    rw[Qw,S];exact ar.ql ..
   obtain⟨F9,a6,a7,o,-⟩:=a5.AW bQ (k:=3) (G':=F8) (C2:=kN p (({h with sp:=f,bp:=i,lp:=XL s}:jG).cells c self) {h with sp:=f,bp:=i,lp:=XL s} c {X with S:=(⟨c.bT.toNat,[]⟩:ar).ey (d.out.take (b+1)),D:=d.D,log:=some d.V} []) f6 f2.aE (by rw[i8];exact⟨f2,f4.add d0,(ar.Rt _ _).trans f5⟩) λb G j k=>by
    rcases b with _|_|_|_|_|_|_|b<;>first|exact k|exact Zz rfl j
   exact⟨_,rfl,_,oM,b+1,F9,a6,an oM,oM,rfl,a7,z.trans ⟨(ai.keep K).then o.keep,λP a=>(o.new P a).imp id λh1=>by have:=K.size;omega⟩⟩
  ·rw[Qz oM]at c8 c9
   exact AD c8 (A.AW (b4.trans z)) (λg3 n h3 S=>by simp at S) (by show((⟨c.bT.toNat,[]⟩:ar).ey d.out).l.length<=_;omega) (κ:=λB w'=>Ok (λB w'=>B= QH 0/\((⟨c.bT.toNat,[]⟩:ar).ey d.out).l.length<=16777216/\∃U q e,cU w' q e p U c self {X with S:=(⟨c.bT.toNat,[]⟩:ar).ey d.out,D:=d.D,log:=some d.V}/\cO F w q w') (.returned B) w')
    λw' q e a8 f8=>Ok.mk ⟨rfl,oM,_,q,e,a8,(b4.trans z).trans f8⟩
end
structure BD where
 code:Int
 id:Int×Int
 st:nz
 SO:List gX
 rows:List oC
 more:Bool
def pJ(P:BD)(a:XU)(b c:Nat)(d:XU)(e f:Nat)(g:XU)(h i:Nat):List Value:=
 [QH P.code,QH P.id.1,QH P.id.2,QH P.st.version,.slice a b c,.slice d e f,.slice g h i,.bool P.more]
def uN(P:BD)(a:XU)(b c:Nat)(d:XU)(e f:Nat)(g:XU)(h i:Nat):jf XG 46 (pJ P a b c d e f g h i)=true:=kR
def AB(i:World)(P:BD)(j:Value)(a:World):Prop:=∃(c:XU) (d k:Nat) (e:XU) (f l:Nat) (g:XU) (h m:Nat) (G:XM),j= .agg (pJ P c d k e f l g h m).toArray/\
 Row gG 32 a G c d P.st.cells/\Row SP 120 a G e f P.SO/\Row VJ 24 a G g h P.rows/\∀b,G b->i.heap.size<=b/\b<a.heap.size
abbrev wZ(P:Int):BD:=⟨P,(0,0),⟨0,[]⟩,[],[],false⟩
abbrev KU(id:Int×Int):BD:=⟨0,id,⟨0,[]⟩,[],[],false⟩
structure kz.Ok (x:kz):Prop where
 bk:aN x.bk
 agg:aN x.agg
 field:aN x.field
 op:aN x.op
 arg:aN x.arg
 key:aN x.key
section
variable {w w' w0:World} {p:Nat} {F E T:XM} {cls:Nat->Nat} {h:jG} {c:cJ} {self:Int} {X:bM} {evs lB:List ah} {ea:XU} {en ec:Nat}
def AB.plain{P:BD}(a:P.st.cells=[])(b:P.SO=[])(c:P.rows=[]):AB w P (.agg (pJ P none 0 0 none 0 0 none 0 0).toArray) w':=
 ⟨none,0,0,none,0,0,none,0,0,λ_=>False,rfl,by rw[a];exact fp _ _,by rw[b];exact fp _ _,by rw[c];exact fp _ _,λe d=>d.elim⟩
def row_one{P:jK i}{bytes a:Nat}{w:World}{e:i}{D:XM}(f:w.heap[a]? =some (.cells o g H))(h:P.rep w D e o.toList)(j:bytes<=1000):Row P bytes w (λb=>b=a\/D b) (XL a) 1 [e]:=by
 have n:=P.len h;refine⟨rfl,by unfold aS;omega,λc p d=>?_⟩;obtain rfl:c=0:=by
  rcases c with _|c
  ·rfl
  ·simp at d
 simp at d;subst d;refine⟨a,0,o.toList,rfl,aB f,.inl rfl,λk l=>?_,P.mono h λb j=>.inr j⟩;have m:k<o.size:=by rw[<-n]at l;simpa using l
 rw[ae f (v:=o[k]) (by simp[m])];simp[m]
def SQ(j:C.OK){M:Int}(e:0<=M)(f:∀P∈C.l,P.aA<=M):C.top<=M:=by
 have:∀(b:List ah) (a:Int),a<=M->(∀P∈b,P.aA<=M)->b.foldl (λa P=>max a P.aA) a<=M:=by
  intro b
  induction b with
  |nil=>intro a c _;exact c
  |cons P b g=>
   intro a c d;refine g _ ?_ λh i=>d h (QJ _ i);have:=d P (QV ..);show max a P.aA<=M;omega
 exact this C.l 0 e f
def JO[Decidable L]{P a:ah×Bool×Int}(b:P.1.Ok)(c:a.1.Ok):(if L then P else a).1.Ok:=by
 split
 ·exact b
 ·exact c
def Hr(P:c9.Ok)(d:aN e)(g:aN u)(a:∀f∈q,aN f):(aY c9 e q u).2.Ok:=by
 have h:=AE a e;unfold aY;dsimp only
 by_cases b:e<0\/(q.length:Int)<=e\/u<0
 ·rw[Zx b];exact AF
 rw[Zq b]
 by_cases c:fu q e=9223372036854775807\/u=9223372036854775807
 ·rw[Zx c];exact AF
 rw[Zq c];refine⟨d,?_,?_,CM a sM,P.bk,P.agg,P.field,P.op,P.arg,P.key⟩
 ·show aN (fu q e+1);unfold aN at*;omega
 ·show aN (u+1);unfold aN at*;omega
def QP(e:C.l.length<=20000000):∀a∈C.vec,aN a:=λa c=>by
 obtain⟨d,P,rfl⟩:=List.getElem_of_mem c;rw[C.bZ]at P;have b:=C.nE P;rw[Qq (by rw[C.bZ];exact P)]at b;rw[XJ b];have:=C.OQ d;unfold aN;omega
def KV(P:C.OK):aN C.top:=by
 have c:=SQ P (M:=9223372036854775807) oM λa b=>by have:=(P.ok a b).aA;unfold aN at this;omega
 have d:=C.JP;unfold aN;omega
def KA{d:aW}{V:bd}(a:c9.Ok)(P:C.OK)(b:aN e)(i:aN u)(c:C.l.length<=20000000):(kZ d C V e u c9).1.Ok:=by
 have f:aN (max C.top u):=by
  have j:=KV P;unfold aN at*;omega
 rw[wh];refine JO AF ?_
 cases g:C.keyed c9.key with
 |some h=>exact P.ok h (List.mem_of_find?_eq_some g)
 |none=>exact JO AF (JO AF (Hr a b f (QP c)))
end
section
variable {w w' w0:World} {p:Nat} {F E T:XM} {cls:Nat->Nat} {h:jG} {c:cJ} {self:Int} {X:bM}
def mz.RR(P:mz c self):0<=self/\self<c.bT:=by
 have:=P.right;unfold jH within at this;simp only[QK,Zk]at this;omega
def wH(hr:bP w p F c self X)(J:Env w0 w F)(hx:c9.Ok)(hl:X.S.l.length+1<=20000000):
  ZH 13 #[XP p,rW c9] w (Ok λa3 w'=>∃e,AB w (if(dW c self X c9).1≠0 then wZ (dW c self X c9).1 else KU (dW c self X c9).2.1) a3 w'/\bP w' p e c self (dW c self X c9).2.2/\cO F w e w'):=by
 have b8:=hr;obtain⟨q,h,cls,m⟩:=hr;have u:=m.aE;have e2:=(m.Hh)
 have g6:=u p e2.1;have d4:aN self:=by have:=q.RR;have:=q.bT;unfold aN;omega
 refine kD (PA.mk λC e3 g7 e4=>PA.mk λb2 c1 g8 d5=>?_);have a1:=e3.then c1;have e5:=cU.af m a1;have E:∀{g:World} {e:XM} {l:bM} {y:BD},y.st.cells=[]->y.SO=[]->y.rows=[]->(∃r,g.heap[C.heap.size]? =some (.cells r 46 (0,0))/\r.size=8)->bP g p e c self l->(∀P,e P->F P\/b2.heap.size<=P)->cO F w e g->(dW c self X c9).2.2=l->(if(dW c self X c9).1≠0 then wZ (dW c self X c9).1 else KU (dW c self X c9).2.1)=y->
   BY XG 46 (XP C.heap.size) (.agg (pJ y none 0 0 none 0 0 none 0 0).toArray) g λc2=>ri XG 46 (XP C.heap.size) c2 λb=>Ok (λa3 w'=>∃e,AB w (if(dW c self X c9).1≠0 then wZ (dW c self X c9).1 else KU (dW c self X c9).2.1) a3 w'/\bP w' p e c self (dW c self X c9).2.2/\cO F w e w') (.returned b) c2:=λ{g e l y} y1 y2 y3 hz b3 b4 Q hX hy=>by
  obtain⟨r,hg,e6⟩:=hz;refine aC (uN y none 0 0 none 0 0 none 0 0) hg (by rw[e6];rfl) λc2 d6 g9 e7=>ay (uN y none 0 0 none 0 0 none 0 0) e7 (Ok.mk ⟨e,by rw[hy];exact AB.plain y1 y2 y3,?_,Q.keep.new d6 λP a=>.inr (by have a:P=C.heap.size:=a;omega),Q.new⟩);rw[hX];refine b3.keep d6 λP a f=>?_;have f:P=C.heap.size:=f;rcases b4 P a with h1|h1
  ·have:=u P h1;omega
  ·omega
 refine⟨p,0,rfl,_,ae e5.bD rfl,gq Tryz.underlying95 ⟨_,rfl,?_⟩⟩;have d7:DL w (λP=>F P/\cls P=2) h.dp h.lp X.D X.log:=m.at' 2;obtain⟨hS,R,hn⟩:=(show cF w h.sp (λP=>F P/\cls P=3) X.S/\X.S.Cl/\X.S.n=c.bT.toNat from m.at' 3)
 cases S:X.log with
 |none=>
  obtain⟨Fd,-,-,h3⟩:=d7;rw[S]at h3;have h3:h.lp=none:=h3;rw[h3];refine al.tt rfl ?_;have n:dW c self X c9=(15,(0,0),X):=by unfold dW;rw[S]
  exact E (y:=wZ 15) rfl rfl rfl ⟨_,d5,rfl⟩ (b8.af a1) (λP a=>.inl a) ⟨ai.keep a1,λP a=>.inl a⟩ (by rw[n]) (by rw[n];rfl)
 |some f4=>
 obtain⟨f8,a4,c3,-⟩:=DL.Mz (S▸d7) (J.sub λP a=>a.1) λP a=>u P a.1;rw[a4];refine al.ff rfl λe8 e9=>⟨λ_=>False,?_⟩
 have b5:ai b2 e8:=e9.keep;have a2:=a1.then b5;have c4:=cU.af m a2;refine⟨p,0,rfl,id,_,_,_,_,_,_,ae c4.bD rfl,ae c4.bD rfl,p,0,rfl,_,ae c4.bD rfl,PC.ok (qk (hS.af a2) oM) ?_⟩;rintro _ h2 ⟨la,ln,lc,G,rfl,c5,K,hG⟩;have h4:=c5.len dC;have f2:=c5.aE;have T:=a2.then K;have h6:=cU.af m T;have b9:∀{g:World},ai w g->bl g (λP=>F P/\cls P=1) c.decl h.ta h.tn h.pa h.pn:=λ{g} H=>(cU.af m H).at' 1;refine⟨_,_,_,rfl,K,PC.ok (EV q.decl (J.mQ.af (J.gr.then T)) (b9 T) (λP a=>by have:=u P a.1;have:=T.size;omega) (c5.row dC ba) (λP a=>f2 P a) oM) ?_⟩;rintro _ I ⟨vp,Fv,rfl,hv,h7,L⟩;have M:=T.then L;have c0:=((c1.then b5).then K).then L;obtain⟨g4,f3⟩:=Fq q.decl X.S.l;obtain⟨b,c6⟩:∃b,b=kZ c.decl X.S (cN c.decl X.S.l) self c.start c9:=⟨_,rfl⟩
 have h8:=a2.size;have h9:=K.size;have i0:=L.size;have v:∀{g:World},ai I g->ZH 42 #[.agg #[.slice h.ta h.tn h.tc,.slice h.pa h.pn h.pc],XP h.sp,XP vp,QH self,QH c.start,rW c9] g (Ok (uO g b)):=λ{g} H=>by
  rw[c6];exact BL (J.mQ.af ((J.gr.then M).then H)) (b9 (M.then H)) (λP a=>by have:=u P a.1;have:=(M.then H).size;omega) q.decl (hS.af (M.then H)) oM (hv.af H) f3
   (by have:=q.start;unfold aN at this;omega) (by have:=KV R.ok;unfold aN at this;omega)
 refine⟨_,rfl,L,λU eo o no w'=>eo=0/\∃i j k G,w'.heap[U]? =some (.cells (aF b.1 i j k).toArray 55 (0,0))/\Row aM 8 w' G i j b.1.aJ/\(∀P,G P->I.heap.size<=P/\P<w'.heap.size)/\I.heap.size<=U/\o=b.2.1/\no=b.2.2/\ai I w',?_,?_⟩
 ·intro x d8
  have N:ai I x:=d8.keep;have i1:x.heap.size=I.heap.size:=by rw[d8.heap]
  have d9:=M.then N;have V:=cU.af m d9;have e0:=N.get (c0.get e4 id) id;have nS:¬x.heap.size<=p:=oM
  have f5:¬x.heap.size<=w.heap.size:=by have:=b5.size;have:=K.size;have:=L.size;omega
  refine⟨λP=>x.heap.size<=P,p,0,rfl,nS,_,_,_,_,_,_,ae V.bD rfl,ae V.bD rfl,p,0,rfl,nS,_,ae V.bD rfl,p,0,rfl,nS,_,ae V.bD rfl,p,0,rfl,nS,_,ae V.bD rfl,f5,ay (BZ c9) e0 ⟨PC.ok (v N) ?_,PA.mk λi2 c7 i3 f6=>⟨ai.keep c7,PC.ok (v (N.then c7)) ?_⟩⟩⟩
  ·rintro _ c8 ⟨i,j,k,G,rfl,W,s,a5⟩
   have i4:=a5.size;refine cD (rR b.1 i j k) ⟨_,_,rfl,ai.keep a5,PA.mk λi5 d0 i6 f7=>⟨ai.keep d0,aC (bf b.1 i j k) f7 rfl λi7 d1 i8 g0=>⟨d1.mono λP _ f=>by have f:P=c8.heap.size:=f;omega,rfl,i,j,k,G,g0,?_,λP a=>⟨by have:=s P a;omega,by have:=s P a;omega⟩,oM,rfl,rfl,?_⟩⟩⟩
   ·exact(W.af d0).keep d1 λP a f=>by have f:P=c8.heap.size:=f;have:=(s P a).2;omega
   ·exact((N.then a5).then d0).new d1 λP a=>.inr (by have a:P=c8.heap.size:=a;omega)
  ·rintro _ i9 ⟨i,j,k,G,rfl,W,s,b6⟩
   have j0:=b6.size;refine cD (rR b.1 i j k) ⟨_,_,rfl,ai.keep b6,aC (bf b.1 i j k) (b6.get f6 id) rfl λj1 d2 j2 g1=>⟨d2.mono λP _ f=>by have f:P=x.heap.size:=f;omega,rfl,i,j,k,G,g1,?_,λP a=>⟨by have:=s P a;omega,by have:=s P a;omega⟩,oM,rfl,rfl,?_⟩⟩
   ·exact W.keep d2 λP a f=>by have f:P=x.heap.size:=f;have:=(s P a).1;omega
   ·exact((N.then c7).then b6).new d2 λP a=>.inr (by have a:P=x.heap.size:=a;omega)
 rintro U _ o no _ O ⟨rfl,i,j,k,G2,d,W,s,j3,rfl,rfl,d3⟩;have Y:=M.then d3;have j4:=cU.af m Y;have g5:=c0.then d3;have b0:=d3.get (L.get (K.get (b5.get d5 id) id) id) id;have a6:b.1.Ok:=by rw[c6];exact KA hx R.ok d4 q.start oM
 have a7:∀{z:Int×(Int×Int)×bM},(if b.2.2≠0 then(b.2.2,(0,0),X)else if b.2.1 then(if(dh c X [b.1]).1≠0 then((dh c X [b.1]).1,(0,0),(dh c X [b.1]).2)else(0,aX b.1,(dh c X [b.1]).2))else(0,aX b.1,X))=z->dW c self X c9=z:=λ{z} ht=>by
  rw[<-ht,c6];unfold dW;rw[S]
 have j5:=Y.size;have f0:=aB d;refine⟨λz w'=>∃e l,bP w' p e c self l/\cO F w e w'/\(∀P,e P->F P\/b2.heap.size<=P)/\w'.heap[U]? =some (.cells (aF b.1 i j k).toArray 55 (0,0))/\(∃r,w'.heap[C.heap.size]? =some (.cells r 46 (0,0))/\r.size=8)/\dW c self X c9=(if z≠0 then(z,(0,0),l)else(0,aX b.1,l)),?_,?_⟩
 ·have A:dW c self X c9=(if b.2.2≠0 then(b.2.2,(0,0),X)else(0,aX b.1,X))->∃e l,bP O p e c self l/\cO F w e O/\(∀P,e P->F P\/b2.heap.size<=P)/\O.heap[U]? =some (.cells (aF b.1 i j k).toArray 55 (0,0))/\(∃r,O.heap[C.heap.size]? =some (.cells r 46 (0,0))/\r.size=8)/\dW c self X c9=(if b.2.2≠0 then(b.2.2,(0,0),l)else(0,aX b.1,l)):=λn=>
   ⟨F,X,b8.af Y,⟨ai.keep Y,λP a=>.inl a⟩,λP a=>.inl a,d,⟨_,b0,rfl⟩,n⟩
  refine al.dU (λB=>al.mk (λt=>?_) (λt=>A (a7 (by rw[Zq (by simpa using B),Zq (by simpa using t),Zq (by simpa using B)])))) (λB=>A (a7 (by rw[Zx B,Zx B])));refine⟨_,_,_,_,_,_,_,_,_,_,_,_,ae d rfl,ae d rfl,ae d rfl,ae d rfl,ae d rfl,ae d rfl,ae d rfl,ae d rfl,ae d rfl,ae d rfl,PA.mk λe1 b7 j6 g2=>?_⟩;have a9:=Y.then b7;have f1:Row iC 96 e1 (λP=>P=O.heap.size\/G2 P) (XL O.heap.size) 1 [b.1]:=row_one g2 ⟨i,j,k,rfl,W.af b7,a6⟩ dC;refine PC.ok (Hi (cU.af m a9) q (J.af a9) S f1 (λP a=>?_) (by simpa using hl)) ?_
  ·have g3:I.heap.size<=P/\P<e1.heap.size:=a.elim (λf=>⟨oM,oM⟩) λh5=>by have:=s P h5;omega
   exact⟨g3.2,λt=>by have:=u P t.1;omega⟩
  rintro _ j7 ⟨rfl,h',e,Z,a8,a0,-⟩;refine⟨_,rfl,e,(dh c X [b.1]).2,⟨q,h',Z,a8⟩,⟨(ai.keep a9).then a0.keep,λP a=>(a0.new P a).imp id λh1=>oM⟩,λP a=>(a0.new P a).imp id λh1=>by have:=c1.size;omega,a0.keep.get (b7.get d id) λt=>by have:=u _ t;omega,⟨_,a0.keep.get (b7.get b0 id) λt=>by have:=u _ t;omega,rfl⟩,?_⟩;exact a7 (by rw[Zq (by simpa using B),Zx t])
 ·rintro z _ j8 ⟨e,l,b3,Q,b4,b1,hz,n⟩
  refine al.dQ (λc3=>?_) (λB=>⟨_,_,ae b1 rfl,ae b1 rfl,?_⟩)
  ·rw[Zx c3]at n
   exact E (y:=wZ z) rfl rfl rfl hz b3 b4 Q (by rw[n]) (by rw[n];exact Zx c3)
  ·rw[Zq (by simpa using B)]at n
   exact E (y:=KU (aX b.1)) rfl rfl rfl hz b3 b4 Q (by rw[n]) (by rw[n];rfl)
end
def eS(d:World)(e:XM)(h:List cY)(i:Value)(b:World):Prop:=
 ∃(a:XU) (f g:Nat) (c:List ET) (D:XM),i= .slice a f g/\aV QN 60 (λP=>aI a=some P) b a f g c/\c.map (·.m)=h/\(∀P∈c,P.In b D)/\(∀P,D P->d.heap.size<=P/\P<b.heap.size/\aI a≠some P/\¬e P)/\∀P,aI a=some P->d.heap.size<=P/\¬e P
section
variable {w w' w0 w1:World} {p:Nat} {F E T Z:XM} {cls:Nat->Nat} {h:jG} {c:cJ} {self:Int} {X:bM} {ms:List cY} {v:Value}
def bj.out(f:bj w1 ms v w')(d:∀P,Z P->P<w1.heap.size)(o:w.heap.size<=w1.heap.size):eS w Z ms v w':=by
 obtain⟨g,h,i,j,D,k,l,m,n,b,e,p⟩:=f;exact⟨g,h,i,j,D,k,l,m,n,λP a=>⟨by have:=(b P a).1;omega,(b P a).2.1,(b P a).2.2,λc=>by have:=d P c;have:=(b P a).1;omega⟩,λP a=>⟨by have:=e P a;omega,λc=>by have:=d P c;have:=e P a;omega⟩⟩
def eS.nil(w0 w:World)(Z:XM):eS w0 Z [] (.slice none 0 0) w:=⟨none,0,0,[],λ_=>False,rfl,(aV.nil w).mono (λa P=>P.elim) (λa P=>(by cases P)),rfl,sM,λa P=>P.elim,λa P=>(by cases P)⟩
def bj.one{m:cY}{va c:XU}{vn vc d e b:Nat}{D:XM}(g:w.heap[b]? =some (.cells (bV m va vn vc c d e).toArray 60 (0,0)))(i:(⟨m,va,vn,vc,c,d,e⟩:ET).In w D)(f:∀a,D a->w0.heap.size<=a/\a<w.heap.size/\a≠b)(k:w0.heap.size<=b)(j:ai w0 w):
  bj w0 [m] (.slice (XL b) 1 1) w:=by
 have l:=aB g;refine⟨XL b,1,1,[⟨m,va,vn,vc,c,d,e⟩],D,rfl,⟨⟨bV m va vn vc c d e,λ_=>False,Own.yz g rfl (by unfold maxLen;omega),bR.one ⟨rfl,trivial⟩,λa P=>P.elim⟩,λa P=>P,λa P=>?_⟩,rfl,λa P=>?_,λa P=>⟨(f a P).1,(f a P).2.1,λh=>?_⟩,λa P=>?_,j⟩
 ·simp only[aI,Q1]at P;omega
 ·simp at P;subst P;exact i
 ·simp only[aI,Q1]at h;exact(f a P).2.2 h.symm
 ·simp only[aI,Q1]at P;omega
def uk(o:bP w p F c self X)(A:aN e):
  ZH 55 #[XP p,QH e,QH u] w (Ok λv w'=>∃P,eS w P (f_ c self X e u).1 v w'/\bP w' p P c self (f_ c self X e u).2/\cO F w P w'):=by
 have B:=o;obtain⟨C,h,cls,d⟩:=o;have no:(e<0\/e>=c.bT\/e=self)->Ok (λv w'=>∃P,eS w P (f_ c self X e u).1 v w'/\bP w' p P c self (f_ c self X e u).2/\cO F w P w') (.returned (.slice none 0 0)) w:=λj=>by
  have:f_ c self X e u=([],X):=by unfold f_;rw[Zx j]
  rw[this];exact Ok.mk ⟨F,eS.nil _ _ _,B,cO.refl _ _⟩
 refine j_ (al.dec (λk=>no (.inl k)) (λk=>⟨p,0,rfl,_,ae d.bD rfl,al.dec (λl=>no (.inr (.inl l))) (λl=>⟨p,0,rfl,_,ae d.bD rfl,al.dU (λm=>no (.inr (.inr m))) (λm=>⟨p,0,rfl,_,ae d.bD rfl,?_⟩)⟩)⟩));have E:f_ c self X e u=([jU X.S self e],{X with fM:={X.fM with asked:=aH X.fM.asked e u}}):=by unfold f_;rw[Zq (by rintro(h|h|h);exact k h;exact l h;exact m h)]
 refine PC.ok (Hs (d.at' 6) A) ?_;rintro _ q ⟨rfl,H,r⟩;have I:cU q F cls p h c self {X with fM:={X.fM with asked:=aH X.fM.asked e u}}:=bH.same d bQ (k:=6) r H λs G J j=>by
  rcases s with _|_|_|_|_|_|_|s<;>first|exact j|exact Zz rfl J
 refine⟨rfl,λn K=>?_⟩;have t:ai q n:=K.keep;have b:=cU.af I t;refine⟨p,0,rfl,_,ae b.bD rfl,p,0,rfl,_,ae b.bD rfl,PC.ok (wT (b.at' 3).1) ?_⟩;rintro _ L ⟨S,T,U,G,rfl,x,M,g⟩;have y:=x.aE;have N:=g.size;refine⟨_,_,_,_,_,_,_,_,_,rfl,PA.mk λO i V Q=>?_⟩;rw[E];have R:bj n [jU X.S self e] (.slice (XL L.heap.size) 1 1) O:=bj.one (D:=G) Q ⟨(x.af i).row dC (by show X.S.vec.length*8<=aS;rw[X.S.bZ];have:=(b.at' 3).1.1.n;have:X.S.n<=64:=this;unfold aS;omega),fp _ _⟩ (λf a=>⟨M f a,by have:=y f a;omega,by have:=y f a;omega⟩) N (g.then i);have z:aj F w n:=(r.mono λf _ a=>a.1).af t;exact Ok.mk ⟨F,R.out b.aE z.size,⟨C,h,cls,cU.af b (g.then i)⟩,(z.af g).af i,λf a=>.inl a⟩
def QR(T:jy)(c:Int):∀P∈T.due c,P∈T.open:=by
 have:∀(d:List Int) (e:List Int×List (Int×Int)),∀P∈(d.foldl (fK T.cZ c) e).1,P∈e.1\/P∈d:=by
  intro d
  induction d with
  |nil=>intro e P a;exact .inl a
  |cons h d g=>
   intro e P a;rcases g _ P a with b|b
   ·unfold fK at b
    split at b
    ·rcases Q6.1 b with f|f
     ·exact .inl f
     ·simp at f;subst f;exact .inr (QV ..)
    ·exact .inl b
   ·exact .inr (QJ _ b)
 intro P a;unfold jy.due jy.iK at a;rw[List.take_length]at a;exact(this T.open ([],T.asked) P a).resolve_left sM
def OR{T:jy}(b:∀P∈T.asked,aN P.1):∀a∈T.open,aN a:=λa c=>by
 have:a∈T.asked.map (·.1):=(List.mergeSort_perm _ _).mem_iff.1 c;obtain⟨P,d,rfl⟩:=Xk.1 this;exact b P d
def QS(T:jy)(P:Int):(T.due P).length<=T.asked.length:=by
 have:∀(b:List Int) (a:List Int×List (Int×Int)),(b.foldl (fK T.cZ P) a).1.length<=a.1.length+b.length:=by
  intro b
  induction b with
  |nil=>intro a;simp
  |cons c b e=>
   intro a;have d:=e (fK T.cZ P a c);have f:(fK T.cZ P a c).1.length<=a.1.length+1:=by
    unfold fK;split
    ·simp
    ·omega
   simp only[List.foldl_cons,Xq];omega
 have d:=this T.open ([],T.asked);unfold jy.due jy.iK;rw[List.take_length];have f:T.open.length=T.asked.length:=by simp[jy.open,uP]
 simp only[ZQ]at d;omega
def Og(M:bP w p F c self X)(b:X.fM.asked.length<=1000):
  ZH 58 #[XP p,QH e] w (Ok λv w'=>∃m,eS w m (Ht self X e).1 v w'/\bP w' p m c self (Ht self X e).2/\cO F w m w'):=by
 obtain⟨N,h,cls,n⟩:=M;have u:dX w h.tp (λP=>F P/\cls P=6) X.fM:=n.at' 6;have O:∀d∈X.fM.due e,aN d:=λd g=>OR u.rl d (QR _ _ d g);have b0:=QS X.fM e;refine mT ⟨p,0,rfl,_,ae n.bD rfl,PC.ok (ME u ba) ?_⟩;rintro _ i ⟨Q,o,cc,rfl,x,R,q,hn⟩;have y:cU i F cls p h c self {X with fM:=X.fM.OS e}:=bH.same n bQ (k:=6) q R λa G z S=>by
  rcases a with _|_|_|_|_|_|_|a<;>first|exact S|exact Zz rfl z
 have T:=x.length;rw[je,Nat.mul_one]at T;have U:Ints i Q o (X.fM.due e):=x.ints ba O;have V:=y.aE;have W:=q.size;refine⟨_,_,_,rfl,λA B C E Y w'=>∃a:Nat,Y=a/\a<=o/\A=o-a/\bj i (((X.fM.due e).take a).map λf=>jU X.S self f) (.slice B C E) w',⟨_,0,rfl,Qj _,rfl,bj.nil i⟩,?_⟩;rintro A B C E _ _ Z ⟨a,rfl,z,rfl,j⟩;have r:=j;obtain⟨a3,n1,c1,a4,D,he,g2,g3,g4,g5,g6,k⟩:=r
 cases he
 have H:=cU.af y k;have b1:=k.size;refine al.dec (λb2=>?_) (λb3=>?_)
 ·obtain⟨P,s,d,rfl,b4,g,b5,a0⟩:=(U.af k).at (i:=(a:Int)) oM oM
  rw[Qx]at g;refine⟨P,s,rfl,oM,oM,d,a0,λa6 a7=>?_⟩;have t:ai Z a6:=a7.keep;have l:=cU.af H t;refine⟨p,0,rfl,_,ae l.bD rfl,p,0,rfl,_,ae l.bD rfl,PC.ok (wT (l.at' 3).1) ?_⟩;rintro _ b6 ⟨va,vn,vc,G,rfl,I,J,K⟩;have a8:=I.aE;have b7:=t.size;have b8:=K.size;refine⟨_,_,_,_,_,_,_,_,_,rfl,PA.mk λb9 L c0 a9=>?_⟩;refine bj.push (m:=jU X.S self d) (E:=G) (j.af ((t.then K).then L)) KW ⟨(I.af L).row dC (by show X.S.vec.length*8<=aS;rw[X.S.bZ];have:X.S.n<=64:=(l.at' 3).1.1.n;unfold aS;omega),fp _ _⟩ (λP b=>⟨by have:=J P b;omega,by have:=a8 P b;omega,λa1=>by have:=g2.aE P a1;have:=J P b;omega⟩) a9 (by rw[Q8,Qy];omega) λa' c' c2 a2 c3=>⟨_,_,_,rfl,_,?_,a+1,an oM,oM,rfl,?_⟩
  ·omega
  ·rw[Qw,g,Q3];exact a2
 ·rw[Qz oM]at j
  exact Ok.mk ⟨F,j.out V W,⟨N,h,cls,H⟩,(q.mono λP _ b=>b.1).af k,λP b=>.inl b⟩
def QT(a:bP w p F c self X):ZH 23 #[XP p] w (Ok (vh aM 3 w X.S.vec)):=by
 obtain⟨g,h,cls,P⟩:=a;refine od ⟨p,0,rfl,_,ae P.bD rfl,PC.ok (kQ (P.at' 3).1) ?_⟩;rintro _ i ⟨b,d,e,G,rfl,f⟩;exact⟨_,_,_,rfl,Ok.mk ⟨b,d,e,G,rfl,f⟩⟩
def AG(b:bP w p F c self X)(P:X.S.l.length<=20000000):ZH 14 #[XP p] w (Ok (vh iC 55 w X.S.l)):=by
 obtain⟨g,h,cls,a⟩:=b;refine lx ⟨p,0,rfl,_,ae a.bD rfl,PC.ok (qk (a.at' 3).1 P) ?_⟩;rintro _ i ⟨d,e,f,G,rfl,P⟩;exact⟨_,_,_,rfl,Ok.mk ⟨d,e,f,G,rfl,P⟩⟩
end
def uQ{d:ar}:∀{a:List ah} {e:ah} {S':ar} {l':List ah},dB d a=some (e,S',l')->l'.length+1=a.length
 |[],e,S',l',P=>by simp[dB]at P
 |x::a,e,S',l',P=>by
  unfold dB at P;split at P
  ·simp only[Q1,Prod.mk.injEq]at P
   obtain⟨-,-,rfl⟩:=P;rfl
  ·cases b:dB d a with
   |none=>rw[b]at P;cases P
   |some c=>
    rw[b]at P;simp only[Option.map_some,Q1,Prod.mk.injEq]at P;obtain⟨rfl,rfl,rfl⟩:=P;have:=uQ (e:=c.1) (S':=c.2.1) (l':=c.2.2) b;simp only[Xq];omega
def uR:∀(k:Nat) (b:ar) (a P:List ah),(de k b a P).1.length+(de k b a P).2.length=P.length+a.length
 |0,b,a,P=>rfl
 |k+1,b,a,P=>by
  unfold de
  cases f:dB b a with
  |none=>rfl
  |some g=>
   obtain⟨c,d,e⟩:=g;have i:=uQ f;have h:=uR k d e (P++[c]);show(de k d e (P++[c])).1.length+(de k d e (P++[c])).2.length=_;rw[h,QX,List.length_singleton];omega
def uS(a:ar)(P:List ah):(bE a P).1.length+(bE a P).2.length<=P.length:=by
 unfold bE;dsimp only;rw[uR];have:=List.length_filter_le (λb=>(a.get (aX b)).isNone) P;simp only[ZQ];omega
structure ED (w:World) (wp most:Nat) (M0 D0 E:XM) (s:Nat) (S:ar) (b:List ah) (oa:XU) (on oc:Nat) (Lo:List (Bx ah)) (w1:World) (M Db Fs Do:XM):Prop where
 buf:gH w1 wp M Db most b
 set:cF w1 s Fs S
 Ln:∀x∈Lo,oE.In w1 Do x
 out:aV oE.kO 55 (λb=>aI oa=some b) w1 oa on oc Lo
 nM:∀b,M b->(M0 b\/w.heap.size<=b)/\¬Fs b
 nD:∀b,Db b->(D0 b\/w.heap.size<=b)/\¬Fs b
 nF:∀b,Fs b->w.heap.size<=b
 nO:∀b,Do b->(E b\/D0 b\/w.heap.size<=b)/\b<w1.heap.size/\¬M b/\¬Fs b
 nA:∀b,aI oa=some b->w.heap.size<=b/\¬M b/\¬Fs b/\¬Do b/\¬Db b
 keep:aj M0 w w1
 cl:S.Cl
section
variable {w w' w0 w1 w2:World} {p wp most s on oc:Nat} {F E T Z M0 D0 M Db Fs Do:XM} {cls:Nat->Nat} {h:jG} {c:cJ} {self:Int} {X:bM} {S:ar} {b:List ah} {oa:XU} {Lo:List (Bx ah)}
def gH.MC(P:gH w p M Db most b):∀b,M b->b<w.heap.size:=by obtain⟨-,d,e,c,f,a⟩:=P;exact a.dM
def gH.Hu(P:gH w p M Db most b):∀b,Db b->b<w.heap.size/\¬M b:=by obtain⟨-,d,e,c,f,a⟩:=P;exact a.dD
def ED.af(P:ED w wp most M0 D0 E s S b oa on oc Lo w1 M Db Fs Do)(a:ai w1 w2):ED w wp most M0 D0 E s S b oa on oc Lo w2 M Db Fs Do:=
 ⟨P.buf.af a,P.set.af a,λd e=>(P.Ln d e).keep a λ_ _ h=>h,P.out.af a,P.nM,P.nD,P.nF,λb c=>⟨(P.nO b c).1,by have:=(P.nO b c).2.1;have:=a.size;omega,(P.nO b c).2.2⟩,P.nA,P.keep.af a,P.cl⟩
def ED.add(a:ED w wp most M0 D0 E s S b oa on oc Lo w1 M Db Fs Do){i n:Nat}(o:Row aM 8 w1 f d i l.aJ)(p:∀b,f b->b<w1.heap.size/\¬Fs b)(j:l.Ok)(y:S.l.length<=20000000):
  ZH 75 #[XP s,jJ l d i n] w1 (Ok λk w'=>k= QH (S.add l).1/\∃g,ED w wp most M0 D0 E s (S.add l).2 b oa on oc Lo w' M Db g Do/\aj Fs w1 w'/\∀b,g b->Fs b\/w1.heap.size<=b):=by
 refine(tk a.set o p j oM).mono ?_;rintro _ w2 ⟨k,rfl,rfl,m,q,c⟩;have r:=a.buf.MC;have t:=a.buf.Hu;have z:=a.keep.size;have e:∀b,b<w1.heap.size->¬Fs b->¬m b:=λb A u h=>(c.new b h).elim u oM;refine Ok.mk ⟨rfl,m,⟨a.buf.keep c.keep (λb P=>(a.nM b P).2) λb P=>(a.nD b P).2,q,λv x=>(a.Ln v x).keep c.keep λb P=>(a.nO b P).2.2.2,a.out.keep c.keep λb P=>(a.nA b P).2.2.1,λb P=>⟨(a.nM b P).1,e b (r b P) (a.nM b P).2⟩,λb P=>⟨(a.nD b P).1,e b (t b P).1 (a.nD b P).2⟩,
  λb P=>(c.new b P).elim (a.nF b) λY=>oM,λb P=>⟨(a.nO b P).1,by have:=(a.nO b P).2.1;have:=c.keep.size;omega,(a.nO b P).2.2.1,e b (a.nO b P).2.1 (a.nO b P).2.2.2⟩,λb P=>⟨(a.nA b P).1,(a.nA b P).2.1,e b (a.out.aE b P) (a.nA b P).2.2.1,(a.nA b P).2.2.2⟩,a.keep.new c.keep λb P=>.inr (a.nF b P),a.cl.add j⟩,c.keep,c.new⟩
def ED.push{v:Program}(c:ED w wp most M0 D0 E s S b oa on oc Lo w1 M Db Fs Do)(z:jx v g 55 oE.kO.k 96){d:Bx ah}(A:oE.In w1 f d)(e:∀b,f b->(E b\/D0 b\/w.heap.size<=b)/\b<w1.heap.size/\¬M b/\¬Fs b/\aI oa≠some b){B:Nat×Nat}(C:w1.heap[a]? =some (.cells (aF d.x d.a d.n d.c).toArray 55 B))(Q:Lo.length<=1000000)(t:∀l q w' u,ED w wp most M0 D0 E s S b l (on+1) q (Lo++[d]) w' M Db Fs u->aj (λb=>aI oa=some b) w1 w'->(∀b,aI l=some b->aI oa=some b\/w1.heap.size<=b)->m (.slice l (on+1) q) w'):
  aG v (Builtin.append_ #[g,g] n #[.slice oa on oc,.slice (XL a) 1 1]) w1 m r:=by
 refine fk (c:=oE.kO) (x:=d) (D:=λ_=>False) c.out z C ⟨rfl,trivial⟩ (λb P=>P.elim) ba (by unfold maxLen;omega) λl q w2 R x i F=>?_;have I:=x.alone;have y:∀b,aI l=some b->aI oa=some b\/w1.heap.size<=b:=λb P=>(F b (x.self b P)).imp id λh=>h.resolve_left id;have T:=i.size;have z1:=c.keep.size;have J:=c.buf.MC;have K:=c.buf.Hu;have L:=c.set.aE;have nA:=c.nA;refine t l q w2 (λb=>Do b\/f b) ⟨c.buf.keep i (λb P j=>(nA b j).2.1 P) λb P j=>(nA b j).2.2.2.2 P,c.set.keep i λb P j=>(nA b j).2.2.1 P,λN o=>?_,I,c.nM,c.nD,c.nF,λb P=>?_,λb P=>?_,c.keep.new i λb P=>.inr (nA b P).1,c.cl⟩ i y
 ·rcases Q6.1 o with o|o
  ·exact((c.Ln N o).keep i λb P j=>(nA b j).2.2.2.1 P).mono λb P=>.inl P
  ·simp at o;subst o
   exact(A.keep i λb P=>(e b P).2.2.2.2).mono λb P=>.inr P
 ·rcases P with P|P
  ·exact⟨(c.nO b P).1,by have:=(c.nO b P).2.1;omega,(c.nO b P).2.2⟩
  ·exact⟨(e b P).1,by have:=(e b P).2.1;omega,(e b P).2.2.1,(e b P).2.2.2.1⟩
 ·rcases y b P with H|H
  ·exact⟨(nA b H).1,(nA b H).2.1,(nA b H).2.2.1,λp=>p.elim (nA b H).2.2.2.1 λO=>(e b O).2.2.2.2 H,(nA b H).2.2.2.2⟩
  ·exact⟨oM,λk=>by have:=J b k;omega,λk=>by have:=L b k;omega,λk=>k.elim (λp=>by have:=(c.nO b p).2.1;omega) λp=>by have:=(e b p).2.1;omega,λk=>by have:=(K b k).1;omega⟩
def ED.wait(P:ED w wp most M0 D0 E s S b oa on oc Lo w1 M Db Fs Do){k p:Nat}(q:Row aM 8 w1 f d k l.aJ)(r:∀b,f b->b<w1.heap.size)(t:l.Ok):
  ZH 159 #[XP wp,jJ l d k p] w1 (Ok λm w'=>∃u,m= .bool u/\∃h i,ED w wp most M0 D0 E s S (eG most b l).2 oa on oc Lo w' h i Fs Do/\aj M w1 w'):=by
 refine(H_ P.buf q r t).mono ?_;rintro _ w2 ⟨m,rfl,rfl,h,v,x,g,j,n⟩;have o:=P.set.aE;have A:=P.keep.size;have B:=g.size;refine Ok.mk ⟨_,rfl,h,v,⟨x,P.set.keep g λb a e=>(P.nM b e).2 a,λy z=>(P.Ln y z).keep g λb a=>(P.nO b a).2.2.1,P.out.keep g λb a=>(P.nA b a).2.1,λb a=>?_,λb a=>?_,P.nF,λb a=>⟨(P.nO b a).1,by have:=(P.nO b a).2.1;omega,λe=>?_,(P.nO b a).2.2.2⟩,λb a=>⟨(P.nA b a).1,λe=>?_,(P.nA b a).2.2.1,(P.nA b a).2.2.2.1,λe=>?_⟩,?_,P.cl⟩,g⟩
 ·rcases j b a with c|c
  ·exact P.nM b c
  ·exact⟨.inr oM,λe=>by have:=o b e;omega⟩
 ·rcases n b a with c|c
  ·exact P.nD b c
  ·exact⟨.inr oM,λe=>by have:=o b e;omega⟩
 ·rcases j b e with c|c
  ·exact(P.nO b a).2.2.1 c
  ·have:=(P.nO b a).2.1;omega
 ·rcases j b e with c|c
  ·exact(P.nA b a).2.1 c
  ·have:=P.out.aE b a;omega
 ·rcases n b e with c|c
  ·exact(P.nA b a).2.2.2.2 c
  ·have:=P.out.aE b a;omega
 ·exact P.keep.new g λb a=>(P.nM b a).1
def ED.ready(P:ED w wp most M0 D0 E s S b oa on oc Lo w1 M Db Fs Do)(j:S.l.length<=19000000):
  ZH 160 #[XP wp,XP s] w1 (Ok λi w'=>∃c f g e,i= .slice c f g/\aV oE.kO 55 (λb=>aI c=some b) w' c f g e/\e.map (·.x)=(bE S b).1/\(∀h∈e,oE.In w' Db h)/\(∀b,aI c=some b->w1.heap.size<=b)/\
   ED w wp most M0 D0 E s S (bE S b).2 oa on oc Lo w' M Db Fs Do/\aj M w1 w'):=by
 refine(Df P.buf P.set P.cl j).mono ?_;rintro _ w2 ⟨i,rfl,c,f,g,e,rfl,k,l,m,n,o,d⟩;have r:=d.size;exact Ok.mk ⟨c,f,g,e,rfl,k,l,m,n,⟨o,P.set.keep d λb a p=>(P.nM b p).2 a,λh q=>(P.Ln h q).keep d λb a=>(P.nO b a).2.2.1,P.out.keep d λb a=>(P.nA b a).2.1,P.nM,P.nD,P.nF,λb a=>⟨(P.nO b a).1,by have:=(P.nO b a).2.1;omega,(P.nO b a).2.2⟩,P.nA,P.keep.new d λb a=>(P.nM b a).1,P.cl⟩,d⟩
end
section
variable {w w' w0 w1 w2:World} {p wp most s on oc:Nat} {F E T Z M0 D0 M Db Fs Do:XM} {cls:Nat->Nat} {h:jG} {c:cJ} {self:Int} {X:bM} {S:ar} {b:List ah} {oa:XU} {Lo:List (Bx ah)} {evs:List ah} {ea:XU} {en ec:Nat}
def AH(most:Nat)(P:List ah)(a:ah):(eG most P a).2.length<=P.length+1:=by
 unfold eG;split
 ·show P.length<=_;omega
 ·show(dA a P).length<=_
  rw[(cP a P).length_eq];simp
def MB(L:cU w F cls p h c self X)(e4:mz c self)(hr:Row iC 96 w E ea en evs)(A:∀b,E b->b<w.heap.size/\¬F b)(m3:evs.length<=1000)(hl:X.S.l.length<=18000000):
  ZH 98 #[XP p,.slice ea en ec] w (Ok λf1 w'=>∃oa on oc Lo U o Do,f1= .slice oa on oc/\aV oE.kO 55 (λb=>aI oa=some b) w' oa on oc Lo/\Lo.map (·.x)=(im c X evs).1/\(∀P∈Lo,oE.In w' Do P)/\
   cU w' U o p h c self {X with waits:=(im c X evs).2}/\cO F w U w'/\(∀b,Do b->b<w'.heap.size/\aI oa≠some b/\¬(U b/\o b=2))/\(∀b,aI oa=some b->w.heap.size<=b/\¬U b)/\(im c X evs).1.length<=evs.length+256):=by
 obtain⟨m8,m9,n0⟩:=e4.bT;have e5:=L.aE;have i6:=L.Hh;obtain⟨hS,a0,hn⟩:=(show cF w h.sp (λb=>F b/\cls b=3) X.S/\X.S.Cl/\X.S.n=c.bT.toNat from L.at' 3)
 obtain⟨M0,D0,t,c1,a1⟩:=(show Ma w (λb=>F b/\cls b=5) h.wp c.buffer.toNat X.waits from L.at' 5)
 have f3:X.waits.length<=256:=Xx t.1.2.le t.1.1;have n1:=hr.len;refine mh (PC.ok (Hq (evs:=[]) L e4 (fp w (λ_=>False)) (λb d=>d.elim) bc) ?_);rintro _ w4 ⟨s,i7,rfl,i8,b1,k4⟩;have e6:eJ c X.S []=X.S:=(uq a0 hn []).trans rfl;have z4:=k4.size;have i9:(eJ c X.S []).Cl:=by rw[e6];exact a0
 have j0:(eJ c X.S []).l.length=X.S.l.length:=by rw[e6]
 have j1:ED w h.wp c.buffer.toNat M0 D0 E s (eJ c X.S []) X.waits none 0 0 [] w4 M0 D0 i7 (λ_=>False):=by
  have j2:=t.MC;have e7:=t.Hu;refine⟨t.af k4,i8,sM,(aV.nil w4).mono (λb d=>d.elim) (λb d=>(by cases d)),λb d=>⟨.inl d,λj=>by have:=j2 b d;have:=b1 b j;omega⟩,λb d=>⟨.inl d,λj=>by have:=(e7 b d).1;have:=b1 b j;omega⟩,b1,λb d=>d.elim,λb d=>(by cases d),ai.keep k4,i9⟩
 have B:∀{w1:World},aj M0 w w1->w1.heap[p]? =some (.cells (h.cells c self) 99 (0,0)):=λ{w1} hk=>hk.get L.bD λl=>by
  have:=(c1 p l).2;rw[i6.2]at this;cases this
 have e8:∀b,E b->¬M0 b:=λb d l=>(A b d).2 (c1 b l).1;obtain⟨C,e9⟩:∃C,C=fZ c.buffer.toNat evs (eJ c X.S []) [] X.waits:=⟨_,rfl⟩
 have r:im c X evs=nP (C.2.2.length+1) C.1 C.2.1 C.2.2:=by rw[e9];rfl
 refine⟨_,rfl,λH oa on oc I w'=>∃(e:Nat) (S:ar) (b:List ah) (Lo:List (Bx ah)) (M Db Fs Do:XM),I=e/\e<=en/\H=en-e/\ED w h.wp c.buffer.toNat M0 D0 E s S b oa on oc Lo w' M Db Fs Do/\fZ c.buffer.toNat (evs.drop e) S (Lo.map (·.x)) b=C/\S.l.length<=X.S.l.length+Lo.length/\Lo.length<=e/\b.length<=256/\Lo.length+b.length<=X.waits.length+e,
  ⟨_,0,_,_,_,_,_,_,_,rfl,Qj _,rfl,j1,e9.symm,by simp[j0],sM,f3,sM⟩,?_⟩
 rintro H oa on oc _ _ f2 ⟨e,S,b,Lo,M,Db,Fs,Do,rfl,hj,rfl,j,u,V,f4,b3,f5⟩;have j3:=j.keep.size;have j4:=j.out.len dC;refine al.dec (λj5=>?_) (λj6=>?_)
 ·obtain⟨P,i⟩:∃P,evs[e]? =some P:=⟨_,Qq oM⟩
  have a8:evs.drop e=P::evs.drop (e+1):=by
   rw[X4 oM]
   congr 1
   exact(Qv.1 i).2
  rw[a8]at u;obtain⟨gb,go,es,ha,j7,n3,d2,xa,xn,xc,rfl,d3,b4⟩:=(hr.keep j.keep e8).el e P i;refine⟨gb,go,ha,oM,oM,bW (es:=aF P xa xn xc) (k:=10) (bf _ _ _ _) rfl (λI ht=>by rw[Qx];exact d2 I ht) (PA.mk λn4 j8 n8 j9=>aC (bf P xa xn xc) j9 rfl λk0 k1 n9 f6=>ay (bf P xa xn xc) f6 ?_)⟩;have a2:ai f2 k0:=j8.new k1 λb d=>.inr (by have d:b=f2.heap.size:=d;omega);have o0:=a2.size;have d4:∀b,E b->¬Fs b:=λb d l=>by have:=j.nF b l;have:=(A b d).1;omega
  refine PC.ok ((j.af a2).add (d3.af a2) (λb d=>⟨by have:=(A b d).1;omega,d4 b d⟩) b4 oM) ?_;rintro _ k2 ⟨rfl,N,J,a5,m4⟩;have o1:=a5.size;have b5:=j.set.aE;have v:=a5.get f6 λl=>by have:=b5 _ l;omega
  have f7:=S.yf P;have f8:fZ c.buffer.toNat (P::evs.drop (e+1)) S (Lo.map (·.x)) b=if(S.add P).1=0 then fZ c.buffer.toNat (evs.drop (e+1)) (S.add P).2 (Lo.map (·.x)++[P]) b else if(S.add P).1=16 then fZ c.buffer.toNat (evs.drop (e+1)) S (Lo.map (·.x)) b else fZ c.buffer.toNat (evs.drop (e+1)) S (Lo.map (·.x)) (eG c.buffer.toNat b P).2:=rfl
  rw[f8]at u;have a9:(S.add P).1≠0->(S.add P).2=S:=λW=>by
   rcases S.gJ P with⟨-,f⟩|⟨f,-⟩
   ·exact f
   ·rw[f]at W;exact Zz rfl W
  refine⟨_,rfl,al.dU (λq=>?_) (λq=>al.dU (λd5=>?_) (λd5=>λk3 k5=>?_))⟩
  ·rw[Zx q]at u
   have c4:(S.add P).2.l.length<=S.l.length+1:=f7;refine⟨_,_,_,_,_,_,_,_,_,_,_,_,ae v rfl,ae v rfl,ae v rfl,ae v rfl,ae v rfl,ae v rfl,ae v rfl,ae v rfl,ae v rfl,ae v rfl,PA.mk λk6 d6 o2 k7=>?_⟩;have g0:oE.In k6 E ⟨P,xa,xn,xc⟩:=⟨((d3.af a2).keep a5 λb d=>d4 b d).af d6,b4⟩
   have g1:=J.af d6;refine g1.push vd g0 (λb d=>⟨.inl d,by have:=(A b d).1;have:=d6.size;omega,λl=>?_,λl=>by have:=J.nF b l;have:=(A b d).1;omega,λn=>by have:=(J.nA b n).1;have:=(A b d).1;omega⟩) k7 oM λa' c' o3 O g2 m5 _=>⟨_,_,_,rfl,_,oM,e+1,_,_,_,M,Db,N,O,an oM,oM,rfl,g2,?_,?_,?_,b3,?_⟩
   ·rcases(J.nM b l).1 with f|f
    ·exact e8 b d f
    ·have:=(A b d).1;omega
   ·rw[Q3];exact u
   ·rw[QX,List.length_singleton];omega
   ·rw[QX,List.length_singleton];omega
   ·rw[QX,List.length_singleton];omega
  ·rw[Zq q,Zx d5]at u
   rw[a9 q]at J;exact⟨_,oM,e+1,S,b,Lo,M,Db,N,Do,an oM,oM,rfl,J,u,V,oM,b3,oM⟩
  ·rw[Zq q,Zq d5]at u
   rw[a9 q]at J;have c5:ai k2 k3:=k5.keep;have c9:=J.af c5;refine⟨p,0,rfl,_,ae (B c9.keep) rfl,ay (bf P xa xn xc) (c5.get v id) (PC.ok (c9.wait (((d3.af a2).keep a5 λb d=>d4 b d).af c5) (λb d=>by have:=(A b d).1;have:=c5.size;omega) b4) ?_)⟩;rintro _ o4 ⟨I,rfl,M',b6,b7,m6⟩;have d7:=AH c.buffer.toNat b P;have g3:(eG c.buffer.toNat b P).2.length<=256:=Xx b7.buf.1.2.le b7.buf.1.1;exact⟨_,rfl,_,oM,e+1,S,_,Lo,M',b6,N,Do,an oM,oM,rfl,b7,u,V,oM,g3,oM⟩
 have o5:e=evs.length:=oM
 rw[List.drop_eq_nil_of_le oM]at u;have d0:C=(S,Lo.map (·.x),b):=u.symm;rw[d0]at r;have b8:Lo.length+b.length<=evs.length+256:=oM
 refine⟨λH oa on oc w'=>∃(S:ar) (b:List ah) (Lo:List (Bx ah)) (M Db Fs Do:XM) (k:Nat),H=b.length/\ED w h.wp c.buffer.toNat M0 D0 E s S b oa on oc Lo w' M Db Fs Do/\b.length<=k/\nP (k+1) S (Lo.map (·.x)) b=im c X evs/\S.l.length<=X.S.l.length+Lo.length/\Lo.length+b.length<=evs.length+256,
  ⟨_,S,b,Lo,M,Db,Fs,Do,b.length,rfl,j,Q4 _,r.symm,V,b8⟩,?_⟩
 clear j u V f4 b3 f5 b8 j4 j3 d0 r
 rintro H oa on oc _ o6 ⟨S,b,Lo,M,Db,Fs,Do,k,rfl,j,hk,r,V,f5⟩;have o7:=j.keep.size;refine⟨p,0,rfl,_,ae (B j.keep) rfl,PC.ok (j.ready oM) ?_⟩;rintro _ o8 ⟨Y,n2,f9,Z,rfl,g4,d8,k8,g5,m,g6⟩;have o9:=g4.len dC;have d7:=uS S b;have g7:Z.length=(bE S b).1.length:=by rw[<-d8,Q8]
 have k9:nP (k+1) S (Lo.map (·.x)) b=if(bE S b).1=[]then(Lo.map (·.x),(bE S b).2)else nP k (ep (bE S b).1 S (Lo.map (·.x))).1 (ep (bE S b).1 S (Lo.map (·.x))).2 (bE S b).2:=rfl
 rw[k9]at r;have p0:=g6.size;refine⟨_,_,_,rfl,al.dU (λq=>?_) (λq=>?_)⟩
 ·have g8:(bE S b).1=[]:=QW oM
  rw[Zx g8]at r;rw[<-r];have hM:=m.buf.MC;have l0:=m.buf.Hu;obtain⟨U,o,b9,a3,l3,c2,-⟩:=L.fB bQ (k:=5) (G':=λb=>M b\/Db b) (C2:=kN p (h.cells c self) h c {X with waits:=(bE S b).2} X.S.l) (m.keep.mono λb _ d=>c1 b d)
   (λP i=>i.elim (λf=>(m.nM P f).1.imp (c1 P) id) λf=>(m.nD P f).1.imp (a1 P) id) (λP i=>i.elim (hM P) λf=>(l0 P f).1) ⟨M,Db,m.buf,λ_ h=>.inl h,λ_ h=>.inr h⟩ λe G hj hc=>by
    rcases e with _|_|_|_|_|_|_|e<;>first|exact hc|exact Zz rfl hj
  refine Ok.mk ⟨oa,on,oc,Lo,U,o,Do,rfl,m.out,rfl,m.Ln,b9,a3,λP i=>⟨(m.nO P i).2.1,λn=>(m.nA P n).2.2.2.1 i,λQ=>?_⟩,λP i=>⟨(m.nA P i).1,λQ=>?_⟩,by rw[Q8];omega⟩
  ·have d9:F P/\cls P=2:=by
    have:=congrFun (c2 2 dC) P;exact this▸Q
   rcases(m.nO P i).1 with f|f|f
   ·exact(A P f).2 d9.1
   ·have:=(a1 P f).2;rw[d9.2]at this;cases this
   ·have:=e5 P d9.1;omega
  ·rcases l3 P Q with f|f
   ·have:=e5 P f.1;have:=(m.nA P i).1;omega
   ·exact f.elim (m.nA P i).2.1 (m.nA P i).2.2.2.2
 ·have W:(bE S b).1≠[]:=λn=>by rw[n,ZQ]at g7;omega
  rw[Zq W]at r;obtain⟨k',rfl⟩:∃k',k=k'+1:=⟨k-1,by
   have:0<b.length:=by
    have:=List.length_pos_iff.2 W;omega
   omega⟩
  obtain⟨av,e0⟩:∃av,av=ep (bE S b).1 S (Lo.map (·.x)):=⟨_,rfl⟩
  rw[<-e0]at r;have g9:Lo.length+Z.length+(bE S b).2.length<=evs.length+256:=oM
  obtain⟨b2,b3⟩:∃b2,b2=(bE S b).2:=⟨_,rfl⟩
  rw[<-b3]at r m g9 d7;have e7:=m.buf.Hu;obtain⟨x,hR⟩:∃x,x=(bE S b).1:=⟨_,rfl⟩
  rw[<-hR]at d8 g7 d7 e0;have h0:∀a,aI Y=some a->¬Fs a/\aI oa≠some a:=λa g=>by
   have f:=g5 a g;exact⟨λl=>by have:=j.set.aE a l;omega,λn=>by have:=j.out.aE a n;omega⟩
  have p1:∀a,aI Y=some a->¬Db a:=λa g l=>by
   have f:=g5 a g;have h6:=(j.buf.Hu a l).1;omega
  refine⟨λH oa on oc I w'=>∃(e:Nat) (S:ar) (Lo:List (Bx ah)) (Fs Do:XM),I=e/\e<=n2/\H=n2-e/\ED w h.wp c.buffer.toNat M0 D0 E s S b2 oa on oc Lo w' M Db Fs Do/\ep (x.drop e) S (Lo.map (·.x))=av/\S.l.length<=X.S.l.length+Lo.length/\Lo.length+(n2-e)+b2.length<=evs.length+256/\aV oE.kO 55 (λb=>aI Y=some b) w' Y n2 f9 Z/\(∀P∈Z,oE.In w' Db P)/\∀a,aI Y=some a->¬Fs a/\aI oa≠some a,
   ⟨_,0,S,Lo,Fs,Do,rfl,Qj _,rfl,m,e0.symm,V,oM,g4,k8,h0⟩,?_⟩
  rintro H c3 h1 h5 _ _ h2 ⟨e,y,b0,l4,h3,rfl,hj,rfl,K,R,l5,b8,c4,h4,e2⟩;have p2:=K.keep.size;have m7:=K.out.len dC;refine al.dec (λj5=>?_) (λj6=>?_)
  ·obtain⟨P,i⟩:∃P,Z[e]? =some P:=⟨_,Qq oM⟩
   have h7:x[e]? =some P.x:=by rw[<-d8,Q9,i];rfl
   have a8:x.drop e=P.x::x.drop (e+1):=by
    rw[X4 (Qv.1 h7).1]
    congr 1
    exact(Qv.1 h7).2
   have h8:ep (P.x::x.drop (e+1)) y (b0.map (·.x))=if(y.add P.x).1=0 then ep (x.drop (e+1)) (y.add P.x).2 (b0.map (·.x)++[P.x])else ep (x.drop (e+1)) (y.add P.x).2 (b0.map (·.x)):=rfl
   rw[a8,h8]at R;have d1:=h4 P (QZ i);obtain⟨gb,go,es,ha,j7,p3,d2,rfl,-⟩:=(c4.row (bytes:=96) dC ba).el e P i;refine⟨gb,go,ha,oM,oM,bW (es:=aF P.x P.a P.n P.c) (k:=10) (bf _ _ _ _) rfl (λI ht=>by rw[Qx];exact d2 I ht) (PA.mk λp4 l6 p5 l7=>aC (bf P.x P.a P.n P.c) l7 rfl λl8 l9 p6 h9=>ay (bf P.x P.a P.n P.c) h9 ?_)⟩;have a4:ai h2 l8:=l6.new l9 λb d=>.inr (by have d:b=h2.heap.size:=d;omega);have p7:=a4.size;have m0:=K.buf.Hu;have i0:=c4.aE;refine PC.ok ((K.af a4).add (d1.keep a4 λ_ _ h=>h).1 (λa g=>⟨by have:=(m0 a g).1;omega,(K.nD a g).2⟩) d1.2 oM) ?_;rintro _ m1 ⟨rfl,e3,T,a6,i1⟩;have p8:=a6.size;have b5:=K.set.aE;have z:=a6.get h9 λl=>by have:=b5 _ l;omega
   have f7:=y.yf P.x;have c6:=(c4.af a4).keep a6 λa g=>(e2 a g).1;have c7:∀a∈Z,oE.In m1 Db a:=λa g=>((h4 a g).keep a4 λ_ _ h=>h).keep a6 λc8 Q=>(K.nD c8 Q).2;have a7:∀a,aI Y=some a->¬e3 a/\aI c3≠some a:=λa g=>⟨λl=>(i1 a l).elim (e2 a g).1 λf=>by have:=i0 a g;omega,(e2 a g).2⟩
   refine⟨_,rfl,al.dU (λq=>?_) (λq=>?_)⟩
   ·rw[Zx q]at R
    refine⟨_,_,_,_,_,_,_,_,_,_,_,_,ae z rfl,ae z rfl,ae z rfl,ae z rfl,ae z rfl,ae z rfl,ae z rfl,ae z rfl,ae z rfl,ae z rfl,PA.mk λp9 c0 q0 m2=>?_⟩;have i2:=T.af c0;have e1:=T.buf.Hu;have q1:=c0.size;refine i2.push vd ((c7 P (QZ i)).keep c0 λ_ _ h=>h) (λa g=>⟨.inr (T.nD a g).1,by have:=(e1 a g).1;omega,(e1 a g).2,(T.nD a g).2,λn=>(T.nA a n).2.2.2.2 g⟩) m2 oM λa' c' q2 O i3 f0 i4=>⟨_,_,_,rfl,_,oM,e+1,_,_,e3,O,an oM,oM,rfl,i3,?_,?_,?_,(c6.af c0).keep f0 λa g n=>(a7 a g).2 n,λa g=>((c7 a g).keep c0 λ_ _ h=>h).keep f0 λc8 Q n=>(T.nA c8 n).2.2.2.2 Q,λa g=>⟨(a7 a g).1,λn=>?_⟩⟩
    ·rw[Q3];exact R
    ·rw[QX,List.length_singleton];omega
    ·rw[QX,List.length_singleton];omega
    ·rcases i4 a n with f|f
     ·exact(a7 a g).2 f
     ·have:=c6.aE a g;omega
   ·rw[Zq q]at R
    have a9:(y.add P.x).2.l.length<=y.l.length:=by
     rcases y.gJ P.x with⟨-,f⟩|⟨f,-⟩
     ·rw[f];exact Q4 _
     ·rw[f]at q;exact Zz rfl q
    exact⟨_,oM,e+1,_,b0,e3,h3,an oM,oM,rfl,T,R,oM,oM,c6,c7,a7⟩
  ·rw[List.drop_eq_nil_of_le oM]at R
   have i5:av=(y,b0.map (·.x)):=R.symm;rw[i5]at r;have q3:0<x.length:=by have:=List.length_pos_iff.2 W;rw[<-hR]at this;exact this
   exact⟨b2.length,oM,y,b2,b0,M,Db,l4,h3,k',rfl,K,oM,r,l5,oM⟩
end
section
variable {w w' w0 w1 w2:World} {p:Nat} {F E Dv:XM} {cls:Nat->Nat} {h:jG} {c:cJ} {self:Int} {X:bM} {m:cY} {va ea:XU} {vn vc en ec:Nat}
def MA(hr:bP w p F c self X)(he:Env w0 w F){V:dm}(a6:X.log=some V)(c3:Row iC 96 w E ea en m.events)(N:∀P,E P->P<w.heap.size/\¬F P)(a7:m.events.length<=1000)(hl:X.S.l.length<=18000000):
  ZH 46 #[XP p,jD m va vn vc ea en ec] w (Ok λa5 w'=>∃O e,a5= .tuple #[O,QH (lF c self X m).2.1]/\eS w e (lF c self X m).1 O w'/\bP w' p e c self (lF c self X m).2.2/\cO F w e w'):=by
 obtain⟨g,h,cls,Q⟩:=hr;have R:=Q.aE;refine mg (PA.mk λS q s8 T=>?_);obtain⟨a,U⟩:∃a,a=im c X m.events:=⟨_,rfl⟩
 have y:∀{z},(if a.1=[]then([xZ X.S self m.bX],0,{X with waits:=a.2})else
   if(dh c {X with waits:=a.2} a.1).1≠0 then([],(dh c {X with waits:=a.2} a.1).1,{(dh c {X with waits:=a.2} a.1).2 with waits:=[]})else([xZ (dh c {X with waits:=a.2} a.1).2.S self m.bX],0,(dh c {X with waits:=a.2} a.1).2))=z->lF c self X m=z:=λ{z} d=>by rw[<-d,U];rfl
 refine⟨λw'=>∃e f,bP w' p e c self f/\cO F w e w'/\(∀P,e P->F P\/S.heap.size<=P)/\w'.heap[w.heap.size]? =some (.cells (bV m va vn vc ea en ec).toArray 60 (0,0))/\lF c self X m=([xZ f.S self m.bX],0,f),?_,?_⟩
 ·refine⟨_,_,_,ae T rfl,PC.ok (MB (cU.af Q q) g (c3.af q) (λP b=>⟨by have:=(N P b).1;omega,(N P b).2⟩) a7 hl) ?_⟩
  rw[<-U];rintro _ W ⟨Y,on,oc,Lo,A,b0,Do,rfl,B,Z,c4,b2,i,r,c5,e0⟩;have hn:=B.len dC;have c6:Lo.length=a.1.length:=by rw[<-Z,Q8]
  have b3:=fO.unbox B c4 λP b=>⟨(r P b).1,(r P b).2.1⟩
  rw[Qa,Z]at b3;have b4:Row iC 96 W (λP=>aI Y=some P\/Do P) Y on a.1:=b3.row dC ba;have C:cO F w A W:=⟨(ai.keep q).then i.keep,λP b=>(i.new P b).imp id λh1=>oM⟩
  have H:∀P,A P->F P\/S.heap.size<=P:=i.new;have b5:=i.keep.get T λd=>by have:=R _ d;omega
  have c7:=(he.af q).AW i;refine⟨_,_,_,rfl,al.dec (λd9=>?_) (λhz=>?_)⟩
  rotate_left
  ·have b6:a.1=[]:=QW oM
   exact⟨A,{X with waits:=a.2},⟨g,h,b0,b2⟩,C,H,b5,y (Zx b6)⟩
  have b7:a.1≠[]:=λs=>by rw[s,ZQ]at c6;omega
  refine PC.ok (Hi b2 g c7 (V:=V) a6 b4 (λP b=>b.elim (λs=>⟨B.aE P s,λd=>(c5 P s).2 d.1⟩) λd=>⟨(r P d).1,(r P d).2.2⟩) (by show X.S.l.length+_<=_;omega)) ?_;rintro _ c8 ⟨rfl,k,F2,a1,t,I,-⟩;have a0:=C.trans I;have e1:=C.keep.size;refine⟨_,rfl,al.dQ (λb8=>?_) (λh0=>?_)⟩
  ·obtain⟨a2,Db,b,hM,hD⟩:=(show Ma c8 (λP=>F2 P/\a1 P=5) k.wp c.buffer.toNat (dh c {X with waits:=a.2} a.1).2.waits from t.at' 5)
   refine⟨p,0,rfl,_,ae (t.at' 0).2 rfl,PC.ok (tj b) ?_⟩;rintro _ e2 ⟨rfl,a3,c9⟩;obtain⟨F3,l,J,n,-⟩:=t.AW bQ (k:=5) (G':=a2) (C2:=kN p (k.cells c self) k c {(dh c {X with waits:=a.2} a.1).2 with waits:=[]} (dh c {X with waits:=a.2} a.1).2.S.l) ⟨c9.mono λP _ b=>hM P b,λP b=>.inl (hM P b)⟩ a3.MC ⟨a2,_,a3,λ_ h=>h,λP b=>b.elim⟩ λa4 G hj hc=>by
    rcases a4 with _|_|_|_|_|_|_|a4<;>first|exact hc|exact Zz rfl hj
   refine⟨rfl,Ok.mk ?_⟩;rw[y ((Zq b7).trans (Zx b8))];exact⟨_,F3,rfl,eS.nil _ _ _,⟨g,k,l,J⟩,a0.trans n⟩
  ·refine⟨F2,(dh c {X with waits:=a.2} a.1).2,⟨g,k,a1,t⟩,a0,λP b=>(I.new P b).elim (H P) λK=>.inr (by have:=i.keep.size;omega),I.keep.get b5 λd=>?_,y ((Zq b7).trans (Zq (by simpa using h0)))⟩
   rcases H _ d with K|K
   ·have:=R _ K;omega
   ·omega
 ·rintro _ d0 ⟨e,f,d1,L,e3,d2,d3⟩ b9 d4
  obtain⟨-,h',o,M⟩:=d1;have u:ai d0 b9:=d4.keep;have j:=cU.af M u;refine⟨p,0,rfl,_,ae j.bD rfl,p,0,rfl,_,ae j.bD rfl,_,ae (u.get d2 id) rfl,PC.ok (Hc (j.at' 3).1) ?_⟩;rintro _ d5 ⟨a8,n2,c2,G,rfl,c0,hG,v⟩;have c1:=c0.aE;have e4:=L.keep.size;have z2:=u.size;have d6:=v.size;refine⟨_,_,_,_,_,_,_,_,_,rfl,PA.mk λd7 x e5 d8=>?_⟩;have hm:bj b9 [xZ f.S self m.bX] (.slice (XL d5.heap.size) 1 1) d7:=bj.one (D:=G) d8 ⟨(c0.af x).row dC (by show f.S.vec.length*8<=aS;rw[f.S.bZ];have:f.S.n<=64:=(j.at' 3).1.1.n;unfold aS;omega),fp _ _⟩ (λP b=>⟨hG P b,by have:=c1 P b;omega,by have:=c1 P b;omega⟩) d6 (v.then x);rw[d3];exact Ok.mk ⟨_,e,rfl,hm.out j.aE oM,⟨g,h',o,cU.af j (v.then x)⟩,((L.keep.af u).af v).af x,L.new⟩
end
section
variable {w w' w0 w1 w2:World} {p:Nat} {F E Dv:XM} {cls:Nat->Nat} {h:jG} {c:cJ} {self:Int} {X:bM} {m:cY} {va ea:XU} {vn vc en ec:Nat}
def mz.zV(P:mz c self):1<=c.chunk/\c.chunk<=32:=by
 have:=P.right;unfold jH within at this;simp only[QK,Zk]at this;omega
def pK(hr:bP w p F c self X)(he:Env w0 w F)(V:Row aM 8 w Dv va vn m.vec)(f2:∀P,Dv P->P<w.heap.size/\¬F P)(c7:Row iC 96 w E ea en m.events)(hE:∀P,E P->P<w.heap.size/\¬F P)(hl:X.S.l.length<=18000000):
  ZH 17 #[XP p,jD m va vn vc ea en ec] w (Ok λW w'=>∃q f,W= .tuple #[q,QH (cd c self X m).2.1]/\eS w f (cd c self X m).1 q w'/\bP w' p f c self (cd c self X m).2.2/\cO F w f w'):=by
 have b0:=hr;obtain⟨x,h,cls,g⟩:=hr;have I:=g.aE;obtain⟨f3,h7,h9⟩:=x.bT;have i0:=x.zV;refine kJ (PA.mk λw8 Y s8 g8=>?_);have h8:=cU.af g Y;have no:∀{w1:World} {i:Int},ai w w1->cd c self X m=([],i,X)->Ok (λW w'=>∃q f,W= .tuple #[q,QH (cd c self X m).2.1]/\eS w f (cd c self X m).1 q w'/\bP w' p f c self (cd c self X m).2.2/\cO F w f w') (.returned (.tuple #[.slice none 0 0,QH i])) w1:=λ{w1 i} J Z=>by
  rw[Z];exact Ok.mk ⟨_,F,rfl,eS.nil _ _ _,b0.af J,ai.keep J,λP a=>.inl a⟩
 refine⟨p,0,rfl,_,ae h8.bD rfl,gq Tryz.underlying95 ⟨_,rfl,?_⟩⟩;have c8:DL w (λP=>F P/\cls P=2) h.dp h.lp X.D X.log:=g.at' 2
 cases y:X.log with
 |none=>
  obtain⟨Fd,-,-,j⟩:=c8;rw[y]at j;have j:h.lp=none:=j;rw[j];exact al.tt rfl (no Y (by unfold cd;rw[y]))
 |some a8=>
 obtain⟨a9,a0,a6,-⟩:=DL.Mz (y▸c8) (he.sub λP a=>a.1) λP a=>I P a.1;have K:∀{r},(if eK m c.bT.toNat c.chunk≠0 then([],eK m c.bT.toNat c.chunk,X)else if m.oF≠self then([],1,X)else if m.kind=3 then lF c self X m else
   if m.kind≠4 then(lg X.S self m c.chunk,0,{X with fM:=X.fM.x_ m.bX m.vec X.S.vec})else
   if X.S.missing m.vec c.chunk=[]then([],0,{X with fM:=X.fM.x_ m.bX m.vec X.S.vec})else([⟨3,self,m.bX,[],X.S.missing m.vec c.chunk⟩],0,{X with fM:=X.fM.x_ m.bX m.vec X.S.vec}))=r->cd c self X m=r:=λ{r} l=>by rw[<-l];unfold cd;rw[y]
 rw[a0];refine al.ff rfl λf5 c9=>?_;have L:ai w f5:=Y.then c9.keep;have d0:=cU.af g L;have d1:=(c9.keep (S:=λ_=>False)).get g8 id;refine ay (jo m va vn vc ea en ec) d1 ⟨p,0,rfl,_,ae d0.bD rfl,p,0,rfl,_,ae d0.bD rfl,?_⟩;rw[f3];refine PC.ok (Mt (V.af L) (c7.af L) oM) ?_;rintro _ i1 ⟨rfl,d2⟩;have a1:=L.then d2;have f6:=cU.af g a1;have d3:=d2.get d1 id;refine⟨_,rfl,al.dQ (λs=>no a1 (K (Zx s))) (λs=>⟨_,ae d3 rfl,p,0,rfl,_,ae f6.bD rfl,λf7 d4=>?_⟩)⟩;have k:ai w f7:=a1.then d4.keep;have i2:=cU.af g k;have b8:=(d4.keep (S:=λ_=>False)).get d3 id;have b9:¬eK m c.bT.toNat c.chunk≠0:=by simpa using s
 refine al.dQ (λM=>no k (K ((Zq b9).trans (Zx M)))) (λM=>⟨_,ae b8 rfl,al.dU (λj=>?_) (λj=>λd5 d6=>?_)⟩)
 ·have Z:=K (((Zq b9).trans (Zq (by simpa using M))).trans (Zx j))
  have d7:m.events.length<=1000:=by
   have d:=s;unfold eK at d;simp only at d;rw[Zx j]at d;split at d
   ·cases d
   ·unfold eL at d
    split at d
    ·cases d
    split at d
    ·cases d
    ·omega
  refine ay (jo m va vn vc ea en ec) b8 (PC.ok (MA (b0.af k) (he.af k) y (c7.af k) (λP a=>⟨by have:=(hE P a).1;have:=k.size;omega,(hE P a).2⟩) d7 hl) ?_);rintro _ i3 ⟨q,f,rfl,b1,g0,b2⟩;have g1:=b1;obtain⟨a2,n2,c2,a7,D,rfl,o2,o3,o4,o5,o6⟩:=b1;refine⟨_,_,_,_,rfl,Ok.mk ?_⟩;have f0:=k.size;rw[Z];exact⟨_,f,rfl,⟨a2,n2,c2,a7,D,rfl,o2,o3,o4,λP a=>⟨by have:=(o5 P a).1;omega,(o5 P a).2⟩,λP a=>⟨by have:=(o6 P a).1;omega,(o6 P a).2⟩⟩,g0,(ai.keep k).then b2.keep,λP a=>(b2.new P a).imp id λd=>oM⟩
 ·have c0:ai w d5:=k.then d6.keep
  have N:=cU.af g c0;have c1:=(d6.keep (S:=λ_=>False)).get b8 id;have d8:dX d5 h.tp (λP=>F P/\cls P=6) X.fM:=N.at' 6;have fQ:=(N.at' 3).1;have nS:¬(F p/\cls p=6):=λi=>by have:=i.2;rw[g.Hh.2]at this;cases this
  have d9:¬(F w.heap.size/\cls w.heap.size=6):=λi=>by have:=I _ i.1;omega
  refine⟨λP=>F P/\cls P=6,p,0,rfl,nS,_,ae N.bD rfl,d9,_,ae c1 rfl,d9,_,_,_,ae c1 rfl,p,0,rfl,_,ae N.bD rfl,PC.ok (kQ fQ) ?_⟩;rintro _ g2 ⟨a2,n2,c2,G,rfl,e0,z,hG⟩;have hN:X.S.n<=64:=fQ.1.n;have g3:Row aM 8 g2 G a2 n2 X.S.vec:=e0.row dC (by rw[X.S.bZ];unfold aS;omega);have i4:=c0.size;have i5:=z.size;have A:=c0.then z;refine⟨_,_,_,rfl,ai.keep z,PC.ok (Hj (d8.af z) ((V.af A).rX) g3.rX λ_=>dq.2 λP a l=>?_) ?_⟩
  ·have:=hG P (e0.self P a);have:=I P l.1;omega
  rintro _ c4 ⟨G6,rfl,a3,b3⟩;obtain⟨O,e,B,b,-⟩:=(cU.af g A).AW bQ (k:=6) (G':=G6) (C2:=kN p (h.cells c self) h c {X with fM:=X.fM.x_ m.bX m.vec X.S.vec} X.S.l) b3 a3.aE a3 λa4 G hj s=>by
   rcases a4 with _|_|_|_|_|_|_|a4<;>first|exact s|exact Zz rfl hj
  have n:cO F w O c4:=⟨(ai.keep A).then b.keep,λP a=>(b.new P a).imp id λd=>by have:=A.size;omega⟩
  have Q:=b.keep.get (z.get c1 id) λl=>by have:=I _ l;omega
  have b4:=(V.af A).keep b.keep λP a=>(f2 P a).2;have i6:=n.keep.size;have c5:=λ{r} l=>K (r:=r) (((Zq b9).trans (Zq (by simpa using M))).trans ((Zq j).trans l));refine⟨_,rfl,b3.keep,_,ae Q rfl,al.dQ (λR=>λe1 g4=>?_) (λR=>λe2 g5=>?_)⟩
  ·have C:ai c4 e1:=g4.keep
   have t:=cU.af B C;have i7:=C.size;refine⟨p,0,rfl,_,ae t.bD rfl,p,0,rfl,_,ae t.bD rfl,ay (jo m va vn vc ea en ec) (C.get Q id) ⟨p,0,rfl,_,ae t.bD rfl,PC.ok (Hk (t.at' 3).1 (show X.S.l.length<=20000000 by omega) (b4.af C)) ?_⟩⟩;rintro _ g6 c6;obtain⟨a5,S,c3,rfl⟩:=c6.sl;have b5:ai e1 g6:=by obtain⟨_,_,_,_,_,_,_,_,_,_,_,J⟩:=c6;exact J
   refine⟨_,_,_,rfl,Ok.mk ?_⟩;rw[c5 (Zx R)];exact⟨_,O,rfl,c6.out t.aE oM,⟨x,h,e,cU.af t b5⟩,(n.keep.af C).af b5,n.new⟩
  ·have o:ai c4 e2:=g5.keep
   have H:=cU.af B o;have i8:=o.size;refine⟨p,0,rfl,_,ae H.bD rfl,_,_,_,ae (o.get Q id) rfl,p,0,rfl,_,ae H.bD rfl,PC.ok (wX (H.at' 3).1 (by show X.S.l.length<=_;omega) (b4.af o)) ?_⟩;rintro _ e3 ⟨a5,S,c3,G3,rfl,T,u,g7⟩;have e4:=T.len dC;have b6:=T.aE;have e5:=cU.af H u;have i9:=u.size;have d7:(X.S.missing m.vec c.chunk).length<=32:=by
    unfold ar.missing;rw[Qy];omega
   change aV iC 55 G3 e3 a5 S c3 (X.S.missing m.vec c.chunk)at T
   refine⟨_,_,_,rfl,al.dec (λh6=>λe6 g9=>?_) (λhz=>Ok.mk ?_)⟩
   ·have e7:X.S.missing m.vec c.chunk≠[]:=λi=>by
     have b7:S=(X.S.missing m.vec c.chunk).length:=e4;rw[i,ZQ]at b7;omega
    have v:ai e3 e6:=g9.keep;have e8:=cU.af e5 v;have j0:=v.size;refine⟨p,0,rfl,_,ae e8.bD rfl,_,ae (v.get (u.get (o.get Q id) id) id) rfl,PA.mk λh0 U j1 h2=>Ok.mk ?_⟩;have hm:bj e2 [⟨3,self,m.bX,[],X.S.missing m.vec c.chunk⟩] (.slice (XL e6.heap.size) 1 1) h0:=bj.one (m:=⟨3,self,m.bX,[],X.S.missing m.vec c.chunk⟩) (va:=none) (vn:=0) (vc:=0) (D:=G3) h2 ⟨fp _ _,((T.af v).af U).row dC ba⟩ (λP a=>⟨g7 P a,by have:=b6 P a;omega,by have:=b6 P a;omega⟩) oM ((u.then v).then U);rw[c5 ((Zq (by simpa using R)).trans (Zq e7))];exact⟨_,O,rfl,hm.out H.aE oM,⟨x,h,e,cU.af e8 U⟩,(((n.keep.af o).af u).af v).af U,n.new⟩
   ·have e9:X.S.missing m.vec c.chunk=[]:=QW (by
     have b7:S=(X.S.missing m.vec c.chunk).length:=e4;omega)
    rw[c5 ((Zq (by simpa using R)).trans (Zx e9))];exact⟨_,O,rfl,eS.nil _ _ _,⟨x,h,e,e5⟩,(n.keep.af o).af u,n.new⟩
end
section
variable {w w' w0 w1 w2:World} {p:Nat} {F E Dv:XM} {cls:Nat->Nat} {h:jG} {c:cJ} {self:Int} {X:bM}
def Mb(O:bP w p F c self X)(t:Env w0 w F)(Q:aN e):
  ZH 25 #[XP p,QH e] w (Ok λR w'=>∃r,R= QH (iV c X e).1/\bP w' p r c self (iV c X e).2/\cO F w r w'/\(iV c X e).2.S.l.length<=16777216):=by
 obtain⟨B,h,cls,s⟩:=O;have b8:=s.aE;have b9:=s.Hh;have u:bH w F cls (recC p (wg h c self h.lp (XL h.sp) (XL h.bp)) {h with lp:=none} c {X with log:=none} false):=
  ⟨λk=>by
   have f:=s.at' k;rcases k with _|_|_|_|_|_|_|k<;>first|exact f|trivial|(intro S;cases S)|(obtain⟨Fd,i,v,T⟩:=f;exact⟨Fd,i,v,rfl⟩),s.aE⟩
 obtain⟨Fd,U,n,-⟩:=(show DL w (λP=>F P/\cls P=2) h.dp none X.D none from u.at' 2)
 refine mf ⟨p,0,rfl,_,ae (u.at' 0).2 rfl,PC.ok (IT U Q) ?_⟩;rintro _ V ⟨C,rfl,E,H⟩;obtain⟨W,Y,x,o,-⟩:=u.AW gO (k:=2) (G':=C) (C2:=recC p (wg h c self h.lp (XL h.sp) (XL h.bp)) {h with lp:=none} c {X with log:=none,D:=X.D.dV e} false) ⟨H.keep.mono λP _ a=>n P a,λP a=>(H.new P a).imp (n P) id⟩ (λP a=>E.aE P a) ⟨C,E,λP a=>a,rfl⟩ λb G j f=>by
  rcases b with _|_|_|_|_|_|_|b<;>first|exact f|exact Zz rfl j
 obtain⟨I,Db,a,J,hD⟩:=(show Ma V (λP=>W P/\Y P=5) h.wp c.buffer.toNat X.waits from x.at' 5)
 refine⟨rfl,p,0,rfl,_,ae (x.at' 0).2 rfl,PC.ok (tj a) ?_⟩;rintro _ c0 ⟨rfl,K,Z⟩;obtain⟨l,g,d,m,-⟩:=x.AW gO (k:=5) (G':=I) (C2:=recC p (wg h c self h.lp (XL h.sp) (XL h.bp)) {h with lp:=none} c {X with log:=none,D:=X.D.dV e,waits:=[]} false) ⟨Z.mono λP _ a=>J P a,λP a=>.inl (J P a)⟩ K.MC ⟨I,_,K,λ_ h=>h,λP a=>a.elim⟩ λb G j f=>by
  rcases b with _|_|_|_|_|_|_|b<;>first|exact f|exact Zz rfl j
 refine⟨rfl,p,0,rfl,_,ae (d.at' 0).2 rfl,PC.ok (Hl (d.at' 6)) ?_⟩;rintro _ y ⟨rfl,a3,L⟩;have z:bH y l g (recC p (wg h c self h.lp (XL h.sp) (XL h.bp)) {h with lp:=none} c {X with log:=none,D:=X.D.dV e,waits:=[],fM:=⟨X.fM.cZ,[],[]⟩} false):=d.same gO (k:=6) L a3 λb G j f=>by
  rcases b with _|_|_|_|_|_|_|b<;>first|exact f|exact Zz rfl j
 have M:cO F w l y:=by
  have i:=o.trans m;exact⟨i.keep.new (L.mono λP _ a=>a.1) λP a=>i.new P a,i.new⟩
 have a5:=t.AW M;have b3:=DL.sO (show DL y (λP=>l P/\g P=2) h.dp none (X.D.dV e) none from z.at' 2) (a5.sub λP a=>a.1);refine⟨rfl,p,0,rfl,_,ae (z.at' 0).2 rfl,PC.ok (Ly t.laid b3) ?_⟩;rintro _ c1 ⟨rfl,a0,b4⟩;obtain⟨G2,b5,a6,b6,-⟩:=DL.KS (Y:=λ_=>False) (a0.mono λP a=>a.elim id False.elim) b4;obtain⟨c2,b7,a7,a1,-⟩:=z.AW gO (k:=2) (G':=G2) (C2:=recC p (wg h c self h.lp (XL h.sp) (XL h.bp)) {h with lp:=none} c {X with log:=none,D:=df (X.D.dV e),waits:=[],fM:=⟨X.fM.cZ,[],[]⟩} false) a6 b6 (by
   obtain⟨Fd,i,v,T⟩:=b5;exact⟨Fd,i,v,rfl⟩) λb G j f=>by
  rcases b with _|_|_|_|_|_|_|b<;>first|exact f|exact Zz rfl j
 have N:=M.trans a1;refine⟨rfl,PC.ok (wY (h:={h with lp:=none}) (z1:=h.lp) (z2:=XL h.sp) (z3:=XL h.bp) a7 B (t.AW N)) ?_⟩;rintro _ c3 ⟨rfl,a8,h',r,q,A,a9⟩;exact⟨_,rfl,Ok.mk ⟨r,rfl,⟨B,h',q,A⟩,N.trans a9,a8⟩⟩
def Oh(r:bP w p F c self X)(s:aN e):
  ZH 59 #[XP p,QH e] w (Ok λt w'=>∃l,t= .tuple #[]/\bP w' p l c self {X with D:=X.D.IP e}/\cO F w l w'):=by
 obtain⟨u,h,cls,g⟩:=r;obtain⟨Fd,v,i,b⟩:=(show DL w (λP=>F P/\cls P=2) h.dp h.lp X.D X.log from g.at' 2)
 refine mU ⟨p,0,rfl,_,ae g.bD rfl,PC.ok (LO s v) ?_⟩;rintro _ m ⟨rfl,x,j⟩;have y:cU m F cls p h c self {X with D:=X.D.IP e}:=bH.same g bQ (k:=2) (j.keep.mono λP _ a=>i P a) (by
  refine⟨Fd,x,i,?_⟩;show match X.log with
   |none=>h.lp=none
   |some k=>k.a_≠[]/\∃d f,h.lp=some ⟨d,0,none⟩/\iH m h.dp d f k/\∀P,f P->(F P/\cls P=2)/\¬Fd P
  cases n:X.log with
  |none=>rw[n]at b;exact b
  |some k=>
   rw[n]at b;obtain⟨z,d,f,A,B,o⟩:=b;exact⟨z,d,f,A,B.keep j.keep λP a=>(o P a).2,o⟩) λq G C E=>by
  rcases q with _|_|_|_|_|_|_|q<;>first|exact E|exact Zz rfl C
 exact⟨rfl,Ok.mk ⟨F,rfl,⟨u,h,cls,y⟩,j.keep.mono λP _ a=>(i P a).1,λP a=>.inl a⟩⟩
def BK{V:dm}{D:ak}{l:List ah}{size:Int}(a:(aQ V D l size).no=0):(aQ V D l size).V.a_≠[]:=by
 revert a
 unfold aQ;split
 ·rename_i P;intro h;exact Zz h P
 split
 ·rename_i P;intro h;exact Zz h P
 ·exact AA
def Gy(R:bP w p F c self X)(A:Env w0 w F)(hl:X.S.l.length<=18000000):
  ZH 24 #[XP p] w (Ok λa2 w'=>∃S,a2= QH (ej c X).1/\bP w' p S c self (ej c X).2/\cO F w S w'):=by
 have a6:=R;obtain⟨T,h,cls,n⟩:=R;have a8:=n.aE;refine kK ⟨p,0,rfl,_,ae n.bD rfl,gq Tryz.underlying95 ⟨_,rfl,?_⟩⟩;have U:DL w (λP=>F P/\cls P=2) h.dp h.lp X.D X.log:=n.at' 2
 cases l:X.log with
 |none=>
  obtain⟨Fd,-,-,i⟩:=U;rw[l]at i;have i:h.lp=none:=i;rw[i];have o:ej c X=(15,X):=by unfold ej;rw[l]
  rw[o];exact al.tt rfl (Ok.mk ⟨F,rfl,a6,cO.refl _ _⟩)
 |some b=>
 obtain⟨y,e,B,-⟩:=DL.Mz (l▸U) (A.sub λP a=>a.1) λP a=>a8 P a.1;have C:∀{j},(if(aQ b X.D X.S.l c.bh).no≠0 then((aQ b X.D X.S.l c.bh).no,{X with D:=(aQ b X.D X.S.l c.bh).D})else(0,{X with D:=(aQ b X.D X.S.l c.bh).D,log:=some (aQ b X.D X.S.l c.bh).V}))=j->ej c X=j:=λ{j} E=>by rw[<-E];unfold ej;rw[l]
 rw[e];refine al.ff rfl λw9 d9=>?_;have V:ai w w9:=d9.keep;have m:=cU.af n V;have W:=n.Hh;have H:¬(F p/\cls p=2):=λq=>by have:=q.2;rw[W.2]at this;cases this
 refine⟨λP=>F P/\cls P=2,p,0,rfl,H,_,ae m.bD rfl,p,0,rfl,H,_,ae m.bD rfl,p,0,rfl,_,ae m.bD rfl,p,0,rfl,H,_,ae m.bD rfl,PC.ok (qk (m.at' 3).1 oM) ?_⟩;rintro _ r ⟨b6,b7,cc,G,rfl,Y,I,hG⟩;have z:=cU.af m I;have s:=V.then I;have a9:=Y.aE;obtain⟨Z,g,-,J⟩:=DL.Mz (show DL r (λP=>F P/\cls P=2) h.dp h.lp X.D (some b)from l▸z.at' 2) ((A.af s).sub λP a=>a.1) λP a=>z.aE P a.1;have E:Z=y:=by rw[e]at g;cases g;rfl
 subst E;refine⟨_,_,_,rfl,ai.keep I,?_⟩;rw[e];refine PC.ok (FZ A.laid J (Y.row dC ba) a9 oM) ?_;have a0:=BK (V:=b) (D:=X.D) (l:=X.S.l) (size:=c.bh);generalize aQ b X.D X.S.l c.bh=j at C a0;rintro _ a3 ⟨K,a4,b0,a5,⟨t,rfl,b1⟩|⟨t,q3,rfl,b2⟩⟩
 ·obtain⟨Fd,h1,h2,i,h4⟩:=b1
  have L:∀P,¬(P<r.heap.size/\¬(F P/\cls P=2))->(F P/\cls P=2)\/r.heap.size<=P:=λP a=>by
   rcases Nat.lt_or_ge P r.heap.size with M|M
   ·exact .inl (Classical.byContradiction λh8=>a ⟨M,h8⟩)
   ·exact .inr M
  have a1:aj (λP=>F P/\cls P=2) r a3:=a5.mono λP b8 a=>(L P a).resolve_right oM;obtain⟨N,k,f,u,-⟩:=z.fB bQ (k:=2) (G':=λP=>Fd P\/K P) (C2:=kN p (h.cells c self) h c {X with D:=j.D} X.S.l) a1 (λP a=>a.elim (λv=>L P λh6=>(i P v).2 (.inl h6)) λv=>L P (b0 P v).2) (λP a=>a.elim (h1.aE P) (a4.aE P)) (by
    refine⟨Fd,h1,λP a=>.inl a,?_⟩;show match X.log with
     |none=>h.lp=none
     |some b=>b.a_≠[]/\∃y Fl,h.lp=some ⟨y,0,none⟩/\iH a3 h.dp y Fl b/\∀P,Fl P->(Fd P\/K P)/\¬Fd P
    rw[l];exact⟨B,Z,K,e,a4,λP a=>⟨.inr a,λhd=>(i P hd).2 (.inr a)⟩⟩) λx G O o=>by
   rcases x with _|_|_|_|_|_|_|x<;>first|exact o|exact Zz rfl O
  refine⟨_,_,rfl,a1,al.dU (λQ=>Zz Q t) (λ_=>Ok.mk ?_)⟩;rw[C (Zx t)];exact⟨N,rfl,⟨T,h,k,f⟩,(ai.keep s).then u.keep,λP a=>(u.new P a).imp id λv=>by have:=s.size;omega⟩
 ·obtain⟨G2,b3,u,b4,hY⟩:=DL.Ey b2 a5 (a0 t)
  obtain⟨N,k,f,d,-⟩:=z.AW bQ (k:=2) (G':=G2) (C2:=kN p (h.cells c self) {h with lp:=XL q3} c {X with D:=j.D,log:=some j.V} X.S.l) u b4 b3 λx G O o=>by
   rcases x with _|_|_|_|_|_|_|x<;>first|exact o|exact Zz rfl O
  refine⟨_,_,rfl,u.keep,al.dU (λ_=>⟨p,0,rfl,PS.mk (f.at' 0).2 sM λb9 a7 c0 b5=>Ok.mk ?_⟩) (λQ=>Zz rfl Q)⟩;rw[C (Zq (by simpa using t))];exact⟨N,rfl,⟨T,{h with lp:=XL q3},k,cU.store f a7 b5⟩,((ai.keep s).then d.keep).then (a7.mono λP _ q=>by have q:P=p:=q;rw[q];exact W.1),λP a=>(d.new P a).imp id λv=>by have:=s.size;omega⟩
end
section
variable {w w' w0 w1 w2:World} {p:Nat} {F E D:XM} {c:cJ} {self:Int}
def il(c:cJ)(P:XU)(tn a:Nat)(b:XU)(d e:Nat):List Value:=[QH c.bT,QH c.sO,QH c.bh,QH c.chunk,QH c.buffer,QH c.cZ,QH c.every,QH c.start,.slice P tn a,.slice b d e]
abbrev nk(c:cJ)(P:XU)(tn a:Nat)(b:XU)(d e:Nat):Value:=.agg (il c P tn a b d e).toArray
def wG(c:cJ)(P:XU)(tn a:Nat)(b:XU)(d e:Nat):jf XG 29 (il c P tn a b d e)=true:=kR
def nB:ZH 70 #[QH e,QH u,QH Y] w (Ok λP w'=>P= .bool (within e u Y)/\w=w'):=by
 refine tx (al.dec (λa=>Ok.mk ⟨?_,rfl⟩) (λa=>Ok.mk ⟨?_,rfl⟩))
 ·simp[within];omega
 ·simp[within];omega
def MD{tn z A B:Nat}:ZH 33 #[nk c d tn z t A B,QH self] w (Ok λk w'=>k= .bool (jH c self)/\ai w w'):=by
 refine xA (PA.mk λw1 s I a=>?_);have J:∀{l m n:Int} {o:Bool->Prop} {u:List PanicEntry->XT},o (within l m n)->∃p v x,(Value.func (.func 70) #[] #[])= .func (.func p) v x/\enters XG p=true/\PC XG p (v++ #[QH l,QH m,QH n]++x) w1 (λC E=>∃(y:Bool),C= .bool y/\E=w1/\o y) u:=λ{l m n o u} q=>by
  refine⟨_,_,_,rfl,kR,PC.ok nB ?_⟩;rintro _ _ ⟨rfl,rfl⟩;exact⟨_,rfl,rfl,q⟩
 have no:jH c self=false->Ok (λk w'=>k= .bool (jH c self)/\ai w w') (.returned (.bool false)) w1:=λF=>Ok.mk ⟨by rw[F],s⟩;have b:jH c self=(within c.bT 1 64&&(within self 0 (c.bT-1)&&(within c.sO 64 262144&&(decide (c.bh>=1)&&(decide (c.every>=1)&&(within c.chunk 1 32&&(within c.buffer 1 256&&(within c.cZ 1 1048576&&decide (c.start>=0))))))))):=by
  unfold jH;simp only[Bool.and_assoc]
 refine⟨_,ae a rfl,_,_,_,rfl,kR,PC.ok nB ?_⟩;rintro _ _ ⟨rfl,rfl⟩;refine⟨_,rfl,al.mk (λP=>⟨_,ae a rfl,_,_,_,rfl,kR,PC.ok nB ?_⟩) (λP=>no (by rw[b,P];rfl))⟩;have H:IntKind.wrap .i64 (c.bT-1)=c.bT-1:=wrap_i64 (by have:=bF.1 P;unfold aN;omega);rw[H];rintro _ _ ⟨rfl,rfl⟩;refine⟨_,rfl,al.mk (λe=>⟨_,ae a rfl,_,_,_,rfl,kR,PC.ok nB ?_⟩) (λe=>no (by rw[b,P,e];rfl))⟩;rintro _ _ ⟨rfl,rfl⟩;refine⟨_,rfl,al.mk (λf=>⟨_,ae a rfl,al.mk (λg=>⟨_,ae a rfl,al.mk (λh=>⟨_,ae a rfl,_,_,_,rfl,kR,PC.ok nB ?_⟩) (λh=>no (by rw[b,P,e,f,g,h];rfl))⟩) (λg=>no (by rw[b,P,e,f,g];rfl))⟩) (λf=>no (by rw[b,P,e,f];rfl))⟩;rintro _ _ ⟨rfl,rfl⟩;refine⟨_,rfl,al.mk (λi=>⟨_,ae a rfl,_,_,_,rfl,kR,PC.ok nB ?_⟩) (λi=>no (by rw[b,P,e,f,g,h,i];rfl))⟩;rintro _ _ ⟨rfl,rfl⟩;refine⟨_,rfl,al.mk (λj=>⟨_,ae a rfl,_,_,_,rfl,kR,PC.ok nB ?_⟩) (λj=>no (by rw[b,P,e,f,g,h,i,j];rfl))⟩;rintro _ _ ⟨rfl,rfl⟩;refine⟨_,rfl,al.mk (λr=>⟨_,ae a rfl,Ok.mk ⟨by rw[b,P,e,f,g,h,i,j,r];rfl,s⟩⟩) (λr=>no (by rw[b,P,e,f,g,h,i,j,r];rfl))⟩
def ON{P a:Nat}(b:N.types[P]? =some c0)(d:a<c0.length):N.BJ (P:Int) (a:Int)=c0[a]? :=by
 have e:=(Qv.1 b).1;have c:N.at (P:Int)=c0:=by
  unfold aW.at;rw[Zx (bF.2 ⟨oM,oM⟩),Qx,QQ,b];rfl
 unfold aW.BJ;rw[c,Zx (by simp only[QK,bF];exact⟨⟨oM,oM⟩,oM,oM⟩),Qx]
end
section
variable {w w' w0 w1 w2:World} {p:Nat} {F E D:XM} {c:cJ} {self:Int}
def JK{tn tc L pc:Nat}(h:bl w D N d tn t L)(hD:∀P,D P->P<w.heap.size):
  ZH 35 #[.agg #[.slice d tn tc,.slice t L pc]] w (Ok λc4 w'=>∃u yh a2 e v k G,c4= .agg #[.slice u yh a2,.slice e v k]/\bl w' G N u yh e v/\(∀P,G P->w.heap.size<=P/\P<w'.heap.size)/\ai w w'):=by
 have f5:=h.bk.len;have b8:=h.bk.ef;have f6:=h.A_.len;have f7:=h.A_.ef;refine vm (PA.mk λM k4 s4 g4=>PA.mk λw5 k5 s5 g5=>⟨_,_,_,ae (k5.get g4 id) rfl,?_⟩);have x:=k4.then k5;refine yl (aV.nil (c:=ud) (e:=128) w5) IX (h.A_.af x) (λP a=>⟨by have:=hD P a;omega,λb=>by cases b⟩) (by rw[ZQ];unfold aS at*;omega) (by rw[ZQ];unfold aS at*;unfold maxLen;omega) λe k f Fp d1 k8 j6 d2=>⟨_,_,_,rfl,PA.mk λj7 g0 j8 g1=>PS.mk g1 sM λj9 g2 k0 g3=>PS.mk g3 sM λr g6 k1 g7=>?_⟩
 rw[List.nil_append,Xz]at d1;have a9:=d1.alone;have b9:∀P,aI e=some P->w5.heap.size<=P/\P<f.heap.size:=λP a=>⟨(d2 P a).elim False.elim id,a9.aE P a⟩
 have z8:=k8.size;have y:ai w5 f:=k8.mono λP _ b=>by cases b
 have z:ai f r:=(g0.new g2 λP a=>.inr (by have a:P=f.heap.size:=a;omega)).new g6 λP a=>.inr (by have a:P=f.heap.size:=a;omega);have b0:ai w r:=(x.then y).then z;have gp:=z.get (y.get (k5.get g4 id) id) id;have gr:=z.get (y.get g5 id) id;have b1:r.heap[f.heap.size]? =some (.cells #[.slice none 0 0,.slice e (0+L) k] 25 (0,0)):=g7;rw[Xz]at b1;have k2:=z.size;refine⟨_,_,_,ae gp rfl,λA a3 w'=>∃i:Nat,a3=i/\i<=tn/\A=tn-i/\aj (·=f.heap.size) r w'/\∃O Q oc R,w'.heap[f.heap.size]? =some (.cells #[.slice O Q oc,.slice e L k] 25 (0,0))/\aV jX 130 R w' O Q oc (N.types.take i)/\∀P,R P->r.heap.size<=P,
  ⟨_,0,rfl,Qj _,rfl,aj.refl _,none,0,0,λ_=>False,b1,aV.nil _,λ_ h=>h.elim⟩,?_⟩
 rintro A _ _ S ⟨i,rfl,hj,rfl,s,O,Q,oc,R,T,m,B⟩;have U:ai w S:=b0.new s λP a=>.inr (by have a:P=f.heap.size:=a;have:=x.size;have:=y.size;omega);have zk:=s.size;have b2:=s.get gp λb=>by have b:w.heap.size=f.heap.size:=b;have:=k4.size;omega
 refine al.dec (λk3=>?_) (λk6=>?_)
 ·have g8:i<N.types.length:=oM
  have V:N.types[i]? =some N.types[i]:=Qq g8;generalize N.types[i]=n at V;obtain⟨P,d5,es,ha,a,k7,d6,fa,fn,fc,rfl,W⟩:=(h.bk.af U).el i n V;have c0:=d6 0 dC;have g9:jX.k=1:=rfl;rw[g9,Nat.mul_one]at c0;have h0:=W.len;have c2:=W.ef;refine⟨P,d5,ha,oM,oM,fa,fn,fc,by rw[Qx];exact c0,PA.mk λk9 h3 l0 h4=>PS.mk h4 sM λj h6 l3 h7=>PA.mk λl4 d3 l5 h8=>PS.mk h8 sM λC d4 l6 h9=>?_⟩;have p:ai S C:=((h3.new h6 λP a=>.inr (by have a:P=S.heap.size:=a;omega)).then d3).new d4 λP a=>.inr (by have a:P=j.heap.size:=a;omega);have d7:=d4.get (d3.get h7 id) oM;have e3:=p.get b2 id;have l7:=p.size;have e4:=U.then p;refine⟨_,_,_,ae d7 rfl,λA a3 w'=>∃g:Nat,a3=g/\g<=fn/\A=fn-g/\aj (·=j.heap.size) C w'/\∃E F X Y,w'.heap[j.heap.size]? =some (.cells #[.slice E F X] 130 (0,0))/\aV nY 123 Y w' E F X (n.take g)/\∀P,Y P->C.heap.size<=P,
   ⟨_,0,rfl,Qj _,rfl,aj.refl _,none,0,0,λ_=>False,h9,aV.nil _,λ_ h=>h.elim⟩,?_⟩
  rintro A _ _ d8 ⟨g,rfl,hk,rfl,q,E,F,X,Y,gx,o,H⟩;have zx:=q.size;have b3:ai w d8:=e4.new q λP a=>.inr (by have a:P=j.heap.size:=a;have:=U.size;omega);have b4:=q.get e3 λb=>by have b:w.heap.size=j.heap.size:=b;have:=aB b2;omega
  refine al.dec (λj4=>?_) (λj5=>?_)
  ·have d9:g<n.length:=oM
   have I:n[g]? =some n[g]:=Qq d9;have a4:=ON V d9;rw[I]at a4;obtain⟨fb,fo,e6,-,-,-,-,ya,yn,yc,rfl,-,b5⟩:=(W.af p).el g n[g] I;generalize n[g]=J at I a4 b5;refine⟨_,_,_,_,_,_,ae b4 rfl,ae b4 rfl,PC.ok (nC (h.af b3) λP a=>by have:=hD P a;have:=b3.size;omega) ?_⟩;rw[a4];rintro _ e0 ⟨e1,Z,a0,cc,Fm,rfl,c3,e2⟩;have e8:=c3.aE;have l8:=e1.size;refine cD (Hm J Z a0 cc) ⟨_,rfl,PA.mk λl9 i0 m0 i1=>aC (eX J Z a0 cc) i1 rfl λi2 i3 m1 a7=>?_⟩;have a5:ai e0 i2:=i0.new i3 λP a=>.inr (by have a:P=e0.heap.size:=a;omega);have b6:=e1.then a5;have e9:=b6.get gx id;refine⟨_,_,_,ae e9 rfl,_,_,_,_,_,_,ae a7 rfl,ae a7 rfl,ae a7 rfl,ae a7 rfl,PA.mk λi4 e5 m2 i5=>?_⟩;have a1:=b6.then e5;have f0:=(c3.af a5).af e5;have m3:=c3.len dC;have a8:Row fL 32 i4 Fm Z a0 J.bt:=f0.row dC (by
    obtain⟨_,_,_,_,_,_,_,_,_,_,hq,a8,_⟩:=(W.af p).el g J I;have h1:=a8.ef;have h2:=a8.len;rw[<-h2];exact h1)
   refine fk (c:=nY) (x:=J) (o.af a1) NM i5 (D:=Fm) ⟨Z,a0,cc,rfl,a8,b5⟩ (λP a=>⟨by have:=e8 P a;have:=a5.size;omega,λb=>by have:=o.aE P (o.self P b);have:=e2 P a;omega⟩) (by rw[Qy];unfold aS at*;omega) (by rw[Qy];unfold aS at c2;unfold maxLen;omega) λa' c' m4 K f1 c5 c6=>⟨_,_,_,rfl,?_⟩
   have i6:¬aI E=some j.heap.size:=λb=>by have:=H _ (o.self _ b);omega
   have m5:=a1.size;have m6:=c5.size;have c:∀P,K P->C.heap.size<=P:=λP a=>by
    rcases c6 P a with l|l|l
    ·exact H P l
    ·have:=e2 P l;omega
    ·omega
   refine PS.mk (c5.get (a1.get gx id) i6) sM λm7 e7 m8 i7=>⟨_,oM,g+1,an (by unfold aS at c2;omega),oM,rfl,((q.af a1).new c5 λP a=>.inr (H P (o.self P a))).then e7,a',F+1,c',K,i7,?_,c⟩
   rw[Qw,I];exact f1.keep e7 λP a b=>by have b:P=j.heap.size:=b;have:=c P a;omega
  ·rw[Qz oM]at o
   have i8:aj (·=j.heap.size) C d8:=q;have b7:=q.get (p.get T id) λb=>by have b:f.heap.size=j.heap.size:=b;have:=aB T;omega
   refine⟨_,_,_,ae b7 rfl,_,_,_,ae gx rfl,PA.mk λi9 c7 m9 j0=>?_⟩;have a6:ai S i9:=(p.new q λP a=>.inr (by have a:P=j.heap.size:=a;omega)).then c7;refine fk (c:=jX) (x:=n) (m.af a6) Kj j0 (D:=Y) ⟨E,F,X,rfl,(o.af c7).row dC (by rw[<-h0];exact c2)⟩ (λP a=>⟨by have:=o.aE P a;omega,λb=>by have:=m.aE P (m.self P b);have:=H P a;omega⟩) (by rw[Qy];unfold aS at*;omega) (by rw[Qy];unfold aS at b8;unfold maxLen;omega) λa' c' n0 K f2 c8 c6=>⟨_,_,_,rfl,?_⟩
   have j1:¬aI O=some f.heap.size:=λb=>by have:=B _ (m.self _ b);omega
   have n1:=a6.size;have n2:=c8.size;have c:∀P,K P->r.heap.size<=P:=λP a=>by
    rcases c6 P a with l|l|l
    ·exact B P l
    ·have:=H P l;omega
    ·omega
   refine PS.mk (c8.get (c7.get b7 id) j1) sM λn3 c1 n4 j2=>⟨_,oM,i+1,an (by unfold aS at b8;omega),oM,rfl,((s.af a6).new c8 λP a=>.inr (B P (m.self P a))).then c1,a',Q+1,c',K,j2,?_,c⟩
   rw[Qw,V];exact f2.keep c1 λP a b=>by have b:P=f.heap.size:=b;have:=c P a;omega
 ·rw[Qz oM]at m
  have z5:=y.size;have f4:=s.get gr λb=>by have b:M.heap.size=f.heap.size:=b;omega
  have f8:=((a9.af z).keep s λP a b=>by have b:P=f.heap.size:=b;have:=b9 P a;omega)
  refine⟨_,_,_,_,_,_,ae T rfl,ae T rfl,PS.mk f4 sM λn8 c9 n9 j3=>PS.mk j3 sM λo0 d0 o1 f3=>⟨_,_,_,_,_,_,ae f3 rfl,ae f3 rfl,Ok.mk ⟨_,_,_,_,_,_,λP=>R P\/aI e=some P,rfl,⟨?_,?_⟩,?_,?_⟩⟩⟩
  ·exact(((m.row (bytes:=24) dC (by rw[<-f5];exact b8)).keep (c9.then d0) λP a b=>by have b:P=M.heap.size:=b;have:=B P a;omega)).mono λP a=>.inl a
  ·exact(((f8.row (bytes:=40) dC (by rw[<-f6];exact f7)).keep (c9.then d0) λP a b=>by have b:P=M.heap.size:=b;have:=b9 P a;omega)).mono λP a=>.inr a
  ·rintro P (a|a)
   ·have:=B P a;have:=m.aE P a;have:=x.size;have:=b0.size;omega
   ·have:=b9 P a;have:=x.size;omega
  ·exact U.new (c9.then d0) λP a=>.inr (by have a:P=M.heap.size:=a;have:=k4.size;omega)
end
section
variable {w w':World} {D D' S:XM} {d:aW} {ta pa:XU} {tn tc pn pc:Nat}
def rG(P:br):Bool:=if P.kind==4 then !within P.bt.length 1 16 else decide (0<P.bt.length)
def AI(P:List br):Bool:=!within P.length 1 8||P.any rG
def HC{P:i->Bool}{b:List i}{c:i}(d:b[a]? =some c)(e:(b.take a).any P=false)(f:P c=false):(b.take (a+1)).any P=false:=by
 rw[Qw,d,List.any_append,e];simp[f]
def JW{b:i->Bool}{c:List i}{P:i}(d:c[a]? =some P)(e:b P=true):c.any b=true:=List.any_eq_true.2 ⟨P,QZ d,e⟩
def fz{f:Type}{g:f->Int}:∀{a:List f} {b:Nat} {c:f},a[b]? =some c->cG g (a.take b)=0->cG g (a.take (b+1))=g c
 |[],b,c,P,_=>by simp at P
 |y::a,0,c,P,_=>by simp at P;subst P;simp[cG];intro P;exact P.symm
 |y::a,b+1,c,P,d=>by
  simp only[Zw,cG]at d⊢;split at d
  ·rename_i e;simp at e;exact Zz d e
  ·rename_i e;rw[Zq e];exact fz (by simpa using P) d
def nH{b:Type}{a:b->Int}:∀{l:List b} {j:Nat},cG a (l.take j)≠0->cG a l=cG a (l.take j)
 |[],j,P=>by simp at P⊢
 |y::l,0,P=>by simp[cG]at P
 |y::l,j+1,P=>by
  simp only[Zw,cG]at P⊢;split
  ·rfl
  ·rename_i c;rw[Zq c]at P;exact nH P
def HD(c:bl w D d ta tn pa pn):ZH 67 #[.agg #[.slice ta tn tc,.slice pa pn pc]] w (Ok λe w'=>e= .bool (qb d)/\ai w w'):=by
 have r:=c.bk.len;have s:=c.bk.ef;have hp:=c.A_.len;unfold aS at s;refine Bm (PA.mk λY t s1 u=>⟨_,_,_,ae u rfl,PC.ok cm ?_⟩);rintro _ _ ⟨rfl,rfl⟩;refine⟨_,rfl,al.not (al.mk (λh=>⟨_,_,_,ae u rfl,al.dec (λZ=>Ok.mk ⟨?_,t⟩) (λZ=>⟨_,_,_,ae u rfl,λj k w'=>∃a:Nat,k=a/\a<=tn/\j=tn-a/\(d.types.take a).any AI=false/\ai Y w',⟨_,0,rfl,Qj _,rfl,sM,aj.refl _⟩,?_⟩)⟩) (λh=>Ok.mk ⟨?_,t⟩))⟩
 ·unfold qb;rw[<-r,h,Zx bc]
 rotate_left
 ·unfold qb;rw[<-r,h];rfl
 have v:qb d=d.types.any AI:=by unfold qb AI rG;rw[<-r,h,Zq bc]
 rintro j k _ w2 ⟨a,rfl,hj,rfl,x,K⟩;have l:=t.then K;refine al.dec (λa8=>?_) (λa9=>?_)
 rotate_left
 ·rw[Qz oM]at x
  exact Ok.mk ⟨by rw[v,x],l⟩
 obtain⟨y,z,A,es,rfl,_,_,B,f,a2,g,c1,rfl,C⟩:=((c.af l).bk).BR (i:=a) oM;have L:=C.len;have a0:=C.ef;unfold aS at a0;have M:=f 0 dC;simp only[jX,Nat.mul_one,Nat.add_zero]at M;refine⟨y,z,rfl,oM,oM,_,_,_,M,PA.mk λw3 k3 s3 g3=>PS.mk g3 sM λm k4 s4 N=>⟨_,_,_,ae N rfl,PC.ok cm ?_⟩⟩;rintro _ _ ⟨rfl,rfl⟩;have n:ai w2 m:=k3.new k4 λy s=>.inr oM;have E:AI A=true->Ok (λe w'=>e= .bool (qb d)/\ai w w') (.returned (.bool true)) m:=λP=>Ok.mk ⟨by rw[v,JW B P],l.then n⟩;refine⟨_,rfl,al.not (al.mk (λF=>⟨_,_,_,ae N rfl,λj k w'=>∃i:Nat,k=i/\i<=g/\j=g-i/\(A.take i).any rG=false/\ai m w',⟨_,0,rfl,Qj _,rfl,sM,aj.refl _⟩,?_⟩) (λF=>E (by unfold AI;rw[<-L,F];rfl)))⟩;rintro m' t' _ w5 ⟨i,rfl,hi,rfl,H,o⟩;have a3:=(l.then n).then o;refine al.dec (λa6=>?_) (λa7=>?_)
 rotate_left
 ·rw[Qz oM]at H
  exact⟨_,oM,a+1,an oM,oM,rfl,HC B x (by unfold AI;rw[<-L,F,H];rfl),(K.then n).then o⟩
 obtain⟨b2,a1,p,b0,rfl,_,_,O,a4,Q,R,S,rfl,T,b1,b3⟩:=((C.af n).af o).BR (i:=i) oM;have U:=T.len;have a5:=T.ef;unfold aS at a5;refine⟨b2,a1,rfl,oM,oM,bW (eX p Q R S) rfl a4 (PA.mk λw6 k6 s6 g6=>aC (eX p Q R S) g6 rfl λI k7 s7 J=>⟨_,ae J rfl,?_⟩)⟩;have V:ai w5 I:=k6.new k7 λy s=>.inr oM;have W:rG p=true->Ok (λe w'=>e= .bool (qb d)/\ai w w') (.returned (.bool true)) I:=λP=>Ok.mk ⟨by rw[v,JW B (by unfold AI;rw[JW O P];simp)],a3.then V⟩;have next:rG p=false->∃X,X<g-i/\∃q:Nat,IntKind.wrap .i64 ((i:Int)+1)=q/\q<=g/\X=g-q/\(A.take q).any rG=false/\ai m I:=λP=>
  ⟨_,oM,i+1,an oM,oM,rfl,HC O H P,o.then V⟩
 refine al.dU (λb=>⟨_,_,_,ae J rfl,PC.ok cm ?_⟩) (λb=>al.not (al.dU (λf=>Zz f b) (λ_=>⟨_,_,_,ae J rfl,al.dec (λc=>W ?_) (λc=>next ?_)⟩)))
 ·rintro _ _ ⟨rfl,rfl⟩
  refine⟨_,rfl,al.not (al.mk (λP=>al.not (al.dU (λ_=>next ?_) (λf=>Zz b f))) (λP=>W ?_))⟩
  ·unfold rG;rw[b,<-U,P];rfl
  ·unfold rG;rw[b,<-U,P];rfl
 ·unfold rG;rw[Zq (by simpa using b)];simp only[Zk];omega
 ·unfold rG;rw[Zq (by simpa using b)];simp only[decide_eq_false_iff_not];omega
def EA(hT:eP w)(g:bl w D d ta tn pa pn)(hD:∀a,D a->a<w.heap.size):
  ZH 32 #[.agg #[.slice ta tn tc,.slice pa pn pc]] w (Ok λB w'=>B= QH (dt d)/\ai w w'):=by
 have hl:=g.bk.len;have f:=g.bk.ef;have b1:=g.A_.len;have a6:=g.A_.ef;unfold aS at f a6;refine yW (PA.mk λw1 U s1 C=>⟨_,_,_,_,_,_,ae C rfl,ae C rfl,PC.ok (HD (g.af U)) ?_⟩);rintro _ w2 ⟨rfl,V⟩;have W:=U.then V;have X:=V.get C id;refine⟨_,rfl,al.mk (λt=>Ok.mk ⟨by unfold dt;rw[t];rfl,W⟩) (λt=>⟨_,_,_,ae X rfl,λk b w'=>∃P:Nat,b=P/\P<=tn/\k=tn-P/\cG (λb=>cG (fj b) b) (d.types.take P)=0/\ai w2 w',⟨_,0,rfl,Qj _,rfl,rfl,aj.refl _⟩,?_⟩)⟩;rintro k b _ Y ⟨P,rfl,hj,rfl,u,E⟩;have v:=W.then E;have Z:=E.get X id;have F:∀{w':World},ai w w'->∀P c,d.types[P]? =some c->cG (λb=>cG (fj b) b) (d.types.take P)=0->∀x:Int,cG (fj c) c=x->x≠0->Ok (λB w'=>B= QH (dt d)/\ai w w') (.returned (QH x)) w':=by
  intro w' a2 P c y h0 x hr j;have l:=fz y h0;rw[hr]at l;have h2:=nH (l:=d.types) (j:=P+1) (by rw[l];exact j);refine Ok.mk ⟨?_,a2⟩;unfold dt;rw[t,h2,l];simp[j]
 refine al.dec (λb2=>?_) (λb3=>⟨_,_,_,ae Z rfl,λk b w'=>∃i:Nat,b=i/\i<=pn/\k=pn-i/\cG (ll d) (d.projs.take i)=0/\ai Y w',⟨_,0,rfl,Qj _,rfl,rfl,aj.refl _⟩,?_⟩)
 ·obtain⟨a,H,I,es,rfl,_,_,y,hc,b4,n1,c1,rfl,z⟩:=((g.af v).bk).BR (i:=P) oM
  have b5:=z.len;have a7:=z.ef;unfold aS at a7;have a0:=hc 0 dC;simp only[jX,Nat.mul_one,Nat.add_zero]at a0;refine⟨a,H,rfl,oM,oM,_,_,_,a0,PA.mk λw4 o s4 g4=>PS.mk g4 sM λJ K s5 A=>⟨_,_,_,ae A rfl,λk b w'=>∃i:Nat,b=i/\i<=n1/\k=n1-i/\cG (fj I) (I.take i)=0/\ai J w',⟨_,0,rfl,Qj _,rfl,rfl,aj.refl _⟩,?_⟩⟩;have a8:ai Y J:=o.new K λa f=>.inr oM;rintro m' t' _ L ⟨i,rfl,hi,rfl,e,m⟩;have p:=a8.then m;refine al.dec (λa3=>?_) (λa9=>?_)
  ·obtain⟨M,N,c,b0,rfl,_,_,n,O,Q,R,S,rfl,hM,b6,b7⟩:=(z.af p).BR (i:=i) oM
   refine⟨M,N,rfl,oM,oM,bW (eX c Q R S) rfl O (PA.mk λw7 h s7 g7=>aC (eX c Q R S) g7 rfl λw8 q s8 g8=>⟨_,_,_,ae (q.get (h.get (m.get A id) id) (by have:=m.size;omega)) rfl,ay (eX c Q R S) g8 (PC.ok (EG (hT.af ?_) (z.af ?_) (hM.af ?_)) ?_)⟩)⟩
   ·exact(v.then p).then (h.new q λa f=>.inr oM)
   ·exact p.then (h.new q λa f=>.inr oM)
   ·exact h.new q λa f=>.inr oM
   ·rintro _ w9 ⟨rfl,k9⟩
    have a4:ai L w9:=aj.then (h.new q λa f=>.inr oM) k9;refine⟨_,rfl,al.dQ (λj=>?_) (λT=>⟨_,oM,i+1,an oM,oM,rfl,by rw[fz n e];exact T,m.then a4⟩)⟩;have l:=fz n e;exact F ((v.then p).then a4) P I y u _ (by rw[nH (j:=i+1) (by rw[l];exact j),l]) j
  ·rw[Qz oM]at e
   refine⟨_,oM,P+1,an oM,oM,rfl,by rw[fz y u];exact e,E.then p⟩
 ·rw[Qz oM]at u
  rintro m' t' _ w4 ⟨i,rfl,hi,rfl,e,o⟩;have r:=v.then o;have a1:dt d=cG (ll d) d.projs:=by unfold dt;rw[t,u];simp
  refine al.dec (λa3=>?_) (λa9=>?_)
  ·obtain⟨M,N,c,b0,rfl,_,_,n,O,rfl,_⟩:=((g.af r).A_).BR (i:=i) oM
   refine⟨M,N,rfl,oM,oM,bW (oH c) rfl O (PA.mk λJ K s5 A=>aC (oH c) A rfl λL m s6 g6=>?_)⟩;have s:ai w4 L:=K.new m λa f=>.inr oM;have a5:=s.get (o.get Z id) id;refine⟨_,_,_,_,_,_,ae a5 rfl,ae a5 rfl,ay (oH c) g6 (PC.ok (EH (g.af (r.then s)) λa f=>by have:=hD a f;have:=(r.then s).size;omega) ?_)⟩;rintro _ w7 ⟨rfl,h⟩;refine⟨_,rfl,al.dQ (λj=>Ok.mk ⟨?_,(r.then s).then h⟩) (λT=>⟨_,oM,i+1,an oM,oM,rfl,by rw[fz n e];exact T,(o.then s).then h⟩)⟩;rw[a1,nH (j:=i+1) (by rw[fz n e];exact j),fz n e]
  ·rw[Qz oM]at e
   exact Ok.mk ⟨by rw[a1,e],r⟩
end
def cf(P:cJ)(a:Int):Int×bM:=
 if dt P.decl≠0 then(dt P.decl,(z_ P).2)else if jH P a=false then(1,(z_ P).2)else z_ P
def JL(b:World)(a:cJ)(P:Int)(c:Value)(d:World):Prop:=ai b d/\
 (((cf a P).1≠0/\c= .tuple #[.pointer none,QH (cf a P).1])\/
  ((cf a P).1=0/\∃e f,c= .tuple #[XP e,QH 0]/\bP d e f a P (cf a P).2/\(∀g,f g->b.heap.size<=g)/\(cf a P).2.S.l.length<=16777216))
section
variable {w w' w0 w1 w2:World} {p:Nat} {F E D:XM} {c:cJ} {self:Int}
def Ez(hT:eP w0)(hL:Laid w0)(A:ai w0 w){tn Q B R:Nat}(hd:bl w D c.decl d tn t B)(hD:∀P,D P->P<w.heap.size)(hs:aN c.bh)(d3:aN c.every)(d4:aN c.start):
  ZH 11 #[nk c d tn Q t B R,QH self] w (Ok (JL w c self)):=by
 refine Bi (PA.mk λf3 C f5 E=>⟨_,_,_,_,_,_,ae E rfl,ae E rfl,PC.ok (EA (hT.af (A.then C)) (hd.af C) λP a=>by have:=hD P a;omega) ?_⟩);rintro _ d5 ⟨rfl,b8⟩;have a3:=C.then b8;have b9:d5.heap[w.heap.size]? =some (.cells (il c d tn Q t B R).toArray 29 (0,0)):=b8.get E id;refine⟨_,rfl,al.dQ (λl=>Ok.mk ⟨a3,.inl ?_⟩) (λS=>ay (wG c d tn Q t B R) b9 (PC.ok MD ?_))⟩
 ·have:cf c self=(dt c.decl,(z_ c).2):=by unfold cf;rw[Zx l]
  rw[this];exact⟨l,rfl⟩
 rintro _ T ⟨rfl,c0⟩;have F:=a3.then c0;have U:=c0.get b9 id;refine⟨_,rfl,al.not (al.mk (λm=>?_) (λm=>Ok.mk ⟨F,.inl ?_⟩))⟩
 rotate_left
 ·have:cf c self=(1,(z_ c).2):=by unfold cf;rw[Zq (by simpa using S),Zx m]
  rw[this];exact⟨show(1:Int)≠0 by decide,rfl⟩
 have a4:cf c self=z_ c:=by unfold cf;rw[Zq (by simpa using S),Zq (by rw[m];simp)]
 have c1:mz c self:=⟨m,S,hs,d3,d4⟩
 have c2:=m;unfold jH within at c2;simp only[QK,Zk]at c2;refine⟨_,ae U rfl,PC.ok (rL (A.then F) oM oM) ?_⟩;rintro _ c3 ⟨dp,rfl,d6,V⟩;obtain⟨Fd,c4,-,d7,-⟩:=d6;have H:∀P,Fd P->T.heap.size<=P/\P<c3.heap.size:=λP a=>⟨Nat.le_of_not_lt (d7 P a).2,c4.aE P a⟩
 have W:=F.then V;have X:=V.get U id;refine⟨_,_,rfl,al.dQ (λl=>Zz rfl l) (λ_=>⟨_,_,_,_,_,_,ae X rfl,ae X rfl,PC.ok (JK (hd.af W) λP a=>by have:=hD P a;have:=W.size;omega) ?_⟩)⟩;rintro _ c5 ⟨n,yh,o,p,q,r,I,rfl,d8,J,K⟩;have c6:=W.then K;have d9:=K.get X id;have f6:=C.size;have f7:=F.size;have g1:=V.size;have g2:=K.size;have g3:=aB E;have e8:w.heap.size<T.heap.size:=aB U;refine⟨_,_,_,_,_,_,rfl,PS.mk d9 (by simp[il]) λg4 e0 g5 e1=>PS.mk e1 (by simp[il]) λY e2 g6 e3=>λs c7=>?_⟩;have Z:aj (λP=>P=w.heap.size) c5 Y:=e0.then e2;have L:ai Y s:=c7.keep;have g7:s.heap.size=Y.heap.size:=by rw[c7.heap]
 have e:s.heap[w.heap.size]? =some (.cells (il c n yh o p q r).toArray 29 (0,0)):=L.get e3 id;have c8:ai w s:=(c6.new Z λP a=>.inr (by have a:P=w.heap.size:=a;omega)).then L;have h:∀{P:Nat},T.heap.size<=P->P≠w.heap.size:=λ{P} a=>by omega
 refine⟨λ_=>False,id,_,_,_,_,_,_,_,_,_,_,_,_,_,_,ae e rfl,ae e rfl,ae e rfl,ae e rfl,ae e rfl,ae e rfl,ae e rfl,ae e rfl,ae e rfl,ae e rfl,_,ae e rfl,id,_,ae e rfl,PC.ok (HY oM) ?_⟩;rintro _ e4 ⟨i,rfl,c9,e9,f2,b4⟩;refine⟨_,rfl,b4,PC.ok Hn ?_⟩;rintro _ g ⟨tp,M,rfl,a5,N,d0⟩;have g8:=b4.size;have g9:=N.size;have d1:=a5.aE;refine⟨_,rfl,N,PA.mk λb5 O h2 e5=>⟨O,?_⟩⟩
 let f:jG:=⟨n,yh,o,p,q,r,dp,none,0,0,i,tp⟩
 let a2:bM:=⟨⟨c.bT.toNat,[]⟩,gg c.sO.toNat,none,[],⟨c.cZ,[],[]⟩⟩
 have d2:b5.heap[g.heap.size]? =some (.cells (wg f c self none none none) 99 (0,0)):=e5;have a0:ai s b5:=(b4.then N).then O;have a1:=c8.then a0;have b6:∃u,bH b5 (λP=>∃k,(match k with|0=>P=g.heap.size|1=>I P|2=>Fd P|5=>P=i|6=>M P|_=>False:Prop)) u (recC g.heap.size (wg f c self none none none) f c a2 false):=by
  refine bH.join (G:=λk P=>match k with|0=>P=g.heap.size|1=>I P|2=>Fd P|5=>P=i|6=>M P|_=>False) (λk=>?_) (λj a9 P b hj=>?_) λk P a=>?_
  ·match k with
   |0=>exact⟨rfl,d2⟩
   |1=>exact(((d8.keep Z λP a v=>h (by have:=J P a;omega) v).af L).af a0)
   |2=>exact⟨Fd,((((c4.keep K λ_ _ f=>f).keep Z λP a v=>h (H P a).1 v).keep L λ_ _ f=>f).keep a0 λ_ _ f=>f),λP a=>a,rfl⟩
   |3=>intro v;cases v
   |4=>trivial
   |5=>exact⟨_,_,c9.af (N.then O),λ_ f=>f,λP a=>a.elim⟩
   |6=>exact a5.af O
   |k+7=>trivial
  ·have x:∀j:Nat,(match j with|0=>P=g.heap.size|1=>I P|2=>Fd P|5=>P=i|6=>M P|_=>False:Prop)->j=(if P<c3.heap.size then 2 else if P<c5.heap.size then 1 else if P<e4.heap.size then 5 else if P<g.heap.size then 6 else 0):=λj b=>by
    rcases j with _|_|_|_|_|_|_|j
    ·have b:P=g.heap.size:=b
     rw[Zq oM,Zq oM,Zq oM,Zq oM]
    ·have:=J P b;rw[Zq oM,Zx oM]
    ·have:=H P b;rw[Zx oM]
    ·exact b.elim
    ·exact b.elim
    ·have b:P=i:=b
     rw[Zq oM,Zq oM,Zx oM]
    ·have h5:=d0 P b;have h6:=d1 P b;rw[Zq oM,Zq oM,Zq oM,Zx oM]
    ·exact b.elim
   rw[x j b,<-x a9 hj]
  ·rcases k with _|_|_|_|_|_|_|k
   ·have a:P=g.heap.size:=a
    omega
   ·have:=J P a;omega
   ·have:=H P a;omega
   ·exact a.elim
   ·exact a.elim
   ·have a:P=i:=a
    omega
   ·have:=d1 P a;omega
   ·exact a.elim
 obtain⟨u,hp⟩:=b6;have b7:∀P,(∃k,(match k with|0=>P=g.heap.size|1=>I P|2=>Fd P|5=>P=i|6=>M P|_=>False:Prop))->w.heap.size<=P:=λP ⟨k,a⟩=>by
  rcases k with _|_|_|_|_|_|_|k
  ·have a:P=g.heap.size:=a
   omega
  ·have:=J P a;omega
  ·have:=H P a;omega
  ·exact a.elim
  ·exact a.elim
  ·have a:P=i:=a
   omega
  ·have:=d0 P a;omega
  ·exact a.elim
 refine PC.ok (wY (h:=f) (z1:=none) (z2:=none) (z3:=none) hp c1 ⟨hT,hL,A.then a1,λP a=>by have:=b7 P a;have:=A.size;omega⟩) ?_;rintro _ e6 ⟨rfl,a6,h',F',y,z,a7⟩;have e7:e_ c a2=z_ c:=rfl;rw[e7]at z a6⊢;have a8:ai w e6:=a1.new a7.keep λP a=>.inr (b7 P a);refine⟨_,rfl,al.dQ (λl=>Ok.mk ⟨a8,.inl ?_⟩) (λhz=>Ok.mk ⟨a8,.inr ?_⟩)⟩
 ·rw[a4];exact⟨l,rfl⟩
 ·rw[a4]
  exact⟨hz,_,F',rfl,⟨c1,h',y,z⟩,λP a=>(a7.new P a).elim (b7 P) λh5=>by have:=a1.size;omega,a6⟩
end
def JM(P:World):(callMethod (.iface 97 (XP a)) "State" #[QH e,QH u]).run XG P= .ok (.enter 391 #[XP a,QH e,QH u]) P:=kR
def EB(P:aW)(a:List ah)(b c:Int):BD:=match(cN P a).state b c with
 |none=>wZ 14
 |some d=>⟨0,(0,0),d,[],[],false⟩
section
variable {w w' w0 w1 w2:World} {p:Nat} {F E D:XM} {cls:Nat->Nat} {h:jG} {c:cJ} {self:Int} {X:bM}
def OO(P:cU w F cls p h c self X):ZH 66 #[XP p] w (Ok λa w'=>a= .iface 97 (XP h.bp)/\w=w'):=
 mW ⟨p,0,rfl,_,ae P.bD rfl,Ok.mk ⟨rfl,rfl⟩⟩
def KT(x:bP w p F c self X):ZH 30 #[XP p,QH e,QH u] w (Ok λy w'=>AB w (EB c.decl X.S.l e u) y w'/\ai w w'):=by
 obtain⟨z,h,cls,n⟩:=x;refine oe (PA.mk λA d S B=>PC.ok (OO (cU.af n d)) ?_);rintro _ _ ⟨rfl,rfl⟩;have C:=cU.af n d;have P:dZ A h.bp (λa=>F a/\cls a=4) c.decl c.every.toNat X.S.l:=C.at' 4;refine⟨_,rfl,_,_,JM,PC.ok (HX P) ?_⟩;rintro _ o ⟨i,j,k,G,rfl,l,q,f⟩;have E:=l.aE;have T:=f.size;refine⟨_,_,_,_,_,rfl,PA.mk λU H V I=>PS.mk I sM λW J Y K=>PS.mk K sM λL M Z m=>?_⟩;have b:ai o L:=H.new (J.then M) λa P=>.inr (by have P:a=o.heap.size:=P;omega);have r:=b.get (f.get B id) id;have b0:=b.size;have s:(((cN c.decl X.S.l).state e u).getD ER).cells.length<=8:=BU (Fq z.decl X.S.l).1 ⟨0,0,0,[],e,u,0,0,0,0⟩;unfold EB
 cases N:(cN c.decl X.S.l).state e u with
 |none=>
  refine al.tt rfl (aC (uN (wZ 14) none 0 0 none 0 0 none 0 0) r rfl λb1 O b2 Q=>ay (uN (wZ 14) none 0 0 none 0 0 none 0 0) Q (Ok.mk ⟨AB.plain rfl rfl rfl,?_⟩));exact((d.then f).then b).new O λa P=>.inr (by have P:a=w.heap.size:=P;omega)
 |some g=>
  rw[N]at l s m;refine al.ff rfl ⟨_,_,_,_,ae m rfl,ae m rfl,aC (uN ⟨0,(0,0),g,[],[],false⟩ i j k none 0 0 none 0 0) r rfl λb3 t b4 R=>ay (uN ⟨0,(0,0),g,[],[],false⟩ i j k none 0 0 none 0 0) R (Ok.mk ⟨?_,?_⟩)⟩
  ·refine⟨i,j,k,none,0,0,none,0,0,G,rfl,((l.af b).keep t λa P v=>by have v:a=w.heap.size:=v;have:=q a P;omega).row dC (by have:g.cells.length<=8:=s;show g.cells.length*32<=aS;unfold aS;omega),fp _ _,fp _ _,λa P=>⟨by have:=q a P;omega,by have:=E a P;omega⟩⟩
  ·exact((d.then f).then b).new t λa P=>.inr (by have P:a=w.heap.size:=P;omega)
end
def Sw:(do eqGuard .neq 39 V X (.agg #[QH e,QH u]) (.agg #[QH Y,QH c5]);binOp .neq 39 (.agg #[QH e,QH u]) (.agg #[QH Y,QH c5]):Sem Value).run XG b= .ok (.bool (!(e==Y&&u==c5))) b:=by
 have P:=HS (x:=V) (y:=X) (a:=e) (b:=u) (c:=Y) (d:=c5) (w:=b);rw[Sem.run_bind,run_eqGuard_agg b .eql _ V X _ _ kR,Result.andThen_ok,run_eql_struct]at P;rw[Sem.run_bind,run_eqGuard_agg b .neq _ V X _ _ kR,Result.andThen_ok,run_neq_struct];generalize(Op.equalIn 10000 39 (.agg #[QH e,QH u]) (.agg #[QH Y,QH c5])).run XG b=a at P⊢
 cases a with
 |ok c d=>simp only[Result.andThen_ok,Result.ok.injEq,Value.bool.injEq]at P⊢;obtain⟨rfl,rfl⟩:=P;exact⟨rfl,rfl⟩
 |_=>simp[Result.andThen]at P

import Derived.Test.YtkpomgifkloklacGreatDoorKg16
set_option maxHeartbeats 4000000
set_option linter.all false
set_option maxRecDepth 20000
namespace Go.Proofs.YtkpomgifkloklacGreatDoor
open Go.aw
section
variable {w w':World} {D Fs Fv:XN} {s v:Nat} {S:ar} {V:aY} {d:aM} {c:iu} {origin start:Int}
def uv(w:World)(P:aj×Bool×Int)(d:Value)(w':World):Prop:=∃b c e G,d= .tuple #[jk P.1 b c e,.bool P.2.1,XH P.2.2]/\Row aQ 8 w' G b c P.1.aN/\(∀a,G a->w.heap.size<=a/\a<w'.heap.size)/\ai w w'
def jD(d:aM)(s:ar)(v:aY)(origin start:Int)(c:iu):jV d s v origin start c=if eJ d c≠0 then(qz,false,eJ d c)else
  match s.keyed c.key with
  |some P=>(P,false,0)
  |none=>if¬(c.expect= -1\/c.expect=((v.state c.aW c.agg).getD ⟨0,[]⟩).version)then(qz,false,11)else
   if uP (d.at c.aW) (match v.state c.aW c.agg with|some a=>a.cells|none=>c_ (d.at c.aW)) c.field c.op c.arg≠0 then(qz,false,10)else
   ((aS c origin s.vec (max s.top start)).2,decide ((aS c origin s.vec (max s.top start)).1=0),(aS c origin s.vec (max s.top start)).1):=rfl
def Bh{ta pa:ZH}{tn tc pn pc:Nat}(hT:eu w)(hd:aZ w D d ta tn pa pn)(hD:∀P,D P->P<w.heap.size)(j4:cJ d=0)(hs:cC w s Fs S)(j5:S.l.length<=20000000)(hv:cw w v Fv V)(j6:V.decl=d)(o9:start<=9223372036854775807)(o6:S.top<=9223372036854775807):
  ZG 33 #[.agg #[.slice ta tn tc,.slice pa pn pc],XL s,XL v,XH origin,XH start,rG c] w (Ok (uv w (jV d S V origin start c))):=by
 refine wP (PA.mk λw1 k1 s1 g1=>PA.mk λw2 k2 s2 g2=>PA.mk λw3 k3 s3 g3=>?_);have q:=(k1.then k2).then k3;have gd:=k3.get (k2.get g1 id) id;have gc:=k3.get g2 id;have y:∀{z:World} {no:Int},ai w3 z->jV d S V origin start c=(qz,false,no)->vQ XP 59 (XL w2.heap.size) (jk qz none 0 0) z λt=>nE XP 59 (XL w2.heap.size) t λr=>Ok (uv w (jV d S V origin start c)) (.returned (.tuple #[r,.bool false,XH no])) t:=λ{z no} h4 R=>
  aB (aX qz none 0 0) (h4.get g3 id) rfl λt k5 s5 g5=>au (aX qz none 0 0) g5 (Ok.mk ⟨none,0,0,λ_=>False,by rw[R],by rw[R];exact Row.nil _ _,λP a=>a.elim,(q.then h4).new k5 λP a=>.inr oM⟩)
 refine⟨_,_,_,_,_,_,ae gd rfl,ae gd rfl,au (yh c) gc (PC.ok (AA (hT.ah q) (hd.ah q) λP a=>by have:=hD P a;omega) ?_)⟩;rintro _ z ⟨rfl,T⟩;refine⟨_,rfl,an.dX (λU=>y T (by rw[jD,Zx U])) (λe5=>⟨_,ae (T.get gc id) rfl,PC.ok (LN (hs.ah (q.then T)) j5) ?_⟩)⟩;rintro _ t ⟨W,X,Y,G5,rfl,e6,e7,k5⟩;have b6:=T.then k5;have p0:=b6.size;have A:∀{r:aj×Bool×Int},(match S.keyed c.key with
  |some l=>(l,false,0)
  |none=>if¬(c.expect= -1\/c.expect=((V.state c.aW c.agg).getD ⟨0,[]⟩).version)then(qz,false,11)else
   if uP (d.at c.aW) (match V.state c.aW c.agg with|some B=>B.cells|none=>c_ (d.at c.aW)) c.field c.op c.arg≠0 then(qz,false,10)else
   ((aS c origin S.vec (max S.top start)).2,decide ((aS c origin S.vec (max S.top start)).1=0),(aS c origin S.vec (max S.top start)).1))=r->jV d S V origin start c=r:=λ{r} hr=>by
  rw[jD,Zq (by simpa using e5)];exact hr
 refine bS (qy _ W X Y) ⟨_,rfl,PA.mk λw6 k6 s6 g6=>aB (aX _ W X Y) g6 rfl λm k7 s7 g7=>an.mk (λhk=>?_) (λhk=>?_)⟩
 ·obtain⟨l,R⟩:=Option.isSome_iff_exists.1 hk
  rw[R]at e6 g7 A;have b2:ai t m:=k6.new k7 λP a=>.inr oM;refine au (aX _ W X Y) g7 (aB (aX _ W X Y) (b2.get (b6.get g3 id) id) rfl λw8 k8 s8 g8=>au (aX _ W X Y) g8 (Ok.mk ⟨W,X,Y,G5,?_,?_,λP a=>?_,?_⟩))
  ·rw[A rfl];rfl
  ·rw[A rfl]
   exact(e6.ah b2).af k8 λP a l=>by have:=e7 P a;have:=q.size;have:=T.size;omega
  ·have:=e7 P a;have:=q.size;have:=T.size;omega
  ·exact((q.then b6).then b2).new k8 λP a=>.inr oM
 have d2:S.keyed c.key=none:=by simpa using hk
 rw[d2]at A;have b2:ai t m:=k6.new k7 λP a=>.inr oM;have L:=b6.then b2;have p1:=L.size;have b7:=q.then L;have e8:iQ d c.aW c.field c.op c.arg=0:=by
  have:=e5;unfold eJ at this;split at this
  ·simp at this
  ·exact this
 have j7:V.decl.at c.aW=d.at c.aW:=by rw[j6]
 obtain⟨hV,b0,hq⟩:=hv;have a6:(match V.state c.aW c.agg with|some B=>B.cells|none=>c_ (d.at c.aW)).length=(d.at c.aW).length:=by
  unfold aY.state
  cases hs:ax V.ef (c.aW,c.agg)with
  |none=>simp[c_]
  |some s=>rw[<-j7];exact hV.st _ (bV hs)
 obtain⟨c4,t0,t1,p2⟩:=Du j4 e8 a6;obtain⟨C,e9⟩:∃C:Nat,c.aW=C:=⟨c.aW.toNat,oM⟩
 have j8:d.at c.aW=d.types.getD C []:=by
  unfold aM.at;rw[Zx (bu.2 ⟨t0,oM⟩),e9,Qx]
 obtain⟨tb,lf,es,j9,p3,o7,k0,fa,fn,fc,rfl,b3⟩:=(hd.ah b7).aW.el C d.types[C] sM;have b3:Row nV 48 m D fa fn (d.at c.aW):=by
  rw[j8];have:d.types.getD C []=d.types[C]:=by simp[QQ,show C<d.types.length by omega]
  rw[this];exact b3
 have p4:=(hd.ah b7).aW.len;have c7:=k0 0 dC;have f2:jG.k=1:=rfl;rw[f2,Nat.mul_one]at c7;have l0:=L.get gd id;have g0:=L.get gc id;refine⟨_,_,_,ae l0 rfl,_,ae g0 rfl,tb,lf,j9,t0,oM,fa,fn,fc,by rw[e9,Qx];exact c7,PA.mk λw8 k8 s8 g8=>PS.mk g8 sM λw9 k9 s9 g9=>?_⟩;have Z:ai m w9:=k8.new k9 λP a=>.inr oM;have d3:=Z.get g0 id;have d4:cw w v Fv V:=⟨hV,b0,hq⟩
 refine⟨_,ae d3 rfl,_,ae d3 rfl,PC.ok (mE (d4.ah (b7.then Z))) ?_⟩;rintro _ d5 ⟨ca,cn,cc,l3,rfl,g4,o8,M⟩;have b4:=Z.then M;have h3:=b7.then b4;have p5:=b4.size;obtain⟨E,hX⟩:∃E,E=(match V.state c.aW c.agg with|some B=>B.cells|none=>c_ (d.at c.aW)):=⟨_,rfl⟩
 rw[<-hX]at c4 a6 A;refine⟨_,_,_,_,_,rfl,PA.mk λp6 l4 p7 l5=>PS.mk l5 sM λp8 l6 p9 l7=>PS.mk l7 sM λh5 l8 q0 h8=>?_⟩;have a5:ai d5 h5:=(l4.new l6 λP a=>.inr oM).new l8 λP a=>.inr oM;have l9:h5.heap[m.heap.size]? =some (.cells #[.slice fa fn fc] 111 (0,0)):=a5.get (M.get g9 id) id;have c8:=g4.ah a5;refine⟨λw'=>ai d5 w'/\∃ca cn cc G,w'.heap[d5.heap.size]? =some (.cells #[XH ((V.state c.aW c.agg).getD En).version,.slice ca cn cc] 42 (0,0))/\Row eT 32 w' G ca cn E,?_,?_⟩
 ·refine an.not (an.mk (λm0=>⟨a5,ca,cn,cc,l3,h8,?_⟩) (λm1=>⟨_,_,_,ae l9 rfl,PC.ok (EP (t:=d.at c.aW) rfl b3.len (by rw[b3.len];omega)) ?_⟩))
  ·obtain⟨B,hx⟩:=Option.isSome_iff_exists.1 m0
   rw[hx]at c8 hX;have b8:E=B.cells:=hX;rw[b8];exact c8.row dC (by show B.cells.length*32<=aT;rw[<-b8,a6];unfold aT;omega)
  ·rintro _ q1 ⟨b1,n6,c6,G6,rfl,m2,d6,m3⟩
   have q2:=d6.size;refine⟨_,_,_,rfl,PS.mk (d6.get h8 id) sM λq3 h9 q4 m4=>⟨(a5.then d6).new h9 λP a=>.inr oM,b1,n6,c6,G6,m4,?_⟩⟩;have hn:V.state c.aW c.agg=none:=by simpa using m1
   rw[hn]at hX;have b8:E=c_ (d.at c.aW):=hX;rw[b8];exact(m2.af h9 λP a l=>by have:=m3 P a;omega).row dC (by unfold aT c_;simp;omega)
 rintro _ m5 ⟨m6,q5,q6,q7,G2,i0,i1⟩;refine PA.mk λi2 d7 q8 m7=>?_;have F:=m6.then d7;have m8:=F.size;have c9:=h3.then F;have i3:=d7.get i0 id;have i4:=F.get (M.get d3 id) id;have i5:=F.get (M.get g9 id) id;have i6:=(((L.then Z).then M).then F).get g3 id;have n:∀{z:World} {no:Int},ai i2 z->jV d S V origin start c=(qz,false,no)->vQ XP 59 (XL w2.heap.size) (jk qz none 0 0) z λt=>nE XP 59 (XL w2.heap.size) t λr=>Ok (uv w (jV d S V origin start c)) (.returned (.tuple #[r,.bool false,XH no])) t:=λ{z no} h4 R=>y (((L.then Z).then M).then (F.then h4)) R;refine⟨λa9 c5 w'=>∃H:Nat,c5=H/\H<=2/\a9=2-H/\ai i2 w'/\(1<=H->c.expect= -1\/c.expect=((V.state c.aW c.agg).getD ⟨0,[]⟩).version)/\(2<=H->uP (d.at c.aW) E c.field c.op c.arg=0),⟨_,0,rfl,oM,rfl,ak.refl _,λh=>oM,λh=>oM⟩,?_⟩;rintro a9 _ _ I ⟨H,rfl,hj,rfl,j,d8,m9⟩;have d0:=j.get i3 id;have a0:=j.get i4 id;have i7:=j.get i5 id;have d1:=j.get m7 id;refine an.dec (λq9=>⟨m5.heap.size,0,rfl,oM,oM,?_⟩) (λr0=>?_)
 ·have n0:H=0\/H=1:=oM
  rcases n0 with rfl|rfl
  ·refine⟨_,ae d1 rfl,_,_,_,rfl,kR,PC.ok (φ:=λv w'=>v= XH (if c.expect= -1\/c.expect=((V.state c.aW c.agg).getD ⟨0,[]⟩).version then 0 else 11)/\I=w') (tg ⟨_,ae a0 rfl,an.eG (λh1=>Ok.mk ⟨by rw[Zx (.inl h1)],rfl⟩) (λh1=>⟨_,ae a0 rfl,_,ae d0 rfl,an.eG (λh2=>Ok.mk ⟨by rw[Zx (.inr h2)],rfl⟩) (λh2=>Ok.mk ⟨by rw[Zq (by rintro(h|h);exact h1 h;exact h2 h)],rfl⟩)⟩)⟩) ?_⟩
   rintro _ _ ⟨rfl,rfl⟩
   by_cases hx:c.expect= -1\/c.expect=((V.state c.aW c.agg).getD ⟨0,[]⟩).version
   ·rw[Zx hx]
    exact⟨_,rfl,an.ff rfl ⟨_,oM,1,rfl,oM,rfl,j,λ_=>hx,λh=>oM⟩⟩
   ·rw[Zq hx]
    exact⟨_,rfl,an.tt rfl (n j (A (by rw[Zx hx])))⟩
  ·refine⟨_,ae d1 rfl,_,_,_,rfl,kR,PC.ok (φ:=λv w'=>v= XH (uP (d.at c.aW) E c.field c.op c.arg)/\ai I w') (th ⟨_,_,_,ae i7 rfl,_,_,_,ae d0 rfl,_,ae a0 rfl,_,ae a0 rfl,_,ae a0 rfl,PC.ok (EO c4 ((b3.ah (b4.then F)).ah j) ((i1.ah d7).ah j)) ?_⟩) ?_⟩
   ·rintro _ n1 ⟨rfl,b9⟩
    exact⟨_,rfl,Ok.mk ⟨rfl,b9⟩⟩
   ·rintro _ n1 ⟨rfl,b9⟩
    refine⟨_,rfl,an.dX (λU=>n (j.then b9) (A ?_)) (λh0=>⟨_,oM,2,rfl,oM,rfl,j.then b9,λ_=>d8 oM,λ_=>h0⟩)⟩;have n2:uP (d.at c.aW) E c.field c.op c.arg=10:=by
     rw[CF]at U⊢;split at U
     ·simp at U
     ·rename_i hq;rw[Zq hq]
    rw[Zq (λh=>h (d8 oM)),Zx U,n2]
 have i8:=A (r:=((aS c origin S.vec (max S.top start)).2,decide ((aS c origin S.vec (max S.top start)).1=0),(aS c origin S.vec (max S.top start)).1)) (by rw[Zq (λh=>h (d8 oM)),Zq (by rw[m9 oM];simp)]);have J:(if start>S.top then start else S.top)=max S.top start:=by split<;>omega
 have c0:(if start>S.top then start else S.top)<=9223372036854775807:=by split<;>omega
 refine⟨λeb eo no w'=>eo=0/\no=(aS c origin S.vec (max S.top start)).1/\ai I w'/\∃a2 a3 a7 G,w'.heap[eb]? =some (.cells (aD (aS c origin S.vec (max S.top start)).2 a2 a3 a7).toArray 59 (0,0))/\Row aQ 8 w' G a2 a3 (aS c origin S.vec (max S.top start)).2.aN/\∀P,G P->I.heap.size<=P/\P<w'.heap.size,?_,?_⟩
 rotate_left
 ·rintro eb _ no _ r3 ⟨rfl,rfl,d9,b,e,f,p,ge,u,g⟩
  have i9:=d9.get (j.get i6 id) id;have zk:=j.size;have r4:=d9.size;have zw:=q.size;refine au (aX _ b e f) ge (aB (aX _ b e f) i9 rfl λr5 j0 r6 n3=>au (aX _ b e f) n3 (Ok.mk ⟨b,e,f,p,?_,?_,λP a=>?_,?_⟩))
  ·rw[i8];rfl
  ·rw[i8];exact u.af j0 λP a l=>by have:=g P a;omega
  ·have:=g P a;omega
  ·exact(((c9.then j).then d9)).new j0 λP a=>.inr oM
 ·intro N j1
  have e0:ai I N:=j1.af;have r7:N.heap.size=I.heap.size:=by rw[j1.heap]
  have j2:=e0.get a0 id;have a4:=hs.ah ((c9.then j).then e0);have zk:=j.size;have hn:=hs.1.n;have c1:S.vec.length<=20000000:=by rw[S.bd];omega
  have c2:S.vec.length*8<=aT:=by unfold aT;omega
  have x:∀{wE w6 m:World} {a1:Nat} {b:ZH} {e f:Nat} {p:XN},ai N wE->Row aQ 8 wE p b e (aS c origin S.vec (max S.top start)).2.aN->(∀P,p P->N.heap.size<=P/\P<wE.heap.size/\P≠a1)->ai wE w6->N.heap.size<=a1->ak (λP=>P=a1) w6 m->m.heap.size=w6.heap.size->m.heap[a1]? =some (.cells (aD (aS c origin S.vec (max S.top start)).2 b e f).toArray 59 (0,0))->
    (λ(eb eo:Nat) (no:Int) (w':World)=>eo=0/\no=(aS c origin S.vec (max S.top start)).1/\ai I w'/\∃a2 a3 a7 G,w'.heap[eb]? =some (.cells (aD (aS c origin S.vec (max S.top start)).2 a2 a3 a7).toArray 59 (0,0))/\Row aQ 8 w' G a2 a3 (aS c origin S.vec (max S.top start)).2.aN/\∀P,G P->I.heap.size<=P/\P<w'.heap.size) a1 0 (aS c origin S.vec (max S.top start)).1 m:=λ{wE w6 m a1 b e f p} hE hr hG h6 hg h7 r8 n4=>by
   have z6:=h6.size;exact⟨rfl,rfl,((e0.then hE).then h6).new h7 λP a=>.inr oM,b,e,f,p,n4,(hr.ah h6).af h7 λP a l=>(hG P a).2.2 l,λP a=>by have:=hG P a;omega⟩
  have zc:¬(N.heap.size<=w1.heap.size):=by
   have h1:=((((k3.then L).then Z).then M).then F).size;omega
  refine⟨λP=>N.heap.size<=P,zc,au (yh c) j2 ⟨PC.ok (ky a4) ?_,PA.mk λr9 c3 s0 n8=>⟨ai.af c3,PC.ok (ky (a4.ah c3)) ?_⟩⟩⟩
  ·rintro _ n9 ⟨av,nv,cv,a8,rfl,b5,k,o0⟩
   have o1:=k.size;refine⟨_,_,_,rfl,ai.af k,PC.ok (Ei (a4.ah k)) ?_,PA.mk λo2 K o4 e1=>⟨ai.af K,PC.ok (Ei ((a4.ah k).ah K)) ?_⟩⟩
   ·rintro _ _ ⟨rfl,rfl⟩
    refine⟨_,rfl,ak.refl _,?_,?_⟩
    ·rw[J]
     refine PC.ok (iE (b5.row dC c2) (by rw[<-J];exact c0) c1) ?_;rintro _ e2 ⟨b,e,f,p,rfl,u,g,i⟩;have e3:=i.size;exact bS (qy _ b e f) ⟨_,rfl,ai.af i,PA.mk λs4 j3 t2 o5=>⟨ai.af j3,aB (aX _ b e f) o5 rfl λe4 o O Q=>⟨o.mono λP _ l=>oM,x (k.then i) u (λP a=>⟨by have:=g P a;omega,(g P a).2,by have:=g P a;omega⟩) j3 oM o O Q⟩⟩⟩
    ·refine PA.mk λo2 K o4 e1=>⟨ai.af K,?_⟩
     rw[J];refine PC.ok (iE ((b5.ah K).row dC c2) (by rw[<-J];exact c0) c1) ?_;rintro _ e2 ⟨b,e,f,p,rfl,u,g,i⟩;have e3:=i.size;exact bS (qy _ b e f) ⟨_,rfl,ai.af i,aB (aX _ b e f) (i.get e1 id) rfl λe4 o O Q=>⟨o.mono λP _ l=>oM,x ((k.then K).then i) u (λP a=>⟨by have:=g P a;omega,(g P a).2,by have:=g P a;omega⟩) (ak.refl _) oM o O Q⟩⟩
   ·rintro _ _ ⟨rfl,rfl⟩
    refine⟨_,rfl,ak.refl _,?_⟩;refine PC.ok (by rw[J];exact iE ((b5.ah K).row dC c2) (by rw[<-J];exact c0) c1) ?_;rintro _ e2 ⟨b,e,f,p,rfl,u,g,i⟩;have e3:=i.size;exact bS (qy _ b e f) ⟨_,rfl,ai.af i,aB (aX _ b e f) (i.get e1 id) rfl λe4 o O Q=>⟨o.mono λP _ l=>oM,x ((k.then K).then i) u (λP a=>⟨by have:=g P a;omega,(g P a).2,by have:=g P a;omega⟩) (ak.refl _) oM o O Q⟩⟩
  ·rintro _ n9 ⟨av,nv,cv,a8,rfl,b5,k,o0⟩
   have o1:=k.size;refine⟨_,_,_,rfl,ai.af k,PC.ok (Ei ((a4.ah c3).ah k)) ?_⟩;rintro _ _ ⟨rfl,rfl⟩;refine⟨_,rfl,ak.refl _,?_⟩;refine PC.ok (by rw[J];exact iE (b5.row dC c2) (by rw[<-J];exact c0) c1) ?_;rintro _ e2 ⟨b,e,f,p,rfl,u,g,i⟩;have e3:=i.size;exact bS (qy _ b e f) ⟨_,rfl,ai.af i,aB (aX _ b e f) ((k.then i).get n8 id) rfl λe4 o O Q=>⟨o.mono λP _ l=>oM,x ((c3.then k).then i) u (λP a=>⟨by have:=g P a;omega,(g P a).2,by have:=g P a;omega⟩) (ak.refl _) oM o O Q⟩⟩
end
structure jj where
 ta:ZH
 tn:Nat
 tc:Nat
 pa:ZH
 pn:Nat
 pc:Nat
 dp:Nat
 lp:ZH
 sp:Nat
 bp:Nat
 wp:Nat
 tp:Nat
abbrev jj.cells(P:jj)(a:cH)(b:Int):Array Value:= #[XH a.bB,XH a.vE,XH a.dI,XH a.chunk,XH a.buffer,XH a.my,XH a.every,XH a.start,.slice P.ta P.tn P.tc,.slice P.pa P.pn P.pc,XH b,
 XL P.dp,.pointer P.lp,XL P.sp,XL P.bp,XL P.wp,XL P.tp]
def DL(c:World)(G:XN)(d:Nat)(e:ZH)(D:al)(a:Option dh):Prop:=
 ∃b,aV c d b D/\(∀P,b P->G P)/\match a with
  |none=>e=none
  |some f=>f.bf≠[]/\∃g h,e=some ⟨g,0,none⟩/\pD c d g h f/\∀P,h P->G P/\¬b P
def Ng(c:World)(G:XN)(d:Nat)(P:Nat)(e:List aj):Prop:=∃b D,fZ c d b D P e/\(∀a,b a->G a)/\∀a,D a->G a
def mz(d:Nat)(e:Array Value)(a:jj)(c:cH)(b:bQ)(f:List aj):Nat->World->(XN)->Prop
 |0=>λP G=>G d/\P.heap[d]? =some (.cells e 88 (0,0))
 |1=>λP G=>aZ P G c.decl a.ta a.tn a.pa a.pn
 |2=>λP G=>DL P G a.dp a.lp b.D b.log
 |3=>λP G=>cC P a.sp G b.S/\b.S.Cl/\b.S.n=c.bB.toNat
 |4=>λP G=>cZ P a.bp G c.decl c.every.toNat f
 |5=>λP G=>Ng P G a.wp c.buffer.toNat b.waits
 |6=>λP G=>fL P a.tp G b.jA
 |_=>λ_ _=>True
variable{U n:Array Value}{E:List aj}{a:Nat}{f:XN}{b1:dh}
section
variable {w w' w0:World} {p:Nat} {F G T:XN} {cls:Nat->Nat} {h:jj} {c:cH} {self:Int} {X:bQ} {dp:Nat} {lp:ZH} {D:al} {log:Option dh}
def DL.af(h:DL w G dp lp D log)(b:ak T w w')(c:∀P,G P->¬T P):DL w' G dp lp D log:=by
 obtain⟨g,i,d,e⟩:=h;refine⟨g,i.af b λP a=>c P (d P a),d,?_⟩
 cases log with
 |none=>exact e
 |some o=>
  obtain⟨j,k,l,m,n,f⟩:=e;exact⟨j,k,l,m,n.af b λP a=>c P (f P a).1,f⟩
def cu:sP (mz p n h c X E):=by
 intro k w w' G T P b a
 match k,P with
 |0,P=>exact⟨P.1,b.get P.2 (a p P.1)⟩
 |1,P=>exact aZ.af P b a
 |2,P=>exact DL.af P b a
 |3,P=>exact⟨cC.af P.1 b a,P.2⟩
 |4,P=>exact cZ.af P b a
 |5,P=>obtain⟨i,D,j,f,g⟩:=P;exact⟨i,D,j.af b (λd e=>a d (f d e)) λd e=>a d (g d e),f,g⟩
 |6,P=>exact fL.af P b a
 |k+7,P=>trivial
structure jU (c:cH) (me:Int):Prop where
 right:gV c me=true
 decl:cJ c.decl=0
 UO:aP c.dI
 every:aP c.every
 start:aP c.start
structure Env (w0 w:World) (F:XN):Prop where
 pF:eu w0
 laid:Laid w0
 gr:ai w0 w
 aF:∀b,F b->w0.heap.size<=b
def Env.Hg(h:Env w0 w F)(b:dy F w f w'):Env w0 w' f:=⟨h.pF,h.laid,h.gr.new b.af λP a=>.inr (h.aF P a),λP a=>(b.new P a).elim (h.aF P) λc=>by have:=h.gr.size;omega⟩
def Env.ah(h:Env w0 w F)(P:ai w w'):Env w0 w' F:=⟨h.pF,h.laid,h.gr.then P,h.aF⟩
abbrev cY(w:World)(F:XN)(cls:Nat->Nat)(p:Nat)(h:jj)(c:cH)(self:Int)(X:bQ):Prop:=bL w F cls (mz p (h.cells c self) h c X X.S.l)
def cd(w:World)(p:Nat)(F:XN)(c:cH)(self:Int)(X:bQ):Prop:=jU c self/\∃h cls,cY w F cls p h c self X
def cY.ah(P:cY w F cls p h c self X)(a:ai w w'):cY w' F cls p h c self X:=bL.ah P cu a
def cY.bD(P:cY w F cls p h c self X):w.heap[p]? =some (.cells (h.cells c self) 88 (0,0)):=(P.at' 0).2
def cY.NK(P:cY w F cls p h c self X):F p/\cls p=0:=(P.at' 0).1
def cd.af(a:cd w p F c self X)(b:ak T w w')(d:∀P,F P->¬T P):cd w' p F c self X:=by
 obtain⟨e,h,cls,f⟩:=a;exact⟨e,h,cls,bL.af f cu b d⟩
def cd.ah(P:cd w p F c self X)(a:ai w w'):cd w' p F c self X:=P.af a λ_ _ h=>h
def cd.aF(a:cd w p F c self X):∀P,F P->P<w.heap.size:=by obtain⟨d,h,cls,b⟩:=a;exact b.aF
def cY.store{b:jj}(P:bL w F cls (mz p n b c X E))(e:ak (·=p) w w')(f:w'.heap[p]? =some (.cells U 88 (0,0))):bL w' F cls (mz p U b c X E):=by
 refine bL.same P cu (k:=0) (e.mono λg _ a=>by have a:g=p:=a;exact a▸(P.at' 0).1) ⟨(P.at' 0).1,f⟩ λd G h i=>?_;rcases d with _|_|_|_|_|_|_|d<;>first|exact i|exact Zz rfl h
def DL.PE(h:DL w G dp lp D (some b1))(d:Env w0 w G)(m:∀P,G P->P<w.heap.size):∃c,lp=XM c/\b1.bf≠[]/\cE w0 w dp c b1 D (λP=>P<w.heap.size/\¬G P):=by
 obtain⟨i,j,f,k,c,l,rfl,g,e⟩:=h;refine⟨c,rfl,k,l,⟨i,j,d.gr,λP a=>⟨d.aF P (f P a),λb=>?_⟩,λP a=>?_⟩,g,λP a=>⟨d.aF P (e P a).1,λb=>b.2 (e P a).1⟩⟩
 ·rcases b with b|b
  ·exact b.2 (f P a)
  ·exact(e P b).2 a
 ·rcases a with a|a
  ·exact a.1
  ·exact g.aF P a
def DL.vE(d:DL w G dp lp D log)(b:Env w0 w G):bM w0 w dp D (λP=>P<w.heap.size/\¬G P):=by
 obtain⟨e,f,c,-⟩:=d;exact⟨e,f,b.gr,λP a=>⟨b.aF P (c P a),λg=>g.2 (c P a)⟩,λP a=>a.1⟩
def DL.IP{Y:XN}(m:cE w0 w' dp a b1 D (λP=>(P<w.heap.size/\¬G P)\/Y P))(n:ak (fJ λP=>P<w.heap.size/\¬G P) w w')(o:b1.bf≠[]):∃d,DL w' d dp (XM a) D (some b1)/\dy G w d w'/\(∀P,d P->P<w'.heap.size)/\∀P,d P->¬Y P:=by
 obtain⟨g,⟨h,i,r,e,s⟩,j,k⟩:=m;have f:∀P,¬(P<w.heap.size/\¬G P)->G P\/w.heap.size<=P:=λP b=>by
  rcases Nat.lt_or_ge P w.heap.size with c|c
  ·exact .inl (Classical.byContradiction λp=>b ⟨c,p⟩)
  ·exact .inr c
 refine⟨λP=>h P\/g P,⟨h,i,λP b=>.inl b,o,a,g,rfl,j,λP b=>⟨.inr b,λq=>(e P q).2 (.inr b)⟩⟩,⟨n.mono λP t b=>(f P b).resolve_right oM,λP b=>?_⟩,λP b=>?_,λP b l=>?_⟩
 ·rcases b with b|b
  ·exact f P λc=>(e P b).2 (.inl (.inl c))
  ·exact f P λc=>(k P b).2 (.inl c)
 ·exact b.elim (i.aF P) (j.aF P)
 ·rcases b with b|b
  ·exact(e P b).2 (.inl (.inr l))
  ·exact(k P b).2 (.inr l)
def DL.PF{Y:XN}(h:bM w0 w' dp D (λP=>(P<w.heap.size/\¬G P)\/Y P))(i:ak (fJ λP=>P<w.heap.size/\¬G P) w w'):∃c,DL w' c dp none D none/\dy G w c w'/\(∀P,c P->P<w'.heap.size)/\∀P,c P->¬Y P:=by
 obtain⟨d,e,l,f,m⟩:=h;have g:∀P,¬(P<w.heap.size/\¬G P)->G P\/w.heap.size<=P:=λP a=>by
  rcases Nat.lt_or_ge P w.heap.size with b|b
  ·exact .inl (Classical.byContradiction λj=>a ⟨b,j⟩)
  ·exact .inr b
 exact⟨d,⟨d,e,λP a=>a,rfl⟩,⟨i.mono λP n a=>(g P a).resolve_right oM,λP a=>g P λb=>(f P a).2 (.inl b)⟩,λP a=>e.aF P a,λP a k=>(f P a).2 (.inr k)⟩
end
def Gx{D:al}(a:b1.bf≠[]):(aG b1 D).2.1.bf≠[]:=by
 have c:∀P:al,(jX b1 P).2.1.bf≠[]:=by
  intro P;unfold jX;dsimp only;split
  ·exact a
  ·split
   ·exact a
   ·simp
 have b:∀P:al,(bt b1 P).2.1.bf≠[]:=by
  intro P;unfold bt;dsimp only;split
  ·exact a
  ·exact c _
 unfold aG;dsimp only;split
 ·exact b D
 ·split
  ·exact a
  ·exact b _
def DV{D:al}{l:List aj}(P:b1.bf≠[]):(aK b1 D l).2.1.bf≠[]:=by
 unfold aK;dsimp only;have a:(if b1.size<=b1.bytes then aG b1 D else(0,b1,D)).2.1.bf≠[]:=by
  split
  ·exact Gx P
  ·exact P
 generalize(if b1.size<=b1.bytes then aG b1 D else(0,b1,D))=b at a⊢;split
 ·exact P
 split
 ·exact P
 split
 ·exact a
 split
 ·exact a
 ·exact a
variable{L:Bool}{R e q:Int}{u:List Int}{a2 e6:List PanicEntry->XU}{c1:List bg}{I g6:Nat×Nat}{d r:ZH}{J:Prop}{j:Type}{g o:TypeId}{b:World}{C:aM}{M l:aj}{g4 g5:aj×Bool×Int}{A:ar}{e5:cH}{c2:iu}
def NN(e:Row iX 96 b f d a E):∀P∈E,P.Ok:=λP g=>by
 obtain⟨c,h,rfl⟩:=List.getElem_of_mem g;obtain⟨j,k,l,-,-,-,-,m,n,o,-,-,i⟩:=e.el c E[c] (Qq h);exact i
def ar.Gy:∀{l:List aj} {S:ar} {P:aj},P∈S.l->P∈(S.eI l).l
 |[],S,P,a=>a
 |e::l,S,P,a=>ar.Gy (l:=l) (S:=(S.add e).2) (by
  rcases S.il e with⟨-,b⟩|⟨c,-⟩
  ·rw[b];exact a
  ·rw[c];exact(cV e S.l).mem_iff.2 (QJ _ a))
def pf(a:A.Cl)(b:A.n=e5.bB.toNat)(P:List aj):dZ e5 A P=A.eI P:=by
 unfold dZ;rw[ar.Mz,<-b,a.Sb]
section
variable {w w' w0:World} {p:Nat} {F E T:XN} {cls:Nat->Nat} {h:jj} {c:cH} {self:Int} {X:bQ} {evs:List aj} {ea:ZH} {en ec:Nat}
def jU.bB(P:jU c self):c.bB=(c.bB.toNat:Int)/\c.bB.toNat<=64/\1<=c.bB.toNat:=by
 have:=P.right;unfold gV within at this;simp only[QK,Zk]at this;omega
def Gz(s:cY w F cls p h c self X)(b0:jU c self)(hr:Row iX 96 w E ea en evs)(t:∀P,E P->P<w.heap.size)(hl:X.S.l.length+evs.length<=20000000):
  ZG 70 #[XL p,.slice ea en ec] w (Ok λa0 w'=>∃L d,a0= XL L/\cC w' L d (dZ c X.S evs)/\(∀P,d P->w.heap.size<=P)/\ai w w'):=by
 obtain⟨b1,b2,c5⟩:=b0.bB;have fm:=(s.at' 3).1;refine mQ ⟨p,0,rfl,_,ae s.bD rfl,?_⟩;rw[b1];refine PC.ok (CB b2) ?_;rintro _ w7 ⟨u,k,rfl,M,v,l⟩;have g:=cY.ah s l;refine⟨_,rfl,p,0,rfl,_,ae g.bD rfl,PC.ok (sU (fm.ah l) oM) ?_⟩;rintro _ c6 ⟨a2,x,c1,G,rfl,i,y,m⟩;have N:=M.aF;have c7:=i.aF;have z7:=l.size;have c8:=y.size;have O:=l.then y;refine⟨_,_,_,rfl,xA i Hj (hr.ah O) (λP a=>⟨by have:=t P a;omega,λz=>by have:=t P a;have:=m P (i.self P z);omega⟩) ba (by unfold maxLen;omega) λa' c' n Q A B b3 _=>⟨_,_,_,rfl,?_⟩⟩;have b4:=A.len dC;have c9:=B.size;rw[QX]at b4;have a3:Row iX 96 n Q a' (x+en) (X.S.l++evs):=A.row dC (by rw[QX];unfold aT;omega);have R:=A.aF;have S:∀P,Q P->¬k P:=λP a o=>by
  have e:=v P o;have h6:=N P o;rcases b3 P a with g|g|g
  ·have:=m P g;omega
  ·have:=t P g;omega
  ·omega
 have a4:ai w n:=O.new B λP a=>.inr (by have:=m P (i.self P a);omega);have a5:=(M.ah y).af B λP a z=>by have:=N P a;have:=m P (i.self P z);omega
 refine⟨λT C w'=>∃(b:Nat) (d:XN),C=b/\b<=x+en/\T=x+en-b/\cC w' u d ((⟨c.bB.toNat,[]⟩:ar).eI ((X.S.l++evs).take b))/\(∀P,d P->k P\/n.heap.size<=P)/\ak k n w',⟨_,0,k,rfl,Qj _,rfl,a5,λP a=>.inl a,ak.refl _⟩,?_⟩;rintro T _ _ U ⟨b,d,rfl,hj,rfl,H,q,r⟩;have d0:=r.size;refine an.dec (λd1=>?_) (λd2=>?_)
 ·obtain⟨f,V⟩:∃f,(X.S.l++evs)[b]? =some f:=⟨_,Qq (by rw[QX];omega)⟩
  obtain⟨P,a1,es,ha,d3,d4,b5,I,J,K,rfl,b6,a7⟩:=(a3.af r S).el b f V;refine⟨P,a1,ha,oM,oM,bq (es:=aD f I J K) (k:=10) (aX _ _ _ _) rfl (λC ht=>by rw[Qx];exact b5 C ht) (PA.mk λd5 b7 d6 b8=>aB (aX f I J K) b8 rfl λb9 c0 d7 c2=>au (aX f I J K) c2 ?_)⟩;have j:ai U b9:=b7.new c0 λP a=>.inr (by have a:P=U.heap.size:=a;omega);have W:=ar.lM ((X.S.l++evs).take b) ⟨c.bB.toNat,[]⟩;rw[Qy,QX]at W;simp only[ZQ]at W;refine PC.ok (sT (H.ah j) (b6.ah j) (λP a=>⟨by have:=R P a;have:=j.size;omega,λo=>?_⟩) a7 oM) ?_
  ·rcases q P o with e|e
   ·exact S P a e
   ·have:=R P a;omega
  rintro _ c3 ⟨rfl,Y,c4,Z⟩;refine⟨_,rfl,_,oM,b+1,Y,aq oM,oM,rfl,?_,λP a=>?_,(r.ah j).new Z.af λP a=>q P a⟩
  ·rw[Qw,V]
   show cC c3 u Y (ar.eI _ ((X.S.l++evs).take b++[f]));rw[ar.qd];exact c4
  ·rcases Z.new P a with e|e
   ·exact q P e
   ·have:=j.size;exact .inr oM
 ·rw[Qz (by rw[QX];omega)]at H
  exact Ok.mk ⟨u,d,rfl,H,λP a=>(q P a).elim (v P) λe=>oM,a4.new r λP a=>.inr (v P a)⟩
end
section
variable {w w' w0:World} {p:Nat} {F E T:XN} {cls:Nat->Nat} {h:jj} {c:cH} {self:Int} {X:bQ} {evs lB:List aj} {ea:ZH} {en ec:Nat}
def Env.sub(a:Env w0 w F)(b:∀P,f P->F P):Env w0 w f:=⟨a.pF,a.laid,a.gr,λP c=>a.aF P (b P c)⟩
def NO(P:A.OK)(b:l∈A.l)(c:M∈A.l)(d:aR l=aR M):l=M:=by
 have a:=P.get b;have e:=P.get c;rw[d,e]at a;exact(XJ a).symm
def zU(v:bL w F cls (mz p (h.cells c self) h c X lB))(l:Env w0 w F)(R:∀(x:Nat) (m n:aj),lB[x]? =some m->X.S.l[x]? =some n->aR m=aR n->m=n)(y:X.S.l.length<=20000000){κ:XR}(o:∀w' g a,cY w' g a p h c self X->dy F w g w'->κ (XH 0) w'):
  ∀lN,bO w lN->∃q:XN,(∃r z,(XM p:ZH)=some ⟨r,z,none⟩/\(¬q r/\(∃(A:ZH),lN.cell? ⟨r,z+14,none⟩=some (.pointer A)/\(∃B C,(XM p:ZH)=some ⟨B,C,none⟩/\(∃(E:ZH),lN.cell? ⟨B,C+13,none⟩=some (.pointer E)/\
   PC XP 32 #[.pointer E] lN (λS d=>∃(H:ZH) (I:Nat) (J:Nat),S= .slice H I J/\(ak q lN d/\PC XP 53 #[.pointer A,.slice H I J] d (λT i=>∃(U:Int),T= XH U/\(ak q d i/\κ (XH 0) i)) a2)) e6))))):=by
 intro lN V;have s:ai w lN:=V.af;have j:=bL.ah v cu s;have K:=(j.at' 0).2;refine⟨λP=>F P/\cls P=4,p,0,rfl,λW=>?_,_,ae K rfl,p,0,rfl,_,ae K rfl,PC.ok (sU (show cC lN h.sp (λP=>F P/\cls P=3) X.S from(j.at' 3).1) y) ?_⟩
 ·have:=W.2
  have Y:=(show(F p/\cls p=0)/\_ from v.at' 0).1.2;rw[Y]at this;cases this
 rintro _ d ⟨a1,a3,cc,G,rfl,t,f,Z⟩;have b5:=f.size;have a6:=j.aF;have L:=bL.ah j cu f;have a8:=t.lb;have a0:cZ d h.bp (λP=>F P/\cls P=4) c.decl c.every.toNat lB:=L.at' 4;refine⟨_,_,_,rfl,ai.af f,PC.ok (Ex a0 l.pF ((l.gr.then s).then f) (λP e=>l.aF P e.1) (t.row dC ba) a8 (λP e=>⟨t.aF P e,λhf=>by have:=a6 P hf.1;have:=Z P e;omega⟩) y R) ?_⟩;rintro _ i ⟨k,rfl,G4,M,N⟩;obtain⟨g,a,u,b,-,-⟩:=L.Hg cu (k:=4) (G':=G4) (C2:=mz p (h.cells c self) h c X X.S.l) N M.aF M λO G hj hc=>by
  rcases O with _|_|_|_|_|_|_|O<;>first|exact hc|exact Zz rfl hj
 have Q:ai w d:=s.then f;exact⟨_,rfl,N.af,o i g a u ⟨(ai.af Q).then b.af,λP e=>(b.new P e).imp id λh1=>by have:=Q.size;omega⟩⟩
def Gp(x:cY w F cls p h c self X)(c1:jU c self)(y:Env w0 w F){V:dh}(b3:X.log=some V)(Y:Row iX 96 w E ea en evs)(Z:∀a,E a->a<w.heap.size/\¬(F a/\cls a=2))(hl:X.S.l.length+evs.length<=20000000):
  ZG 34 #[XL p,.slice ea en ec] w (Ok λz w'=>z= XH (cT c X evs).1/\∃A r e,cY w' r e p A c self (cT c X evs).2/\dy F w r w'/\A.wp=h.wp):=by
 obtain⟨d,D,c2,P,j⟩:=X;simp only at b3 hl;subst b3;obtain⟨hS,B,hn⟩:=(show cC w h.sp (λa=>F a/\cls a=3) d/\d.Cl/\d.n=c.bB.toNat from x.at' 3)
 have c3:=x.aF;obtain⟨e1,C,H,a0⟩:=DL.PE (show DL w (λa=>F a/\cls a=2) h.dp h.lp D (some V)from x.at' 2) (y.sub λa b=>b.1) λa b=>c3 a b.1;have c4:=NN Y;have a2:∀a,E a->a<w.heap.size:=λa b=>(Z a b).1;refine mN ⟨p,0,rfl,_,ae x.bD rfl,?_⟩;rw[C];refine PC.ok (Iz y.laid a0 H Y a2 oM) ?_;rintro _ w7 ⟨rfl,a1,k7⟩;have I:=DV (D:=D) (l:=evs) H;have s:∀{a3},(if(aK V D evs).1≠0 then((aK V D evs).1,({S:=d,D:=(aK V D evs).2.2,log:=some (aK V D evs).2.1,waits:=P,jA:=j}:bQ))else
   if((aK V D evs).2.2.sync (aK V D evs).2.1.last).1≠0 then(((aK V D evs).2.2.sync (aK V D evs).2.1.last).1,{S:=d,D:=((aK V D evs).2.2.sync (aK V D evs).2.1.last).2,log:=some (aK V D evs).2.1,waits:=P,jA:=j})else
   (0,{S:=dZ c d evs,D:=((aK V D evs).2.2.sync (aK V D evs).2.1.last).2,log:=some (aK V D evs).2.1,waits:=P,jA:=j}))=a3->cT c ⟨d,D,some V,P,j⟩ evs=a3:=λ{a3} hq=>hq
 generalize e2:aK V D evs=ap at a1 I s;obtain⟨e3,t,D7⟩:=ap;simp only at a1 I s;obtain⟨G7,J,a4,a5,-⟩:=DL.IP (Y:=λ_=>False) (a1.mono λa b=>b.elim id False.elim) k7 I;obtain⟨F7,l,K,f,-,-,c5⟩:=x.Hg cu (k:=2) (G':=G7) (C2:=mz p (h.cells c self) h c ⟨d,D7,some t,P,j⟩ d.l) a4 a5 (by rw[<-C]at J;exact J) λm G L M=>by
  rcases m with _|_|_|_|_|_|_|m<;>first|exact M|exact Zz rfl L
 refine⟨_,rfl,an.dX (λa6=>Ok.mk ?_) (λh0=>?_)⟩
 ·rw[s (Zx a6)]
  exact⟨rfl,h,F7,l,K,f,rfl⟩
 simp only at h0;have c6:=y.Hg f;obtain⟨q2,n,-,u⟩:=DL.PE (show DL w7 (λa=>F7 a/\l a=2) h.dp h.lp D7 (some t)from K.at' 2) (c6.sub λa b=>b.1) λa b=>K.aF a b.1;refine⟨p,0,rfl,_,ae (K.at' 0).2 rfl,?_⟩;rw[n];refine PC.ok (FQ y.laid u I) ?_;rintro _ b4 ⟨rfl,a7,c7⟩;generalize e4:D7.sync t.last=sy at a7 s;obtain⟨s1,S⟩:=sy;simp only at a7 s;obtain⟨a8,o,i,N,-⟩:=DL.IP (Y:=λ_=>False) (a7.mono λa b=>b.elim id False.elim) c7 I;obtain⟨O,v,g,k,-,a9,T⟩:=K.Hg cu (k:=2) (G':=a8) (C2:=mz p (h.cells c self) h c ⟨d,S,some t,P,j⟩ d.l) i N (by rw[<-n]at o;exact o) λm G L M=>by
  rcases m with _|_|_|_|_|_|_|m<;>first|exact M|exact Zz rfl L
 have b0:=f.trans k;refine⟨_,rfl,an.dX (λa6=>Ok.mk ?_) (λh1=>?_)⟩
 ·rw[s ((Zq (by simpa using h0)).trans (Zx a6))]
  exact⟨rfl,h,O,v,g,b0,rfl⟩
 simp only at h1;have c8:=s ((Zq (by simpa using h0)).trans (Zq (by simpa using h1)));rw[c8];have c9:Row iX 96 b4 E ea en evs:=by
  refine(Y.af a4.af λa b=>(Z a b).2).af i.af λa b hf=>?_;rcases a4.new a (c5▸hf)with h5|h5
  ·exact(Z a b).2 h5
  ·have:=a2 a b;omega
 refine PC.ok (Gz g c1 c9 (λa b=>by have:=a2 a b;have:=b0.af.size;omega) hl) ?_;rintro _ d0 ⟨U,F2,rfl,b5,d1,d2⟩;have d3:(dZ c d evs).n=c.bB.toNat:=ar.MA _ _;have b1:=pf B hn evs;have b6:(dZ c d evs).Cl:=by rw[b1];exact ar.Cl.eI B c4
 obtain⟨F3,Q,b7,q,d4,-⟩:=g.fC cu (k:=3) (w':=d0) (G':=F2) (C2:=mz p (h.cells c self) {h with sp:=U} c ⟨dZ c d evs,S,some t,P,j⟩ d.l) (ai.af d2) (λa b=>.inr (d1 a b)) b5.aF ⟨b5,b6,d3⟩ λm G L M=>by
  rcases m with _|_|_|_|_|_|_|m<;>first|exact M|exact Zz rfl L
 refine⟨_,rfl,p,0,rfl,PS.mk (b7.at' 0).2 sM λb8 b9 e5 d5=>?_⟩;have d6:bL b8 F3 Q (mz p (({h with sp:=U}:jj).cells c self) {h with sp:=U} c ⟨dZ c d evs,S,some t,P,j⟩ d.l):=cY.store b7 b9 d5;have d7:dy O b4 F3 b8:=⟨q.af.then (b9.mono λa _ R=>by have R:a=p:=R;rw[R];exact(g.at' 0).1.1),q.new⟩
 have c0:=b0.trans d7;have d8:∀W∈d.l,W∈(dZ c d evs).l:=λW hx=>by rw[b1];exact ar.Gy hx
 have d9:(dZ c d evs).l.length<=20000000:=by rw[b1];exact Xx (ar.lM _ _) hl
 exact zU d6 (y.Hg c0) (λe6 W e7 hx hy R=>NO b6.ok (d8 W (QZ hx)) (QZ hy) R) d9 (κ:=λz w'=>Ok (λz w'=>z= XH 0/\∃A r e,cY w' r e p A c self ⟨dZ c d evs,S,some t,P,j⟩/\dy F w r w'/\A.wp=h.wp) (.returned z) w')
  λw' r e b2 e0=>Ok.mk ⟨rfl,{h with sp:=U},r,e,b2,c0.trans e0,rfl⟩
end
def IU{D:al}{size:Int}(P:(bA D size).no=0):(bA D size).V.bf≠[]:=by
 revert P
 unfold bA;generalize iC (told D) [] (mj D size) D=c;unfold kQ;split
 ·rename_i b;intro P;exact Zz P b
 split
 ·intro P;exact rk P
 rename_i a;split
 ·intro _;exact a
 ·intro _;exact a
abbrev Gu(P:jj)(a:cH)(b:Int)(c d e:ZH):Array Value:= #[XH a.bB,XH a.vE,XH a.dI,XH a.chunk,XH a.buffer,XH a.my,XH a.every,XH a.start,.slice P.ta P.tn P.tc,.slice P.pa P.pn P.pc,XH b,
 XL P.dp,.pointer c,.pointer d,.pointer e,XL P.wp,XL P.tp]
def recC(d:Nat)(e:Array Value)(a:jj)(c:cH)(b:bQ)(f:Bool):Nat->World->(XN)->Prop
 |0=>λP G=>G d/\P.heap[d]? =some (.cells e 88 (0,0))
 |1=>λP G=>aZ P G c.decl a.ta a.tn a.pa a.pn
 |2=>λP G=>DL P G a.dp a.lp b.D b.log
 |3=>λP G=>f=true->cC P a.sp G b.S/\b.S.Cl/\b.S.n=c.bB.toNat
 |5=>λP G=>Ng P G a.wp c.buffer.toNat b.waits
 |6=>λP G=>fL P a.tp G b.jA
 |_=>λ_ _=>True
section
variable {w w' w0:World} {p:Nat} {F E T:XN} {cls:Nat->Nat} {h:jj} {c:cH} {self:Int} {X:bQ} {evs lB:List aj} {ea:ZH} {en ec:Nat}
def qo:sP (recC p n h c X L):=by
 intro k w w' G T P b a
 match k,P with
 |0,P=>exact⟨P.1,b.get P.2 (a p P.1)⟩
 |1,P=>exact aZ.af P b a
 |2,P=>exact DL.af P b a
 |3,P=>exact λf=>⟨cC.af (P f).1 b a,(P f).2⟩
 |4,P=>trivial
 |5,P=>obtain⟨j,D,l,g,i⟩:=P;exact⟨j,D,l.af b (λd e=>a d (g d e)) λd e=>a d (i d e),g,i⟩
 |6,P=>exact fL.af P b a
 |k+7,P=>trivial
def Gv{z1 z2 z3:ZH}(T:bL w F cls (recC p (Gu h c self z1 z2 z3) h c X false))(L:jU c self)(A:Env w0 w F):
  ZG 29 #[XL p] w (Ok λB w'=>B= XH (kf c X).1/\(kf c X).2.S.l.length<=16777216/\∃U q e,cY w' q e p U c self (kf c X).2/\dy F w q w'):=by
 obtain⟨g4,d1,j8⟩:=L.bB;have g5:=T.aF;have V:F p/\cls p=0:=(T.at' 0).1;have j3:1<=c.every:=by
  have:=L.right;unfold gV at this;simp only[QK,Zk]at this;omega
 refine kq λw3 d3=>?_;have W:ai w w3:=d3.af;have M:=bL.ah T qo W;have N:=(M.at' 0).2;refine⟨λ_=>False,p,0,rfl,_,ae N rfl,p,0,rfl,id,_,_,_,_,_,_,ae N rfl,ae N rfl,p,0,rfl,id,_,ae N rfl,?_⟩;rw[g4];refine PC.ok (CB d1) ?_;rintro _ d2 ⟨f,F2,rfl,Y,d4,C⟩;have a9:=W.then C;have d5:=bL.ah M qo C;refine⟨_,rfl,C,PC.ok (Mj L.decl L.every ((A.pF.ah A.gr).ah a9) (show aZ d2 (λP=>F P/\cls P=1) c.decl h.ta h.tn h.pa h.pn from d5.at' 1) λP a=>d5.aF P a.1) ?_⟩;rintro _ g6 ⟨i,F4,rfl,Z,d6,b7⟩;have y3:=W.size;have j9:=C.size;have k0:=b7.size;rw[show(max 1 c.every).toNat=c.every.toNat by congr 1;omega]at Z;have j4:=Y.aF;obtain⟨Fa,d7,E,b0,g7,-⟩:=M.Ew qo (k:=3) (w':=d2) (G':=F2) (C2:=recC p (Gu h c self z1 z2 z3) {h with sp:=f} c {X with S:=⟨c.bB.toNat,[]⟩} true) (ai.af C) (λP a m=>by have:=d4 P a;have:=g5 P m;omega) Y.aF (λ_=>⟨Y,ar.Cl.new d1,rfl⟩) λb G j k=>by
  rcases b with _|_|_|_|_|_|_|b<;>first|exact k|exact Zz rfl j
 obtain⟨u,r,b8,b1,g8,-⟩:=E.Ew qo (k:=4) (w':=g6) (G':=F4) (C2:=mz p (Gu h c self z1 z2 z3) {h with sp:=f,bp:=i} c {X with S:=⟨c.bB.toNat,[]⟩} []) (ai.af b7) (λP a m=>by have:=d6 P a;have:=E.aF P m;omega) Z.aF Z λb G j k=>by
  rcases b with _|_|_|_|_|_|_|b<;>first|exact k|exact k rfl|exact Zz rfl j
 have e1:∀P,u P->F P\/w.heap.size<=P:=λP a=>by
  rcases g8 P a with l|l
  ·rcases g7 P l.1 with h6|h6
   ·exact .inl h6.1
   ·exact .inr (by have:=d4 P h6;omega)
  ·exact .inr (by have:=d6 P l;omega)
 refine⟨_,rfl,p,0,rfl,PS.mk (b8.at' 0).2 sM λk1 d8 k2 g9=>⟨p,0,rfl,PS.mk g9 sM λb9 d9 k4 h4=>λc0 h7=>?_⟩⟩;have j5:u p/\r p=0:=(b8.at' 0).1;have e0:ai b9 c0:=h7.af;have h8:bL b9 u r (mz p (Gu h c self z1 (XM f) (XM i)) {h with sp:=f,bp:=i} c {X with S:=⟨c.bB.toNat,[]⟩} []):=cY.store b8 (d8.then d9) h4;have b2:dy F w u b9:=⟨((ai.af a9).ah b7).then ((d8.then d9).mono λP _ g=>by have g:P=p:=g;rw[g];exact V.1),e1⟩
 have H:=bL.ah h8 cu e0;have O:dy F w u c0:=⟨b2.af.ah e0,b2.new⟩
 have e4:=A.Hg O;have e2:=(H.at' 0).2;have h9:=DL.vE (show DL c0 (λP=>u P/\r P=2) h.dp h.lp X.D X.log from H.at' 2) (e4.sub λP a=>a.1);refine⟨p,0,rfl,_,ae e2 rfl,p,0,rfl,_,ae e2 rfl,PC.ok (Nz A.laid h9) ?_⟩;have a0:∀{d},(if(bA X.D c.dI).no≠0 then((bA X.D c.dI).no,{X with D:=(bA X.D c.dI).D,log:=none,S:=⟨c.bB.toNat,[]⟩})
   else(0,{X with D:=(bA X.D c.dI).D,log:=some (bA X.D c.dI).V,S:=(⟨c.bB.toNat,[]⟩:ar).eI (bA X.D c.dI).out}))=d->kf c X=d:=λ{d} hq=>hq
 have b3:=IU (D:=X.D) (size:=c.dI);generalize bA X.D c.dI=d at a0 b3;rintro _ i0 (⟨I,rfl,e8,c2⟩|⟨I,s,e9,a1,cc,G,rfl,c3,i1,c2,hG,hq,j6⟩)
 ·obtain⟨G2,c4,a2,c5,-⟩:=DL.PF (Y:=λ_=>False) (e8.mono λP a=>a.elim id False.elim) c2
  obtain⟨t,Q,v,a3,-,-⟩:=H.Hg cu (k:=2) (G':=G2) (C2:=mz p (Gu h c self z1 (XM f) (XM i)) {h with sp:=f,bp:=i,lp:=none} c {X with S:=⟨c.bB.toNat,[]⟩,D:=d.D,log:=none} []) a2 c5 (by
    obtain⟨Fd,h1,h2,M⟩:=c4;exact⟨Fd,h1,h2,rfl⟩) λb G j k=>by
   rcases b with _|_|_|_|_|_|_|b<;>first|exact k|exact Zz rfl j
  refine⟨_,_,_,_,_,rfl,p,0,rfl,PS.mk (v.at' 0).2 sM λx y e3 c6=>an.dX (λ_=>Ok.mk ?_) (λh0=>Zz h0 I)⟩;rw[a0 (Zx I)];refine⟨rfl,Qj _,{h with sp:=f,bp:=i,lp:=none},t,Q,cY.store v y c6,?_⟩;have J:=O.trans a3;exact⟨J.af.then (y.mono λP _ g=>by have g:P=p:=g;rw[g];exact V.1),J.new⟩
 ·obtain⟨G2,c4,a2,c5,hY⟩:=DL.IP i1 c2 (b3 I)
  obtain⟨t,Q,v,a3,i2,-⟩:=H.Hg cu (k:=2) (G':=G2) (C2:=mz p (Gu h c self z1 (XM f) (XM i)) {h with sp:=f,bp:=i,lp:=XM s} c {X with S:=⟨c.bB.toNat,[]⟩,D:=d.D,log:=some d.V} []) a2 c5 c4 λb G j k=>by
   rcases b with _|_|_|_|_|_|_|b<;>first|exact k|exact Zz rfl j
  refine⟨_,_,_,_,_,rfl,p,0,rfl,PS.mk (v.at' 0).2 sM λx y e3 c6=>an.dX (λh0=>Zz rfl h0) (λ_=>?_)⟩;have f0:bL x t Q (mz p (({h with sp:=f,bp:=i,lp:=XM s}:jj).cells c self) {h with sp:=f,bp:=i,lp:=XM s} c {X with S:=⟨c.bB.toNat,[]⟩,D:=d.D,log:=some d.V} []):=cY.store v y c6;have J:=O.trans a3;have b4:dy F w t x:=⟨J.af.then (y.mono λP _ g=>by have g:P=p:=g;rw[g];exact V.1),J.new⟩
  have j7:=O.af.size;have c7:∀P,G P->¬t P:=λP a m=>by
   rcases i2 P m with l|l
   ·have:=H.aF P l.1;have:=hG P a;omega
   ·exact hY P l a
  have i3:∀P,G P->P≠p:=λP a g=>c7 P a (g▸(v.at' 0).1.1);have b5:=c3.aF;have k5:=c3.len dC;have b6:Row iX 96 x G e9 a1 d.out:=tO.row (((c3.af y λP a g=>i3 P a g)).row dC ba);have k6:x.heap.size=i0.heap.size:=e3;rw[a0 (Zq (by simpa using I))];have g2:=NN b6;refine⟨λc1 a4 w'=>∃(b:Nat) (R:XN) (e5:Nat->Nat),a4=b/\b<=a1/\c1=a1-b/\bL w' R e5 (mz p (({h with sp:=f,bp:=i,lp:=XM s}:jj).cells c self) {h with sp:=f,bp:=i,lp:=XM s} c {X with S:=(⟨c.bB.toNat,[]⟩:ar).eI (d.out.take b),D:=d.D,log:=some d.V} [])/\dy t x R w',
   ⟨_,0,t,Q,rfl,Qj _,rfl,f0,dy.refl _ _⟩,?_⟩
  rintro c1 _ _ e6 ⟨b,R,e5,rfl,j,rfl,c8,z⟩;have i4:∀P,G P->¬R P:=λP a m=>by
   rcases z.new P m with l|l
   ·exact c7 P a l
   ·have:=b5 P a;omega
  have c9:=ar.lM (d.out.take b) ⟨c.bB.toNat,[]⟩;rw[Qy]at c9;simp only[ZQ]at c9;refine an.dec (λk7=>?_) (λk8=>?_)
  ·obtain⟨n,S⟩:∃n,d.out[b]? =some n:=⟨_,Qq oM⟩
   obtain⟨P,f1,es,ha,k9,l0,i5,xa,xn,xc,rfl,i6,d0⟩:=(b6.af z.af c7).el b n S;refine⟨P,f1,ha,oM,oM,bq (es:=aD n xa xn xc) (k:=10) (aX _ _ _ _) rfl (λa4 ht=>by rw[Qx];exact i5 a4 ht) (PA.mk λl3 i7 l4 i8=>aB (aX n xa xn xc) i8 rfl λl5 i9 l6 j0=>λj1 e7=>?_)⟩;have K:ai e6 j1:=(i7.new i9 λP a=>.inr (by have a:P=e6.heap.size:=a;omega)).then e7.af;have a5:=bL.ah c8 cu K;have l7:=z.af.size;obtain⟨f3,f4,f5⟩:=a5.at' 3;refine⟨p,0,rfl,_,ae (a5.at' 0).2 rfl,au (aX n xa xn xc) ((e7.af (S:=λ_=>False)).get j0 id) (PC.ok (sT f3 (i6.ah K) (λP a=>⟨by have:=b5 P a;have:=K.size;omega,λm=>i4 P a m.1⟩) d0 (by show((⟨c.bB.toNat,[]⟩:ar).eI (d.out.take b)).l.length<_;omega)) ?_)⟩;rintro _ l8 ⟨rfl,F8,f2,g0⟩;have j2:((⟨c.bB.toNat,[]⟩:ar).eI (d.out.take (b+1)))=(((⟨c.bB.toNat,[]⟩:ar).eI (d.out.take b)).add n).2:=by
    rw[Qw,S];exact ar.qd ..
   obtain⟨F9,a6,a7,o,-⟩:=a5.Hg cu (k:=3) (G':=F8) (C2:=mz p (({h with sp:=f,bp:=i,lp:=XM s}:jj).cells c self) {h with sp:=f,bp:=i,lp:=XM s} c {X with S:=(⟨c.bB.toNat,[]⟩:ar).eI (d.out.take (b+1)),D:=d.D,log:=some d.V} []) g0 f2.aF (by rw[j2];exact⟨f2,f4.add d0,(ar.Qb _ _).trans f5⟩) λb G j k=>by
    rcases b with _|_|_|_|_|_|_|b<;>first|exact k|exact Zz rfl j
   exact⟨_,rfl,_,oM,b+1,F9,a6,aq oM,oM,rfl,a7,z.trans ⟨(ai.af K).then o.af,λP a=>(o.new P a).imp id λh1=>by have:=K.size;omega⟩⟩
  ·rw[Qz oM]at c8 c9
   exact zU c8 (A.Hg (b4.trans z)) (λf6 n f7 S=>by simp at S) (by show((⟨c.bB.toNat,[]⟩:ar).eI d.out).l.length<=_;omega) (κ:=λB w'=>Ok (λB w'=>B= XH 0/\((⟨c.bB.toNat,[]⟩:ar).eI d.out).l.length<=16777216/\∃U q e,cY w' q e p U c self {X with S:=(⟨c.bB.toNat,[]⟩:ar).eI d.out,D:=d.D,log:=some d.V}/\dy F w q w') (.returned B) w')
    λw' q e a8 g1=>Ok.mk ⟨rfl,oM,_,q,e,a8,(b4.trans z).trans g1⟩
end
structure sq where
 code:Int
 id:Int×Int
 st:lA
 RI:List cM
 rows:List dz
 more:Bool
def l_(P:sq)(a:ZH)(b c:Nat)(d:ZH)(e f:Nat)(g:ZH)(h i:Nat):List Value:=
 [XH P.code,XH P.id.1,XH P.id.2,XH P.st.version,.slice a b c,.slice d e f,.slice g h i,.bool P.more]
def kh(P:sq)(a:ZH)(b c:Nat)(d:ZH)(e f:Nat)(g:ZH)(h i:Nat):iJ XP 46 (l_ P a b c d e f g h i)=true:=kR
def ic(i:World)(P:sq)(j:Value)(a:World):Prop:=∃(c:ZH) (d k:Nat) (e:ZH) (f l:Nat) (g:ZH) (h m:Nat) (G:XN),j= .agg (l_ P c d k e f l g h m).toArray/\
 Row eT 32 a G c d P.st.cells/\Row wK 120 a G e f P.RI/\Row EA 24 a G g h P.rows/\∀b,G b->i.heap.size<=b/\b<a.heap.size
abbrev nI(P:Int):sq:=⟨P,(0,0),⟨0,[]⟩,[],[],false⟩
abbrev Kc(id:Int×Int):sq:=⟨0,id,⟨0,[]⟩,[],[],false⟩
structure iu.Ok (x:iu):Prop where
 aW:aP x.aW
 agg:aP x.agg
 field:aP x.field
 op:aP x.op
 arg:aP x.arg
 key:aP x.key
variable{e7:sq}
section
variable {w w' w0:World} {p:Nat} {F E T:XN} {cls:Nat->Nat} {h:jj} {c:cH} {self:Int} {X:bQ} {evs lB:List aj} {ea:ZH} {en ec:Nat}
def ic.plain(P:e7.st.cells=[])(a:e7.RI=[])(b:e7.rows=[]):ic w e7 (.agg (l_ e7 none 0 0 none 0 0 none 0 0).toArray) w':=
 ⟨none,0,0,none,0,0,none,0,0,λ_=>False,rfl,by rw[P];exact dS _ _,by rw[a];exact dS _ _,by rw[b];exact dS _ _,λd c=>c.elim⟩
def row_one{P:jB j}{bytes a:Nat}{w:World}{e:j}{D:XN}(f:w.heap[a]? =some (.cells n g I))(h:P.rep w D e n.toList)(i:bytes<=1000):Row P bytes w (λb=>b=a\/D b) (XM a) 1 [e]:=by
 have o:=P.len h;refine⟨rfl,by unfold aT;omega,λc p d=>?_⟩;obtain rfl:c=0:=by
  rcases c with _|c
  ·rfl
  ·simp at d
 simp at d;subst d;refine⟨a,0,n.toList,rfl,az f,.inl rfl,λk l=>?_,P.mono h λb i=>.inr i⟩;have m:k<n.size:=by rw[<-o]at l;simpa using l
 rw[ae f (v:=n[k]) (by simp[m])];simp[m]
def RJ(j:A.OK){M:Int}(e:0<=M)(f:∀P∈A.l,P.ay<=M):A.top<=M:=by
 have:∀(b:List aj) (a:Int),a<=M->(∀P∈b,P.ay<=M)->b.foldl (λa P=>max a P.ay) a<=M:=by
  intro b
  induction b with
  |nil=>intro a c _;exact c
  |cons P b g=>
   intro a c d;refine g _ ?_ λh i=>d h (QJ _ i);have:=d P (QV ..);show max a P.ay<=M;omega
 exact this A.l 0 e f
def IV[Decidable J](P:g4.1.Ok)(a:g5.1.Ok):(if J then g4 else g5).1.Ok:=by
 split
 ·exact P
 ·exact a
def GA(P:c2.Ok)(d:aP e)(g:aP q)(a:∀f∈u,aP f):(aS c2 e u q).2.Ok:=by
 have h:=zV a e;unfold aS;dsimp only
 by_cases b:e<0\/(u.length:Int)<=e\/q<0
 ·rw[Zx b];exact zW
 rw[Zq b]
 by_cases c:cP u e=9223372036854775807\/q=9223372036854775807
 ·rw[Zx c];exact zW
 rw[Zq c];refine⟨d,?_,?_,Cc a sM,P.aW,P.agg,P.field,P.op,P.arg,P.key⟩
 ·show aP (cP u e+1);unfold aP at*;omega
 ·show aP (q+1);unfold aP at*;omega
def PG(e:A.l.length<=20000000):∀a∈A.vec,aP a:=λa c=>by
 obtain⟨d,P,rfl⟩:=List.getElem_of_mem c;rw[A.bd]at P;have b:=A.jw P;rw[Qq (by rw[A.bd];exact P)]at b;rw[XJ b];have:=A.Ik d;unfold aP;omega
def Kd(P:A.OK):aP A.top:=by
 have c:=RJ P (M:=9223372036854775807) oM λa b=>by have:=(P.ok a b).ay;unfold aP at this;omega
 have d:=A.ze;unfold aP;omega
def Ke{d:aM}{V:aY}{o P:Int}(b:c2.Ok)(a:A.OK)(c:aP o)(i:aP P)(e:A.l.length<=20000000):(jV d A V o P c2).1.Ok:=by
 have f:aP (max A.top P):=by
  have j:=Kd a;unfold aP at*;omega
 rw[jD];refine IV zW ?_
 cases g:A.keyed c2.key with
 |some h=>exact a.ok h (List.mem_of_find?_eq_some g)
 |none=>exact IV zW (IV zW (GA b c f (PG e)))
end
section
variable {w w' w0:World} {p:Nat} {F E T:XN} {cls:Nat->Nat} {h:jj} {c:cH} {self:Int} {X:bQ}
def jU.Qr(P:jU c self):0<=self/\self<c.bB:=by
 have:=P.right;unfold gV within at this;simp only[QK,Zk]at this;omega
def pP(hr:cd w p F c self X)(J:Env w0 w F)(hx:c2.Ok)(hl:X.S.l.length+1<=20000000):
  ZG 10 #[XL p,rG c2] w (Ok λa3 w'=>∃e,ic w (if(bF c self X c2).1≠0 then nI (bF c self X c2).1 else Kc (bF c self X c2).2.1) a3 w'/\cd w' p e c self (bF c self X c2).2.2/\dy F w e w'):=by
 have b8:=hr;obtain⟨q,h,cls,m⟩:=hr;have u:=m.aF;have e2:=(m.NK)
 have h2:=u p e2.1;have d4:aP self:=by have:=q.Qr;have:=q.bB;unfold aP;omega
 refine kp (PA.mk λC e3 h4 e4=>PA.mk λb2 c1 h6 d5=>?_);have a1:=e3.then c1;have e5:=cY.ah m a1;have E:∀{g:World} {e:XN} {l:bQ} {y:sq},y.st.cells=[]->y.RI=[]->y.rows=[]->(∃r,g.heap[C.heap.size]? =some (.cells r 46 (0,0))/\r.size=8)->cd g p e c self l->(∀P,e P->F P\/b2.heap.size<=P)->dy F w e g->(bF c self X c2).2.2=l->(if(bF c self X c2).1≠0 then nI (bF c self X c2).1 else Kc (bF c self X c2).2.1)=y->
   vQ XP 46 (XL C.heap.size) (.agg (l_ y none 0 0 none 0 0 none 0 0).toArray) g λa4=>nE XP 46 (XL C.heap.size) a4 λb=>Ok (λa3 w'=>∃e,ic w (if(bF c self X c2).1≠0 then nI (bF c self X c2).1 else Kc (bF c self X c2).2.1) a3 w'/\cd w' p e c self (bF c self X c2).2.2/\dy F w e w') (.returned b) a4:=λ{g e l y} y1 y2 y3 hz b3 b4 Q hX hy=>by
  obtain⟨r,hg,e6⟩:=hz;refine aB (kh y none 0 0 none 0 0 none 0 0) hg (by rw[e6];rfl) λa4 d6 h7 e7=>au (kh y none 0 0 none 0 0 none 0 0) e7 (Ok.mk ⟨e,by rw[hy];exact ic.plain y1 y2 y3,?_,Q.af.new d6 λP a=>.inr (by have a:P=C.heap.size:=a;omega),Q.new⟩);rw[hX];refine b3.af d6 λP a f=>?_;have f:P=C.heap.size:=f;rcases b4 P a with h1|h1
  ·have:=u P h1;omega
  ·omega
 refine⟨p,0,rfl,_,ae e5.bD rfl,ig Tryz.underlying84 ⟨_,rfl,?_⟩⟩;have d7:DL w (λP=>F P/\cls P=2) h.dp h.lp X.D X.log:=m.at' 2;obtain⟨hS,R,hn⟩:=(show cC w h.sp (λP=>F P/\cls P=3) X.S/\X.S.Cl/\X.S.n=c.bB.toNat from m.at' 3)
 cases S:X.log with
 |none=>
  obtain⟨Fd,-,-,h3⟩:=d7;rw[S]at h3;have h3:h.lp=none:=h3;rw[h3];refine an.tt rfl ?_;have n:bF c self X c2=(15,(0,0),X):=by unfold bF;rw[S]
  exact E (y:=nI 15) rfl rfl rfl ⟨_,d5,rfl⟩ (b8.ah a1) (λP a=>.inl a) ⟨ai.af a1,λP a=>.inl a⟩ (by rw[n]) (by rw[n];rfl)
 |some f3=>
 obtain⟨f4,a5,c3,-⟩:=DL.PE (S▸d7) (J.sub λP a=>a.1) λP a=>u P a.1;rw[a5];refine an.ff rfl λe8 e9=>⟨λ_=>False,?_⟩
 have b5:ai b2 e8:=e9.af;have a2:=a1.then b5;have c4:=cY.ah m a2;refine⟨p,0,rfl,id,_,_,_,_,_,_,ae c4.bD rfl,ae c4.bD rfl,p,0,rfl,_,ae c4.bD rfl,PC.ok (sU (hS.ah a2) oM) ?_⟩;rintro _ h8 ⟨la,ln,lc,G,rfl,c5,K,hG⟩;have h9:=c5.len dC;have f2:=c5.aF;have T:=a2.then K;have i0:=cY.ah m T;have b9:∀{g:World},ai w g->aZ g (λP=>F P/\cls P=1) c.decl h.ta h.tn h.pa h.pn:=λ{g} H=>(cY.ah m H).at' 1;refine⟨_,_,_,rfl,K,PC.ok (Er q.decl (J.pF.ah (J.gr.then T)) (b9 T) (λP a=>by have:=u P a.1;have:=T.size;omega) (c5.row dC ba) (λP a=>f2 P a) oM) ?_⟩;rintro _ I ⟨vp,Fv,rfl,hv,i1,L⟩;have M:=T.then L;have c0:=((c1.then b5).then K).then L;obtain⟨g8,g0⟩:=EB q.decl X.S.l;obtain⟨b,c6⟩:∃b,b=jV c.decl X.S (b_ c.decl X.S.l) self c.start c2:=⟨_,rfl⟩
 have i2:=a2.size;have i3:=K.size;have i4:=L.size;have v:∀{g:World},ai I g->ZG 33 #[.agg #[.slice h.ta h.tn h.tc,.slice h.pa h.pn h.pc],XL h.sp,XL vp,XH self,XH c.start,rG c2] g (Ok (uv g b)):=λ{g} H=>by
  rw[c6];exact Bh (J.pF.ah ((J.gr.then M).then H)) (b9 (M.then H)) (λP a=>by have:=u P a.1;have:=(M.then H).size;omega) q.decl (hS.ah (M.then H)) oM (hv.ah H) g0
   (by have:=q.start;unfold aP at this;omega) (by have:=Kd R.ok;unfold aP at this;omega)
 refine⟨_,rfl,L,λU eo o no w'=>eo=0/\∃i j k G,w'.heap[U]? =some (.cells (aD b.1 i j k).toArray 59 (0,0))/\Row aQ 8 w' G i j b.1.aN/\(∀P,G P->I.heap.size<=P/\P<w'.heap.size)/\I.heap.size<=U/\o=b.2.1/\no=b.2.2/\ai I w',?_,?_⟩
 ·intro x d8
  have N:ai I x:=d8.af;have i5:x.heap.size=I.heap.size:=by rw[d8.heap]
  have d9:=M.then N;have V:=cY.ah m d9;have e0:=N.get (c0.get e4 id) id;have nS:¬x.heap.size<=p:=oM
  have g1:¬x.heap.size<=w.heap.size:=by have:=b5.size;have:=K.size;have:=L.size;omega
  refine⟨λP=>x.heap.size<=P,p,0,rfl,nS,_,_,_,_,_,_,ae V.bD rfl,ae V.bD rfl,p,0,rfl,nS,_,ae V.bD rfl,p,0,rfl,nS,_,ae V.bD rfl,p,0,rfl,nS,_,ae V.bD rfl,g1,au (yh c2) e0 ⟨PC.ok (v N) ?_,PA.mk λi6 c7 i7 g2=>⟨ai.af c7,PC.ok (v (N.then c7)) ?_⟩⟩⟩
  ·rintro _ c8 ⟨i,j,k,G,rfl,W,s,c9⟩
   have i8:=c9.size;refine bS (qy b.1 i j k) ⟨_,_,rfl,ai.af c9,PA.mk λi9 d0 j0 g3=>⟨ai.af d0,aB (aX b.1 i j k) g3 rfl λj1 d1 j2 g4=>⟨d1.mono λP _ f=>by have f:P=c8.heap.size:=f;omega,rfl,i,j,k,G,g4,?_,λP a=>⟨by have:=s P a;omega,by have:=s P a;omega⟩,oM,rfl,rfl,?_⟩⟩⟩
   ·exact(W.ah d0).af d1 λP a f=>by have f:P=c8.heap.size:=f;have:=(s P a).2;omega
   ·exact((N.then c9).then d0).new d1 λP a=>.inr (by have a:P=c8.heap.size:=a;omega)
  ·rintro _ j3 ⟨i,j,k,G,rfl,W,s,b6⟩
   have j4:=b6.size;refine bS (qy b.1 i j k) ⟨_,_,rfl,ai.af b6,aB (aX b.1 i j k) (b6.get g2 id) rfl λj5 d2 j6 g5=>⟨d2.mono λP _ f=>by have f:P=x.heap.size:=f;omega,rfl,i,j,k,G,g5,?_,λP a=>⟨by have:=s P a;omega,by have:=s P a;omega⟩,oM,rfl,rfl,?_⟩⟩
   ·exact W.af d2 λP a f=>by have f:P=x.heap.size:=f;have:=(s P a).1;omega
   ·exact((N.then c7).then b6).new d2 λP a=>.inr (by have a:P=x.heap.size:=a;omega)
 rintro U _ o no _ O ⟨rfl,i,j,k,G2,d,W,s,j7,rfl,rfl,d3⟩;have Y:=M.then d3;have j8:=cY.ah m Y;have g9:=c0.then d3;have b0:=d3.get (L.get (K.get (b5.get d5 id) id) id) id;have a6:b.1.Ok:=by rw[c6];exact Ke hx R.ok d4 q.start oM
 have a7:∀{z:Int×(Int×Int)×bQ},(if b.2.2≠0 then(b.2.2,(0,0),X)else if b.2.1 then(if(cT c X [b.1]).1≠0 then((cT c X [b.1]).1,(0,0),(cT c X [b.1]).2)else(0,aR b.1,(cT c X [b.1]).2))else(0,aR b.1,X))=z->bF c self X c2=z:=λ{z} ht=>by
  rw[<-ht,c6];unfold bF;rw[S]
 have j9:=Y.size;have f0:=az d;refine⟨λz w'=>∃e l,cd w' p e c self l/\dy F w e w'/\(∀P,e P->F P\/b2.heap.size<=P)/\w'.heap[U]? =some (.cells (aD b.1 i j k).toArray 59 (0,0))/\(∃r,w'.heap[C.heap.size]? =some (.cells r 46 (0,0))/\r.size=8)/\bF c self X c2=(if z≠0 then(z,(0,0),l)else(0,aR b.1,l)),?_,?_⟩
 ·have A:bF c self X c2=(if b.2.2≠0 then(b.2.2,(0,0),X)else(0,aR b.1,X))->∃e l,cd O p e c self l/\dy F w e O/\(∀P,e P->F P\/b2.heap.size<=P)/\O.heap[U]? =some (.cells (aD b.1 i j k).toArray 59 (0,0))/\(∃r,O.heap[C.heap.size]? =some (.cells r 46 (0,0))/\r.size=8)/\bF c self X c2=(if b.2.2≠0 then(b.2.2,(0,0),l)else(0,aR b.1,l)):=λn=>
   ⟨F,X,b8.ah Y,⟨ai.af Y,λP a=>.inl a⟩,λP a=>.inl a,d,⟨_,b0,rfl⟩,n⟩
  refine an.eG (λB=>an.mk (λt=>?_) (λt=>A (a7 (by rw[Zq (by simpa using B),Zq (by simpa using t),Zq (by simpa using B)])))) (λB=>A (a7 (by rw[Zx B,Zx B])));refine⟨_,_,_,_,_,_,_,_,_,_,_,_,ae d rfl,ae d rfl,ae d rfl,ae d rfl,ae d rfl,ae d rfl,ae d rfl,ae d rfl,ae d rfl,ae d rfl,PA.mk λe1 b7 k0 g6=>?_⟩;have a9:=Y.then b7;have f1:Row iX 96 e1 (λP=>P=O.heap.size\/G2 P) (XM O.heap.size) 1 [b.1]:=row_one g6 ⟨i,j,k,rfl,W.ah b7,a6⟩ dC;refine PC.ok (Gp (cY.ah m a9) q (J.ah a9) S f1 (λP a=>?_) (by simpa using hl)) ?_
  ·have g7:I.heap.size<=P/\P<e1.heap.size:=a.elim (λf=>⟨oM,oM⟩) λh5=>by have:=s P h5;omega
   exact⟨g7.2,λt=>by have:=u P t.1;omega⟩
  rintro _ k1 ⟨rfl,h',e,Z,a8,a0,-⟩;refine⟨_,rfl,e,(cT c X [b.1]).2,⟨q,h',Z,a8⟩,⟨(ai.af a9).then a0.af,λP a=>(a0.new P a).imp id λh1=>oM⟩,λP a=>(a0.new P a).imp id λh1=>by have:=c1.size;omega,a0.af.get (b7.get d id) λt=>by have:=u _ t;omega,⟨_,a0.af.get (b7.get b0 id) λt=>by have:=u _ t;omega,rfl⟩,?_⟩;exact a7 (by rw[Zq (by simpa using B),Zx t])
 ·rintro z _ k2 ⟨e,l,b3,Q,b4,b1,hz,n⟩
  refine an.dX (λc3=>?_) (λB=>⟨_,_,ae b1 rfl,ae b1 rfl,?_⟩)
  ·rw[Zx c3]at n
   exact E (y:=nI z) rfl rfl rfl hz b3 b4 Q (by rw[n]) (by rw[n];exact Zx c3)
  ·rw[Zq (by simpa using B)]at n
   exact E (y:=Kc (aR b.1)) rfl rfl rfl hz b3 b4 Q (by rw[n]) (by rw[n];rfl)
end
def eV(d:World)(e:XN)(h:List cG)(i:Value)(b:World):Prop:=
 ∃(a:ZH) (f g:Nat) (c:List Ep) (D:XN),i= .slice a f g/\aU Pz 66 (λP=>aI a=some P) b a f g c/\c.map (·.m)=h/\(∀P∈c,P.In b D)/\(∀P,D P->d.heap.size<=P/\P<b.heap.size/\aI a≠some P/\¬e P)/\∀P,aI a=some P->d.heap.size<=P/\¬e P
section
variable {w w' w0 w1:World} {p:Nat} {F E T Z:XN} {cls:Nat->Nat} {h:jj} {c:cH} {self:Int} {X:bQ} {ms:List cG} {v:Value}
def bk.out(f:bk w1 ms v w')(d:∀P,Z P->P<w1.heap.size)(o:w.heap.size<=w1.heap.size):eV w Z ms v w':=by
 obtain⟨g,h,i,j,D,k,l,m,n,b,e,p⟩:=f;exact⟨g,h,i,j,D,k,l,m,n,λP a=>⟨by have:=(b P a).1;omega,(b P a).2.1,(b P a).2.2,λc=>by have:=d P c;have:=(b P a).1;omega⟩,λP a=>⟨by have:=e P a;omega,λc=>by have:=d P c;have:=e P a;omega⟩⟩
def eV.nil(w0 w:World)(Z:XN):eV w0 Z [] (.slice none 0 0) w:=⟨none,0,0,[],λ_=>False,rfl,(aU.nil w).mono (λa P=>P.elim) (λa P=>(by cases P)),rfl,sM,λa P=>P.elim,λa P=>(by cases P)⟩
def bk.one{m:cG}{va c:ZH}{vn vc d e b:Nat}{D:XN}(g:w.heap[b]? =some (.cells (cU m va vn vc c d e).toArray 66 (0,0)))(i:(⟨m,va,vn,vc,c,d,e⟩:Ep).In w D)(f:∀a,D a->w0.heap.size<=a/\a<w.heap.size/\a≠b)(k:w0.heap.size<=b)(j:ai w0 w):
  bk w0 [m] (.slice (XM b) 1 1) w:=by
 have l:=az g;refine⟨XM b,1,1,[⟨m,va,vn,vc,c,d,e⟩],D,rfl,⟨⟨cU m va vn vc c d e,λ_=>False,Own.xR g rfl (by unfold maxLen;omega),bK.one ⟨rfl,trivial⟩,λa P=>P.elim⟩,λa P=>P,λa P=>?_⟩,rfl,λa P=>?_,λa P=>⟨(f a P).1,(f a P).2.1,λh=>?_⟩,λa P=>?_,j⟩
 ·simp only[aI,Q1]at P;omega
 ·simp at P;subst P;exact i
 ·simp only[aI,Q1]at h;exact(f a P).2.2 h.symm
 ·simp only[aI,Q1]at P;omega
def DN(o:cd w p F c self X)(A:aP e):
  ZG 35 #[XL p,XH e,XH q] w (Ok λv w'=>∃P,eV w P (eW c self X e q).1 v w'/\cd w' p P c self (eW c self X e q).2/\dy F w P w'):=by
 have B:=o;obtain⟨C,h,cls,d⟩:=o;have no:(e<0\/e>=c.bB\/e=self)->Ok (λv w'=>∃P,eV w P (eW c self X e q).1 v w'/\cd w' p P c self (eW c self X e q).2/\dy F w P w') (.returned (.slice none 0 0)) w:=λj=>by
  have:eW c self X e q=([],X):=by unfold eW;rw[Zx j]
  rw[this];exact Ok.mk ⟨F,eV.nil _ _ _,B,dy.refl _ _⟩
 refine jJ (an.dec (λk=>no (.inl k)) (λk=>⟨p,0,rfl,_,ae d.bD rfl,an.dec (λl=>no (.inr (.inl l))) (λl=>⟨p,0,rfl,_,ae d.bD rfl,an.eG (λm=>no (.inr (.inr m))) (λm=>⟨p,0,rfl,_,ae d.bD rfl,?_⟩)⟩)⟩));have E:eW c self X e q=([dH X.S self e],{X with jA:={X.jA with asked:=aJ X.jA.asked e q}}):=by unfold eW;rw[Zq (by rintro(h|h|h);exact k h;exact l h;exact m h)]
 refine PC.ok (GB (d.at' 6) A) ?_;rintro _ r ⟨rfl,H,s⟩;have I:cY r F cls p h c self {X with jA:={X.jA with asked:=aJ X.jA.asked e q}}:=bL.same d cu (k:=6) s H λt G J j=>by
  rcases t with _|_|_|_|_|_|_|t<;>first|exact j|exact Zz rfl J
 refine⟨rfl,λn K=>?_⟩;have u:ai r n:=K.af;have b:=cY.ah I u;refine⟨p,0,rfl,_,ae b.bD rfl,p,0,rfl,_,ae b.bD rfl,PC.ok (Gg (b.at' 3).1) ?_⟩;rintro _ L ⟨S,T,U,G,rfl,x,M,g⟩;have y:=x.aF;have N:=g.size;refine⟨_,_,_,_,_,_,_,_,_,rfl,PA.mk λO i V Q=>?_⟩;rw[E];have R:bk n [dH X.S self e] (.slice (XM L.heap.size) 1 1) O:=bk.one (D:=G) Q ⟨(x.ah i).row dC (by show X.S.vec.length*8<=aT;rw[X.S.bd];have:=(b.at' 3).1.1.n;have:X.S.n<=64:=this;unfold aT;omega),dS _ _⟩ (λf a=>⟨M f a,by have:=y f a;omega,by have:=y f a;omega⟩) N (g.then i);have z:ak F w n:=(s.mono λf _ a=>a.1).ah u;exact Ok.mk ⟨F,R.out b.aF z.size,⟨C,h,cls,cY.ah b (g.then i)⟩,(z.ah g).ah i,λf a=>.inl a⟩
def DW(a:cd w p F c self X):ZG 15 #[XL p] w (Ok (qw aQ 3 w X.S.vec)):=by
 obtain⟨g,h,cls,P⟩:=a;refine nY ⟨p,0,rfl,_,ae P.bD rfl,PC.ok (ky (P.at' 3).1) ?_⟩;rintro _ i ⟨b,d,e,G,rfl,f⟩;exact⟨_,_,_,rfl,Ok.mk ⟨b,d,e,G,rfl,f⟩⟩
def nw(b:cd w p F c self X)(P:X.S.l.length<=20000000):ZG 11 #[XL p] w (Ok (qw iX 59 w X.S.l)):=by
 obtain⟨g,h,cls,a⟩:=b;refine lj ⟨p,0,rfl,_,ae a.bD rfl,PC.ok (sU (a.at' 3).1 P) ?_⟩;rintro _ i ⟨d,e,f,G,rfl,P⟩;exact⟨_,_,_,rfl,Ok.mk ⟨d,e,f,G,rfl,P⟩⟩
end
def uw{d:ar}:∀{a:List aj} {e:aj} {S':ar} {l':List aj},eg d a=some (e,S',l')->l'.length+1=a.length
 |[],e,S',l',P=>by simp[eg]at P
 |x::a,e,S',l',P=>by
  unfold eg at P;split at P
  ·simp only[Q1,Prod.mk.injEq]at P
   obtain⟨-,-,rfl⟩:=P;rfl
  ·cases b:eg d a with
   |none=>rw[b]at P;cases P
   |some c=>
    rw[b]at P;simp only[Option.map_some,Q1,Prod.mk.injEq]at P;obtain⟨rfl,rfl,rfl⟩:=P;have:=uw (e:=c.1) (S':=c.2.1) (l':=c.2.2) b;simp only[Xq];omega
def ux:∀(k:Nat) (b:ar) (a P:List aj),(dP k b a P).1.length+(dP k b a P).2.length=P.length+a.length
 |0,b,a,P=>rfl
 |k+1,b,a,P=>by
  unfold dP
  cases f:eg b a with
  |none=>rfl
  |some g=>
   obtain⟨c,d,e⟩:=g;have i:=uw f;have h:=ux k d e (P++[c]);show(dP k d e (P++[c])).1.length+(dP k d e (P++[c])).2.length=_;rw[h,QX,List.length_singleton];omega
def uy(a:ar)(P:List aj):(bz a P).1.length+(bz a P).2.length<=P.length:=by
 unfold bz;dsimp only;rw[ux];have:=List.length_filter_le (λb=>(a.get (aR b)).isNone) P;simp only[ZQ];omega
structure DX (w:World) (wp most:Nat) (M0 D0 E:XN) (s:Nat) (S:ar) (b:List aj) (oa:ZH) (on oc:Nat) (Lo:List (Bx aj)) (w1:World) (M Db Fs Do:XN):Prop where
 buf:fZ w1 wp M Db most b
 set:cC w1 s Fs S
 KB:∀x∈Lo,ow.In w1 Do x
 out:aU ow.ju 59 (λb=>aI oa=some b) w1 oa on oc Lo
 nM:∀b,M b->(M0 b\/w.heap.size<=b)/\¬Fs b
 nD:∀b,Db b->(D0 b\/w.heap.size<=b)/\¬Fs b
 nF:∀b,Fs b->w.heap.size<=b
 nO:∀b,Do b->(E b\/D0 b\/w.heap.size<=b)/\b<w1.heap.size/\¬M b/\¬Fs b
 nA:∀b,aI oa=some b->w.heap.size<=b/\¬M b/\¬Fs b/\¬Do b/\¬Db b
 af:ak M0 w w1
 cl:S.Cl
section
variable {w w' w0 w1 w2:World} {p wp most s on oc:Nat} {F E T Z M0 D0 M Db Fs Do:XN} {cls:Nat->Nat} {h:jj} {c:cH} {self:Int} {X:bQ} {S:ar} {b:List aj} {oa:ZH} {Lo:List (Bx aj)}
def fZ.NL(P:fZ w p M Db most b):∀b,M b->b<w.heap.size:=by obtain⟨-,d,e,c,f,a⟩:=P;exact a.dM
def fZ.GC(P:fZ w p M Db most b):∀b,Db b->b<w.heap.size/\¬M b:=by obtain⟨-,d,e,c,f,a⟩:=P;exact a.dD
def DX.ah(P:DX w wp most M0 D0 E s S b oa on oc Lo w1 M Db Fs Do)(a:ai w1 w2):DX w wp most M0 D0 E s S b oa on oc Lo w2 M Db Fs Do:=
 ⟨P.buf.ah a,P.set.ah a,λd e=>(P.KB d e).af a λ_ _ h=>h,P.out.ah a,P.nM,P.nD,P.nF,λb c=>⟨(P.nO b c).1,by have:=(P.nO b c).2.1;have:=a.size;omega,(P.nO b c).2.2⟩,P.nA,P.af.ah a,P.cl⟩
def DX.add(a:DX w wp most M0 D0 E s S b oa on oc Lo w1 M Db Fs Do){i n:Nat}(o:Row aQ 8 w1 f d i l.aN)(p:∀b,f b->b<w1.heap.size/\¬Fs b)(j:l.Ok)(y:S.l.length<=20000000):
  ZG 52 #[XL s,jk l d i n] w1 (Ok λk w'=>k= XH (S.add l).1/\∃g,DX w wp most M0 D0 E s (S.add l).2 b oa on oc Lo w' M Db g Do/\ak Fs w1 w'/\∀b,g b->Fs b\/w1.heap.size<=b):=by
 refine(sT a.set o p j oM).mono ?_;rintro _ w2 ⟨k,rfl,rfl,m,q,c⟩;have r:=a.buf.NL;have t:=a.buf.GC;have z:=a.af.size;have e:∀b,b<w1.heap.size->¬Fs b->¬m b:=λb A u h=>(c.new b h).elim u oM;refine Ok.mk ⟨rfl,m,⟨a.buf.af c.af (λb P=>(a.nM b P).2) λb P=>(a.nD b P).2,q,λv x=>(a.KB v x).af c.af λb P=>(a.nO b P).2.2.2,a.out.af c.af λb P=>(a.nA b P).2.2.1,λb P=>⟨(a.nM b P).1,e b (r b P) (a.nM b P).2⟩,λb P=>⟨(a.nD b P).1,e b (t b P).1 (a.nD b P).2⟩,
  λb P=>(c.new b P).elim (a.nF b) λY=>oM,λb P=>⟨(a.nO b P).1,by have:=(a.nO b P).2.1;have:=c.af.size;omega,(a.nO b P).2.2.1,e b (a.nO b P).2.1 (a.nO b P).2.2.2⟩,λb P=>⟨(a.nA b P).1,(a.nA b P).2.1,e b (a.out.aF b P) (a.nA b P).2.2.1,(a.nA b P).2.2.2⟩,a.af.new c.af λb P=>.inr (a.nF b P),a.cl.add j⟩,c.af,c.new⟩
def DX.push{t:Program}(c:DX w wp most M0 D0 E s S b oa on oc Lo w1 M Db Fs Do)(y:iI t g 59 ow.ju.k 96){d:Bx aj}(z:ow.In w1 f d)(e:∀b,f b->(E b\/D0 b\/w.heap.size<=b)/\b<w1.heap.size/\¬M b/\¬Fs b/\aI oa≠some b)(A:w1.heap[a]? =some (.cells (aD d.x d.a d.n d.c).toArray 59 I))(Q:Lo.length<=1000000){u B:XR}(q:∀l p w' r,DX w wp most M0 D0 E s S b l (on+1) p (Lo++[d]) w' M Db Fs r->ak (λb=>aI oa=some b) w1 w'->(∀b,aI l=some b->aI oa=some b\/w1.heap.size<=b)->u (.slice l (on+1) p) w'):
  aH t (Builtin.append_ #[g,g] o #[.slice oa on oc,.slice (XM a) 1 1]) w1 u B:=by
 refine d_ (c:=ow.ju) (x:=d) (D:=λ_=>False) c.out y A ⟨rfl,trivial⟩ (λb P=>P.elim) ba (by unfold maxLen;omega) λl p w2 R v i C=>?_;have F:=v.alone;have x:∀b,aI l=some b->aI oa=some b\/w1.heap.size<=b:=λb P=>(C b (v.self b P)).imp id λh=>h.resolve_left id;have T:=i.size;have z1:=c.af.size;have J:=c.buf.NL;have K:=c.buf.GC;have L:=c.set.aF;have nA:=c.nA;refine q l p w2 (λb=>Do b\/f b) ⟨c.buf.af i (λb P j=>(nA b j).2.1 P) λb P j=>(nA b j).2.2.2.2 P,c.set.af i λb P j=>(nA b j).2.2.1 P,λN m=>?_,F,c.nM,c.nD,c.nF,λb P=>?_,λb P=>?_,c.af.new i λb P=>.inr (nA b P).1,c.cl⟩ i x
 ·rcases Q6.1 m with m|m
  ·exact((c.KB N m).af i λb P j=>(nA b j).2.2.2.1 P).mono λb P=>.inl P
  ·simp at m;subst m
   exact(z.af i λb P=>(e b P).2.2.2.2).mono λb P=>.inr P
 ·rcases P with P|P
  ·exact⟨(c.nO b P).1,by have:=(c.nO b P).2.1;omega,(c.nO b P).2.2⟩
  ·exact⟨(e b P).1,by have:=(e b P).2.1;omega,(e b P).2.2.1,(e b P).2.2.2.1⟩
 ·rcases x b P with H|H
  ·exact⟨(nA b H).1,(nA b H).2.1,(nA b H).2.2.1,λn=>n.elim (nA b H).2.2.2.1 λO=>(e b O).2.2.2.2 H,(nA b H).2.2.2.2⟩
  ·exact⟨oM,λk=>by have:=J b k;omega,λk=>by have:=L b k;omega,λk=>k.elim (λn=>by have:=(c.nO b n).2.1;omega) λn=>by have:=(e b n).2.1;omega,λk=>by have:=(K b k).1;omega⟩
def DX.wait(P:DX w wp most M0 D0 E s S b oa on oc Lo w1 M Db Fs Do){k p:Nat}(q:Row aQ 8 w1 f d k l.aN)(r:∀b,f b->b<w1.heap.size)(t:l.Ok):
  ZG 190 #[XL wp,jk l d k p] w1 (Ok λm w'=>∃u,m= .bool u/\∃h i,DX w wp most M0 D0 E s S (eP most b l).2 oa on oc Lo w' h i Fs Do/\ak M w1 w'):=by
 refine(Hs P.buf q r t).mono ?_;rintro _ w2 ⟨m,rfl,rfl,h,v,x,g,j,n⟩;have o:=P.set.aF;have A:=P.af.size;have B:=g.size;refine Ok.mk ⟨_,rfl,h,v,⟨x,P.set.af g λb a e=>(P.nM b e).2 a,λy z=>(P.KB y z).af g λb a=>(P.nO b a).2.2.1,P.out.af g λb a=>(P.nA b a).2.1,λb a=>?_,λb a=>?_,P.nF,λb a=>⟨(P.nO b a).1,by have:=(P.nO b a).2.1;omega,λe=>?_,(P.nO b a).2.2.2⟩,λb a=>⟨(P.nA b a).1,λe=>?_,(P.nA b a).2.2.1,(P.nA b a).2.2.2.1,λe=>?_⟩,?_,P.cl⟩,g⟩
 ·rcases j b a with c|c
  ·exact P.nM b c
  ·exact⟨.inr oM,λe=>by have:=o b e;omega⟩
 ·rcases n b a with c|c
  ·exact P.nD b c
  ·exact⟨.inr oM,λe=>by have:=o b e;omega⟩
 ·rcases j b e with c|c
  ·exact(P.nO b a).2.2.1 c
  ·have:=(P.nO b a).2.1;omega
 ·rcases j b e with c|c
  ·exact(P.nA b a).2.1 c
  ·have:=P.out.aF b a;omega
 ·rcases n b e with c|c
  ·exact(P.nA b a).2.2.2.2 c
  ·have:=P.out.aF b a;omega
 ·exact P.af.new g λb a=>(P.nM b a).1
def DX.ready(P:DX w wp most M0 D0 E s S b oa on oc Lo w1 M Db Fs Do)(j:S.l.length<=19000000):
  ZG 191 #[XL wp,XL s] w1 (Ok λi w'=>∃c f g e,i= .slice c f g/\aU ow.ju 59 (λb=>aI c=some b) w' c f g e/\e.map (·.x)=(bz S b).1/\(∀h∈e,ow.In w' Db h)/\(∀b,aI c=some b->w1.heap.size<=b)/\
   DX w wp most M0 D0 E s S (bz S b).2 oa on oc Lo w' M Db Fs Do/\ak M w1 w'):=by
 refine(CA P.buf P.set P.cl j).mono ?_;rintro _ w2 ⟨i,rfl,c,f,g,e,rfl,k,l,m,n,o,d⟩;have r:=d.size;exact Ok.mk ⟨c,f,g,e,rfl,k,l,m,n,⟨o,P.set.af d λb a p=>(P.nM b p).2 a,λh q=>(P.KB h q).af d λb a=>(P.nO b a).2.2.1,P.out.af d λb a=>(P.nA b a).2.1,P.nM,P.nD,P.nF,λb a=>⟨(P.nO b a).1,by have:=(P.nO b a).2.1;omega,(P.nO b a).2.2⟩,P.nA,P.af.new d λb a=>(P.nM b a).1,P.cl⟩,d⟩
end
section
variable {w w' w0 w1 w2:World} {p wp most s on oc:Nat} {F E T Z M0 D0 M Db Fs Do:XN} {cls:Nat->Nat} {h:jj} {c:cH} {self:Int} {X:bQ} {S:ar} {b:List aj} {oa:ZH} {Lo:List (Bx aj)} {evs:List aj} {ea:ZH} {en ec:Nat}
def zY(most:Nat)(P:List aj)(a:aj):(eP most P a).2.length<=P.length+1:=by
 unfold eP;split
 ·show P.length<=_;omega
 ·show(cX a P).length<=_
  rw[(cV a P).length_eq];simp
def LB(L:cY w F cls p h c self X)(e4:jU c self)(hr:Row iX 96 w E ea en evs)(A:∀b,E b->b<w.heap.size/\¬F b)(m7:evs.length<=1000)(hl:X.S.l.length<=18000000):
  ZG 123 #[XL p,.slice ea en ec] w (Ok λf1 w'=>∃oa on oc Lo U o Do,f1= .slice oa on oc/\aU ow.ju 59 (λb=>aI oa=some b) w' oa on oc Lo/\Lo.map (·.x)=(iD c X evs).1/\(∀P∈Lo,ow.In w' Do P)/\
   cY w' U o p h c self {X with waits:=(iD c X evs).2}/\dy F w U w'/\(∀b,Do b->b<w'.heap.size/\aI oa≠some b/\¬(U b/\o b=2))/\(∀b,aI oa=some b->w.heap.size<=b/\¬U b)/\(iD c X evs).1.length<=evs.length+256):=by
 obtain⟨n3,n4,n8⟩:=e4.bB;have e5:=L.aF;have j0:=L.NK;obtain⟨hS,a0,hn⟩:=(show cC w h.sp (λb=>F b/\cls b=3) X.S/\X.S.Cl/\X.S.n=c.bB.toNat from L.at' 3)
 obtain⟨M0,D0,t,c1,a1⟩:=(show Ng w (λb=>F b/\cls b=5) h.wp c.buffer.toNat X.waits from L.at' 5)
 have f3:X.waits.length<=256:=Xx t.1.2.le t.1.1;have n9:=hr.len;refine lW (PC.ok (Gz (evs:=[]) L e4 (dS w (λ_=>False)) (λb d=>d.elim) bc) ?_);rintro _ w4 ⟨s,j1,rfl,j2,b1,k4⟩;have e6:dZ c X.S []=X.S:=(pf a0 hn []).trans rfl;have z4:=k4.size;have j3:(dZ c X.S []).Cl:=by rw[e6];exact a0
 have j4:(dZ c X.S []).l.length=X.S.l.length:=by rw[e6]
 have j5:DX w h.wp c.buffer.toNat M0 D0 E s (dZ c X.S []) X.waits none 0 0 [] w4 M0 D0 j1 (λ_=>False):=by
  have j6:=t.NL;have e7:=t.GC;refine⟨t.ah k4,j2,sM,(aU.nil w4).mono (λb d=>d.elim) (λb d=>(by cases d)),λb d=>⟨.inl d,λj=>by have:=j6 b d;have:=b1 b j;omega⟩,λb d=>⟨.inl d,λj=>by have:=(e7 b d).1;have:=b1 b j;omega⟩,b1,λb d=>d.elim,λb d=>(by cases d),ai.af k4,j3⟩
 have B:∀{w1:World},ak M0 w w1->w1.heap[p]? =some (.cells (h.cells c self) 88 (0,0)):=λ{w1} hk=>hk.get L.bD λl=>by
  have:=(c1 p l).2;rw[j0.2]at this;cases this
 have e8:∀b,E b->¬M0 b:=λb d l=>(A b d).2 (c1 b l).1;obtain⟨C,e9⟩:∃C,C=eN c.buffer.toNat evs (dZ c X.S []) [] X.waits:=⟨_,rfl⟩
 have r:iD c X evs=pQ (C.2.2.length+1) C.1 C.2.1 C.2.2:=by rw[e9];rfl
 refine⟨_,rfl,λH oa on oc I w'=>∃(e:Nat) (S:ar) (b:List aj) (Lo:List (Bx aj)) (M Db Fs Do:XN),I=e/\e<=en/\H=en-e/\DX w h.wp c.buffer.toNat M0 D0 E s S b oa on oc Lo w' M Db Fs Do/\eN c.buffer.toNat (evs.drop e) S (Lo.map (·.x)) b=C/\S.l.length<=X.S.l.length+Lo.length/\Lo.length<=e/\b.length<=256/\Lo.length+b.length<=X.waits.length+e,
  ⟨_,0,_,_,_,_,_,_,_,rfl,Qj _,rfl,j5,e9.symm,by simp[j4],sM,f3,sM⟩,?_⟩
 rintro H oa on oc _ _ f2 ⟨e,S,b,Lo,M,Db,Fs,Do,rfl,hj,rfl,j,u,V,g0,b3,g1⟩;have j7:=j.af.size;have j8:=j.out.len dC;refine an.dec (λj9=>?_) (λk0=>?_)
 ·obtain⟨P,i⟩:∃P,evs[e]? =some P:=⟨_,Qq oM⟩
  have a8:evs.drop e=P::evs.drop (e+1):=by
   rw[X4 oM]
   congr 1
   exact(Qv.1 i).2
  rw[a8]at u;obtain⟨gb,go,es,ha,k1,o0,d2,xa,xn,xc,rfl,d3,b4⟩:=(hr.af j.af e8).el e P i;refine⟨gb,go,ha,oM,oM,bq (es:=aD P xa xn xc) (k:=10) (aX _ _ _ _) rfl (λI ht=>by rw[Qx];exact d2 I ht) (PA.mk λo1 k2 o2 k3=>aB (aX P xa xn xc) k3 rfl λk5 k6 o4 g2=>au (aX P xa xn xc) g2 ?_)⟩;have a2:ai f2 k5:=k2.new k6 λb d=>.inr (by have d:b=f2.heap.size:=d;omega);have o5:=a2.size;have d4:∀b,E b->¬Fs b:=λb d l=>by have:=j.nF b l;have:=(A b d).1;omega
  refine PC.ok ((j.ah a2).add (d3.ah a2) (λb d=>⟨by have:=(A b d).1;omega,d4 b d⟩) b4 oM) ?_;rintro _ k7 ⟨rfl,N,J,a5,m8⟩;have o6:=a5.size;have b5:=j.set.aF;have v:=a5.get g2 λl=>by have:=b5 _ l;omega
  have g3:=S.xx P;have f4:eN c.buffer.toNat (P::evs.drop (e+1)) S (Lo.map (·.x)) b=if(S.add P).1=0 then eN c.buffer.toNat (evs.drop (e+1)) (S.add P).2 (Lo.map (·.x)++[P]) b else if(S.add P).1=16 then eN c.buffer.toNat (evs.drop (e+1)) S (Lo.map (·.x)) b else eN c.buffer.toNat (evs.drop (e+1)) S (Lo.map (·.x)) (eP c.buffer.toNat b P).2:=rfl
  rw[f4]at u;have a9:(S.add P).1≠0->(S.add P).2=S:=λW=>by
   rcases S.il P with⟨-,f⟩|⟨f,-⟩
   ·exact f
   ·rw[f]at W;exact Zz rfl W
  refine⟨_,rfl,an.eG (λq=>?_) (λq=>an.eG (λd5=>?_) (λd5=>λk8 k9=>?_))⟩
  ·rw[Zx q]at u
   have c4:(S.add P).2.l.length<=S.l.length+1:=g3;refine⟨_,_,_,_,_,_,_,_,_,_,_,_,ae v rfl,ae v rfl,ae v rfl,ae v rfl,ae v rfl,ae v rfl,ae v rfl,ae v rfl,ae v rfl,ae v rfl,PA.mk λl0 d6 o7 l3=>?_⟩;have g4:ow.In l0 E ⟨P,xa,xn,xc⟩:=⟨((d3.ah a2).af a5 λb d=>d4 b d).ah d6,b4⟩
   have g5:=J.ah d6;refine g5.push uM g4 (λb d=>⟨.inl d,by have:=(A b d).1;have:=d6.size;omega,λl=>?_,λl=>by have:=J.nF b l;have:=(A b d).1;omega,λn=>by have:=(J.nA b n).1;have:=(A b d).1;omega⟩) l3 oM λa' c' o8 O g6 m9 _=>⟨_,_,_,rfl,_,oM,e+1,_,_,_,M,Db,N,O,aq oM,oM,rfl,g6,?_,?_,?_,b3,?_⟩
   ·rcases(J.nM b l).1 with f|f
    ·exact e8 b d f
    ·have:=(A b d).1;omega
   ·rw[Q3];exact u
   ·rw[QX,List.length_singleton];omega
   ·rw[QX,List.length_singleton];omega
   ·rw[QX,List.length_singleton];omega
  ·rw[Zq q,Zx d5]at u
   rw[a9 q]at J;exact⟨_,oM,e+1,S,b,Lo,M,Db,N,Do,aq oM,oM,rfl,J,u,V,oM,b3,oM⟩
  ·rw[Zq q,Zq d5]at u
   rw[a9 q]at J;have c5:ai k7 k8:=k9.af;have c9:=J.ah c5;refine⟨p,0,rfl,_,ae (B c9.af) rfl,au (aX P xa xn xc) (c5.get v id) (PC.ok (c9.wait (((d3.ah a2).af a5 λb d=>d4 b d).ah c5) (λb d=>by have:=(A b d).1;have:=c5.size;omega) b4) ?_)⟩;rintro _ o9 ⟨I,rfl,M',b6,b7,n0⟩;have d7:=zY c.buffer.toNat b P;have g7:(eP c.buffer.toNat b P).2.length<=256:=Xx b7.buf.1.2.le b7.buf.1.1;exact⟨_,rfl,_,oM,e+1,S,_,Lo,M',b6,N,Do,aq oM,oM,rfl,b7,u,V,oM,g7,oM⟩
 have p0:e=evs.length:=oM
 rw[List.drop_eq_nil_of_le oM]at u;have d0:C=(S,Lo.map (·.x),b):=u.symm;rw[d0]at r;have b8:Lo.length+b.length<=evs.length+256:=oM
 refine⟨λH oa on oc w'=>∃(S:ar) (b:List aj) (Lo:List (Bx aj)) (M Db Fs Do:XN) (k:Nat),H=b.length/\DX w h.wp c.buffer.toNat M0 D0 E s S b oa on oc Lo w' M Db Fs Do/\b.length<=k/\pQ (k+1) S (Lo.map (·.x)) b=iD c X evs/\S.l.length<=X.S.l.length+Lo.length/\Lo.length+b.length<=evs.length+256,
  ⟨_,S,b,Lo,M,Db,Fs,Do,b.length,rfl,j,Q4 _,r.symm,V,b8⟩,?_⟩
 clear j u V g0 b3 g1 b8 j8 j7 d0 r
 rintro H oa on oc _ p1 ⟨S,b,Lo,M,Db,Fs,Do,k,rfl,j,hk,r,V,g1⟩;have p2:=j.af.size;refine⟨p,0,rfl,_,ae (B j.af) rfl,PC.ok (j.ready oM) ?_⟩;rintro _ p3 ⟨Y,n2,f5,Z,rfl,g8,d8,l4,g9,m,h2⟩;have p4:=g8.len dC;have d7:=uy S b;have h3:Z.length=(bz S b).1.length:=by rw[<-d8,Q8]
 have l5:pQ (k+1) S (Lo.map (·.x)) b=if(bz S b).1=[]then(Lo.map (·.x),(bz S b).2)else pQ k (eE (bz S b).1 S (Lo.map (·.x))).1 (eE (bz S b).1 S (Lo.map (·.x))).2 (bz S b).2:=rfl
 rw[l5]at r;have p5:=h2.size;refine⟨_,_,_,rfl,an.eG (λq=>?_) (λq=>?_)⟩
 ·have h4:(bz S b).1=[]:=QW oM
  rw[Zx h4]at r;rw[<-r];have hM:=m.buf.NL;have l6:=m.buf.GC;obtain⟨U,o,b9,a3,l7,c2,-⟩:=L.fC cu (k:=5) (G':=λb=>M b\/Db b) (C2:=mz p (h.cells c self) h c {X with waits:=(bz S b).2} X.S.l) (m.af.mono λb _ d=>c1 b d)
   (λP i=>i.elim (λf=>(m.nM P f).1.imp (c1 P) id) λf=>(m.nD P f).1.imp (a1 P) id) (λP i=>i.elim (hM P) λf=>(l6 P f).1) ⟨M,Db,m.buf,λ_ h=>.inl h,λ_ h=>.inr h⟩ λe G hj hc=>by
    rcases e with _|_|_|_|_|_|_|e<;>first|exact hc|exact Zz rfl hj
  refine Ok.mk ⟨oa,on,oc,Lo,U,o,Do,rfl,m.out,rfl,m.KB,b9,a3,λP i=>⟨(m.nO P i).2.1,λn=>(m.nA P n).2.2.2.1 i,λQ=>?_⟩,λP i=>⟨(m.nA P i).1,λQ=>?_⟩,by rw[Q8];omega⟩
  ·have d9:F P/\cls P=2:=by
    have:=congrFun (c2 2 dC) P;exact this▸Q
   rcases(m.nO P i).1 with f|f|f
   ·exact(A P f).2 d9.1
   ·have:=(a1 P f).2;rw[d9.2]at this;cases this
   ·have:=e5 P d9.1;omega
  ·rcases l7 P Q with f|f
   ·have:=e5 P f.1;have:=(m.nA P i).1;omega
   ·exact f.elim (m.nA P i).2.1 (m.nA P i).2.2.2.2
 ·have W:(bz S b).1≠[]:=λn=>by rw[n,ZQ]at h3;omega
  rw[Zq W]at r;obtain⟨k',rfl⟩:∃k',k=k'+1:=⟨k-1,by
   have:0<b.length:=by
    have:=List.length_pos_iff.2 W;omega
   omega⟩
  obtain⟨av,e0⟩:∃av,av=eE (bz S b).1 S (Lo.map (·.x)):=⟨_,rfl⟩
  rw[<-e0]at r;have h7:Lo.length+Z.length+(bz S b).2.length<=evs.length+256:=oM
  obtain⟨b2,b3⟩:∃b2,b2=(bz S b).2:=⟨_,rfl⟩
  rw[<-b3]at r m h7 d7;have e7:=m.buf.GC;obtain⟨x,hR⟩:∃x,x=(bz S b).1:=⟨_,rfl⟩
  rw[<-hR]at d8 h3 d7 e0;have f6:∀a,aI Y=some a->¬Fs a/\aI oa≠some a:=λa g=>by
   have f:=g9 a g;exact⟨λl=>by have:=j.set.aF a l;omega,λn=>by have:=j.out.aF a n;omega⟩
  have p6:∀a,aI Y=some a->¬Db a:=λa g l=>by
   have f:=g9 a g;have h6:=(j.buf.GC a l).1;omega
  refine⟨λH oa on oc I w'=>∃(e:Nat) (S:ar) (Lo:List (Bx aj)) (Fs Do:XN),I=e/\e<=n2/\H=n2-e/\DX w h.wp c.buffer.toNat M0 D0 E s S b2 oa on oc Lo w' M Db Fs Do/\eE (x.drop e) S (Lo.map (·.x))=av/\S.l.length<=X.S.l.length+Lo.length/\Lo.length+(n2-e)+b2.length<=evs.length+256/\aU ow.ju 59 (λb=>aI Y=some b) w' Y n2 f5 Z/\(∀P∈Z,ow.In w' Db P)/\∀a,aI Y=some a->¬Fs a/\aI oa≠some a,
   ⟨_,0,S,Lo,Fs,Do,rfl,Qj _,rfl,m,e0.symm,V,oM,g8,l4,f6⟩,?_⟩
  rintro H c3 f7 f8 _ _ h8 ⟨e,y,b0,l8,h9,rfl,hj,rfl,K,R,l9,b8,c4,i0,e2⟩;have p7:=K.af.size;have n1:=K.out.len dC;refine an.dec (λj9=>?_) (λk0=>?_)
  ·obtain⟨P,i⟩:∃P,Z[e]? =some P:=⟨_,Qq oM⟩
   have i1:x[e]? =some P.x:=by rw[<-d8,Q9,i];rfl
   have a8:x.drop e=P.x::x.drop (e+1):=by
    rw[X4 (Qv.1 i1).1]
    congr 1
    exact(Qv.1 i1).2
   have i2:eE (P.x::x.drop (e+1)) y (b0.map (·.x))=if(y.add P.x).1=0 then eE (x.drop (e+1)) (y.add P.x).2 (b0.map (·.x)++[P.x])else eE (x.drop (e+1)) (y.add P.x).2 (b0.map (·.x)):=rfl
   rw[a8,i2]at R;have d1:=i0 P (QZ i);obtain⟨gb,go,es,ha,k1,p8,d2,rfl,-⟩:=(c4.row (bytes:=96) dC ba).el e P i;refine⟨gb,go,ha,oM,oM,bq (es:=aD P.x P.a P.n P.c) (k:=10) (aX _ _ _ _) rfl (λI ht=>by rw[Qx];exact d2 I ht) (PA.mk λp9 m0 q0 m1=>aB (aX P.x P.a P.n P.c) m1 rfl λm2 m3 q1 i3=>au (aX P.x P.a P.n P.c) i3 ?_)⟩;have a4:ai h8 m2:=m0.new m3 λb d=>.inr (by have d:b=h8.heap.size:=d;omega);have q2:=a4.size;have m4:=K.buf.GC;have i4:=c4.aF;refine PC.ok ((K.ah a4).add (d1.af a4 λ_ _ h=>h).1 (λa g=>⟨by have:=(m4 a g).1;omega,(K.nD a g).2⟩) d1.2 oM) ?_;rintro _ m5 ⟨rfl,e3,T,a6,i5⟩;have q3:=a6.size;have b5:=K.set.aF;have z:=a6.get i3 λl=>by have:=b5 _ l;omega
   have g3:=y.xx P.x;have c6:=(c4.ah a4).af a6 λa g=>(e2 a g).1;have c7:∀a∈Z,ow.In m5 Db a:=λa g=>((i0 a g).af a4 λ_ _ h=>h).af a6 λc8 Q=>(K.nD c8 Q).2;have a7:∀a,aI Y=some a->¬e3 a/\aI c3≠some a:=λa g=>⟨λl=>(i5 a l).elim (e2 a g).1 λf=>by have:=i4 a g;omega,(e2 a g).2⟩
   refine⟨_,rfl,an.eG (λq=>?_) (λq=>?_)⟩
   ·rw[Zx q]at R
    refine⟨_,_,_,_,_,_,_,_,_,_,_,_,ae z rfl,ae z rfl,ae z rfl,ae z rfl,ae z rfl,ae z rfl,ae z rfl,ae z rfl,ae z rfl,ae z rfl,PA.mk λq4 c0 q5 m6=>?_⟩;have i6:=T.ah c0;have e1:=T.buf.GC;have q6:=c0.size;refine i6.push uM ((c7 P (QZ i)).af c0 λ_ _ h=>h) (λa g=>⟨.inr (T.nD a g).1,by have:=(e1 a g).1;omega,(e1 a g).2,(T.nD a g).2,λn=>(T.nA a n).2.2.2.2 g⟩) m6 oM λa' c' q7 O i7 f0 i8=>⟨_,_,_,rfl,_,oM,e+1,_,_,e3,O,aq oM,oM,rfl,i7,?_,?_,?_,(c6.ah c0).af f0 λa g n=>(a7 a g).2 n,λa g=>((c7 a g).af c0 λ_ _ h=>h).af f0 λc8 Q n=>(T.nA c8 n).2.2.2.2 Q,λa g=>⟨(a7 a g).1,λn=>?_⟩⟩
    ·rw[Q3];exact R
    ·rw[QX,List.length_singleton];omega
    ·rw[QX,List.length_singleton];omega
    ·rcases i8 a n with f|f
     ·exact(a7 a g).2 f
     ·have:=c6.aF a g;omega
   ·rw[Zq q]at R
    have a9:(y.add P.x).2.l.length<=y.l.length:=by
     rcases y.il P.x with⟨-,f⟩|⟨f,-⟩
     ·rw[f];exact Q4 _
     ·rw[f]at q;exact Zz rfl q
    exact⟨_,oM,e+1,_,b0,e3,h9,aq oM,oM,rfl,T,R,oM,oM,c6,c7,a7⟩
  ·rw[List.drop_eq_nil_of_le oM]at R
   have i9:av=(y,b0.map (·.x)):=R.symm;rw[i9]at r;have q8:0<x.length:=by have:=List.length_pos_iff.2 W;rw[<-hR]at this;exact this
   exact⟨b2.length,oM,y,b2,b0,M,Db,l8,h9,k',rfl,K,oM,r,l9,oM⟩
end
section
variable {w w' w0 w1 w2:World} {p:Nat} {F E Dv:XN} {cls:Nat->Nat} {h:jj} {c:cH} {self:Int} {X:bQ} {m:cG} {va ea:ZH} {vn vc en ec:Nat}
def LA(hr:cd w p F c self X)(he:Env w0 w F){V:dh}(a6:X.log=some V)(c3:Row iX 96 w E ea en m.events)(N:∀P,E P->P<w.heap.size/\¬F P)(a7:m.events.length<=1000)(hl:X.S.l.length<=18000000):
  ZG 74 #[XL p,m_ m va vn vc ea en ec] w (Ok λa5 w'=>∃O e,a5= .tuple #[O,XH (lF c self X m).2.1]/\eV w e (lF c self X m).1 O w'/\cd w' p e c self (lF c self X m).2.2/\dy F w e w'):=by
 obtain⟨g,h,cls,Q⟩:=hr;have R:=Q.aF;refine lV (PA.mk λS q s8 T=>?_);obtain⟨a,U⟩:∃a,a=iD c X m.events:=⟨_,rfl⟩
 have y:∀{z},(if a.1=[]then([xt X.S self m.bE],0,{X with waits:=a.2})else
   if(cT c {X with waits:=a.2} a.1).1≠0 then([],(cT c {X with waits:=a.2} a.1).1,{(cT c {X with waits:=a.2} a.1).2 with waits:=[]})else([xt (cT c {X with waits:=a.2} a.1).2.S self m.bE],0,(cT c {X with waits:=a.2} a.1).2))=z->lF c self X m=z:=λ{z} d=>by rw[<-d,U];rfl
 refine⟨λw'=>∃e f,cd w' p e c self f/\dy F w e w'/\(∀P,e P->F P\/S.heap.size<=P)/\w'.heap[w.heap.size]? =some (.cells (cU m va vn vc ea en ec).toArray 66 (0,0))/\lF c self X m=([xt f.S self m.bE],0,f),?_,?_⟩
 ·refine⟨_,_,_,ae T rfl,PC.ok (LB (cY.ah Q q) g (c3.ah q) (λP b=>⟨by have:=(N P b).1;omega,(N P b).2⟩) a7 hl) ?_⟩
  rw[<-U];rintro _ W ⟨Y,on,oc,Lo,A,b0,Do,rfl,B,Z,c4,b2,i,r,c5,e0⟩;have hn:=B.len dC;have c6:Lo.length=a.1.length:=by rw[<-Z,Q8]
  have b3:=ez.unbox B c4 λP b=>⟨(r P b).1,(r P b).2.1⟩
  rw[OU,Z]at b3;have b4:Row iX 96 W (λP=>aI Y=some P\/Do P) Y on a.1:=b3.row dC ba;have C:dy F w A W:=⟨(ai.af q).then i.af,λP b=>(i.new P b).imp id λh1=>oM⟩
  have H:∀P,A P->F P\/S.heap.size<=P:=i.new;have b5:=i.af.get T λd=>by have:=R _ d;omega
  have c7:=(he.ah q).Hg i;refine⟨_,_,_,rfl,an.dec (λd9=>?_) (λhz=>?_)⟩
  rotate_left
  ·have b6:a.1=[]:=QW oM
   exact⟨A,{X with waits:=a.2},⟨g,h,b0,b2⟩,C,H,b5,y (Zx b6)⟩
  have b7:a.1≠[]:=λs=>by rw[s,ZQ]at c6;omega
  refine PC.ok (Gp b2 g c7 (V:=V) a6 b4 (λP b=>b.elim (λs=>⟨B.aF P s,λd=>(c5 P s).2 d.1⟩) λd=>⟨(r P d).1,(r P d).2.2⟩) (by show X.S.l.length+_<=_;omega)) ?_;rintro _ c8 ⟨rfl,k,F2,a1,t,I,-⟩;have a0:=C.trans I;have e1:=C.af.size;refine⟨_,rfl,an.dX (λb8=>?_) (λh0=>?_)⟩
  ·obtain⟨a2,Db,b,hM,hD⟩:=(show Ng c8 (λP=>F2 P/\a1 P=5) k.wp c.buffer.toNat (cT c {X with waits:=a.2} a.1).2.waits from t.at' 5)
   refine⟨p,0,rfl,_,ae (t.at' 0).2 rfl,PC.ok (Cz b) ?_⟩;rintro _ e2 ⟨rfl,a3,c9⟩;obtain⟨F3,l,J,n,-⟩:=t.Hg cu (k:=5) (G':=a2) (C2:=mz p (k.cells c self) k c {(cT c {X with waits:=a.2} a.1).2 with waits:=[]} (cT c {X with waits:=a.2} a.1).2.S.l) ⟨c9.mono λP _ b=>hM P b,λP b=>.inl (hM P b)⟩ a3.NL ⟨a2,_,a3,λ_ h=>h,λP b=>b.elim⟩ λa4 G hj hc=>by
    rcases a4 with _|_|_|_|_|_|_|a4<;>first|exact hc|exact Zz rfl hj
   refine⟨rfl,Ok.mk ?_⟩;rw[y ((Zq b7).trans (Zx b8))];exact⟨_,F3,rfl,eV.nil _ _ _,⟨g,k,l,J⟩,a0.trans n⟩
  ·refine⟨F2,(cT c {X with waits:=a.2} a.1).2,⟨g,k,a1,t⟩,a0,λP b=>(I.new P b).elim (H P) λK=>.inr (by have:=i.af.size;omega),I.af.get b5 λd=>?_,y ((Zq b7).trans (Zq (by simpa using h0)))⟩
   rcases H _ d with K|K
   ·have:=R _ K;omega
   ·omega
 ·rintro _ d0 ⟨e,f,d1,L,e3,d2,d3⟩ b9 d4
  obtain⟨-,h',o,M⟩:=d1;have u:ai d0 b9:=d4.af;have j:=cY.ah M u;refine⟨p,0,rfl,_,ae j.bD rfl,p,0,rfl,_,ae j.bD rfl,_,ae (u.get d2 id) rfl,PC.ok (Gh (j.at' 3).1) ?_⟩;rintro _ d5 ⟨a8,n2,c2,G,rfl,c0,hG,v⟩;have c1:=c0.aF;have e4:=L.af.size;have z2:=u.size;have d6:=v.size;refine⟨_,_,_,_,_,_,_,_,_,rfl,PA.mk λd7 x e5 d8=>?_⟩;have hm:bk b9 [xt f.S self m.bE] (.slice (XM d5.heap.size) 1 1) d7:=bk.one (D:=G) d8 ⟨(c0.ah x).row dC (by show f.S.vec.length*8<=aT;rw[f.S.bd];have:f.S.n<=64:=(j.at' 3).1.1.n;unfold aT;omega),dS _ _⟩ (λP b=>⟨hG P b,by have:=c1 P b;omega,by have:=c1 P b;omega⟩) d6 (v.then x);rw[d3];exact Ok.mk ⟨_,e,rfl,hm.out j.aF oM,⟨g,h',o,cY.ah j (v.then x)⟩,((L.af.ah u).ah v).ah x,L.new⟩
end
section
variable {w w' w0 w1 w2:World} {p:Nat} {F E Dv:XN} {cls:Nat->Nat} {h:jj} {c:cH} {self:Int} {X:bQ} {m:cG} {va ea:ZH} {vn vc en ec:Nat}
def jU.IE(P:jU c self):1<=c.chunk/\c.chunk<=32:=by
 have:=P.right;unfold gV within at this;simp only[QK,Zk]at this;omega
def wq(hr:cd w p F c self X)(he:Env w0 w F)(V:Row aQ 8 w Dv va vn m.vec)(f2:∀P,Dv P->P<w.heap.size/\¬F P)(c7:Row iX 96 w E ea en m.events)(hE:∀P,E P->P<w.heap.size/\¬F P)(hl:X.S.l.length<=18000000):
  ZG 36 #[XL p,m_ m va vn vc ea en ec] w (Ok λW w'=>∃q f,W= .tuple #[q,XH (bh c self X m).2.1]/\eV w f (bh c self X m).1 q w'/\cd w' p f c self (bh c self X m).2.2/\dy F w f w'):=by
 have b0:=hr;obtain⟨x,h,cls,g⟩:=hr;have I:=g.aF;obtain⟨g0,i2,i3⟩:=x.bB;have i4:=x.IE;refine kr (PA.mk λw8 Y s8 g8=>?_);have h8:=cY.ah g Y;have no:∀{w1:World} {i:Int},ai w w1->bh c self X m=([],i,X)->Ok (λW w'=>∃q f,W= .tuple #[q,XH (bh c self X m).2.1]/\eV w f (bh c self X m).1 q w'/\cd w' p f c self (bh c self X m).2.2/\dy F w f w') (.returned (.tuple #[.slice none 0 0,XH i])) w1:=λ{w1 i} J Z=>by
  rw[Z];exact Ok.mk ⟨_,F,rfl,eV.nil _ _ _,b0.ah J,ai.af J,λP a=>.inl a⟩
 refine⟨p,0,rfl,_,ae h8.bD rfl,ig Tryz.underlying84 ⟨_,rfl,?_⟩⟩;have c8:DL w (λP=>F P/\cls P=2) h.dp h.lp X.D X.log:=g.at' 2
 cases y:X.log with
 |none=>
  obtain⟨Fd,-,-,j⟩:=c8;rw[y]at j;have j:h.lp=none:=j;rw[j];exact an.tt rfl (no Y (by unfold bh;rw[y]))
 |some a8=>
 obtain⟨a9,a0,a6,-⟩:=DL.PE (y▸c8) (he.sub λP a=>a.1) λP a=>I P a.1;have K:∀{r},(if de m c.bB.toNat c.chunk≠0 then([],de m c.bB.toNat c.chunk,X)else if m.lf≠self then([],1,X)else if m.kind=3 then lF c self X m else
   if m.kind≠4 then(fR X.S self m c.chunk,0,{X with jA:=X.jA.vK m.bE m.vec X.S.vec})else
   if X.S.missing m.vec c.chunk=[]then([],0,{X with jA:=X.jA.vK m.bE m.vec X.S.vec})else([⟨3,self,m.bE,[],X.S.missing m.vec c.chunk⟩],0,{X with jA:=X.jA.vK m.bE m.vec X.S.vec}))=r->bh c self X m=r:=λ{r} l=>by rw[<-l];unfold bh;rw[y]
 rw[a0];refine an.ff rfl λg1 c9=>?_;have L:ai w g1:=Y.then c9.af;have d0:=cY.ah g L;have d1:=(c9.af (S:=λ_=>False)).get g8 id;refine au (mf m va vn vc ea en ec) d1 ⟨p,0,rfl,_,ae d0.bD rfl,p,0,rfl,_,ae d0.bD rfl,?_⟩;rw[g0];refine PC.ok (Lt (V.ah L) (c7.ah L) oM) ?_;rintro _ i5 ⟨rfl,d2⟩;have a1:=L.then d2;have g2:=cY.ah g a1;have d3:=d2.get d1 id;refine⟨_,rfl,an.dX (λs=>no a1 (K (Zx s))) (λs=>⟨_,ae d3 rfl,p,0,rfl,_,ae g2.bD rfl,λg3 d4=>?_⟩)⟩;have k:ai w g3:=a1.then d4.af;have i6:=cY.ah g k;have b8:=(d4.af (S:=λ_=>False)).get d3 id;have b9:¬de m c.bB.toNat c.chunk≠0:=by simpa using s
 refine an.dX (λM=>no k (K ((Zq b9).trans (Zx M)))) (λM=>⟨_,ae b8 rfl,an.eG (λj=>?_) (λj=>λd5 d6=>?_)⟩)
 ·have Z:=K (((Zq b9).trans (Zq (by simpa using M))).trans (Zx j))
  have d7:m.events.length<=1000:=by
   have d:=s;unfold de at d;simp only at d;rw[Zx j]at d;split at d
   ·cases d
   ·unfold ej at d
    split at d
    ·cases d
    split at d
    ·cases d
    ·omega
  refine au (mf m va vn vc ea en ec) b8 (PC.ok (LA (b0.ah k) (he.ah k) y (c7.ah k) (λP a=>⟨by have:=(hE P a).1;have:=k.size;omega,(hE P a).2⟩) d7 hl) ?_);rintro _ i7 ⟨q,f,rfl,b1,g4,b2⟩;have g5:=b1;obtain⟨a2,n2,c2,a7,D,rfl,o2,o3,o4,o5,o6⟩:=b1;refine⟨_,_,_,_,rfl,Ok.mk ?_⟩;have f0:=k.size;rw[Z];exact⟨_,f,rfl,⟨a2,n2,c2,a7,D,rfl,o2,o3,o4,λP a=>⟨by have:=(o5 P a).1;omega,(o5 P a).2⟩,λP a=>⟨by have:=(o6 P a).1;omega,(o6 P a).2⟩⟩,g4,(ai.af k).then b2.af,λP a=>(b2.new P a).imp id λd=>oM⟩
 ·have c0:ai w d5:=k.then d6.af
  have N:=cY.ah g c0;have c1:=(d6.af (S:=λ_=>False)).get b8 id;have d8:fL d5 h.tp (λP=>F P/\cls P=6) X.jA:=N.at' 6;have fm:=(N.at' 3).1;have nS:¬(F p/\cls p=6):=λi=>by have:=i.2;rw[g.NK.2]at this;cases this
  have d9:¬(F w.heap.size/\cls w.heap.size=6):=λi=>by have:=I _ i.1;omega
  refine⟨λP=>F P/\cls P=6,p,0,rfl,nS,_,ae N.bD rfl,d9,_,ae c1 rfl,d9,_,_,_,ae c1 rfl,p,0,rfl,_,ae N.bD rfl,PC.ok (ky fm) ?_⟩;rintro _ g6 ⟨a2,n2,c2,G,rfl,e0,z,hG⟩;have hN:X.S.n<=64:=fm.1.n;have g7:Row aQ 8 g6 G a2 n2 X.S.vec:=e0.row dC (by rw[X.S.bd];unfold aT;omega);have i8:=c0.size;have i9:=z.size;have A:=c0.then z;refine⟨_,_,_,rfl,ai.af z,PC.ok (Gq (d8.ah z) ((V.ah A).rH) g7.rH λ_=>fq.2 λP a l=>?_) ?_⟩
  ·have:=hG P (e0.self P a);have:=I P l.1;omega
  rintro _ c4 ⟨G6,rfl,a3,b3⟩;obtain⟨O,e,B,b,-⟩:=(cY.ah g A).Hg cu (k:=6) (G':=G6) (C2:=mz p (h.cells c self) h c {X with jA:=X.jA.vK m.bE m.vec X.S.vec} X.S.l) b3 a3.aF a3 λa4 G hj s=>by
   rcases a4 with _|_|_|_|_|_|_|a4<;>first|exact s|exact Zz rfl hj
  have n:dy F w O c4:=⟨(ai.af A).then b.af,λP a=>(b.new P a).imp id λd=>by have:=A.size;omega⟩
  have Q:=b.af.get (z.get c1 id) λl=>by have:=I _ l;omega
  have b4:=(V.ah A).af b.af λP a=>(f2 P a).2;have j0:=n.af.size;have c5:=λ{r} l=>K (r:=r) (((Zq b9).trans (Zq (by simpa using M))).trans ((Zq j).trans l));refine⟨_,rfl,b3.af,_,ae Q rfl,an.dX (λR=>λe1 g9=>?_) (λR=>λe2 h0=>?_)⟩
  ·have C:ai c4 e1:=g9.af
   have t:=cY.ah B C;have j1:=C.size;refine⟨p,0,rfl,_,ae t.bD rfl,p,0,rfl,_,ae t.bD rfl,au (mf m va vn vc ea en ec) (C.get Q id) ⟨p,0,rfl,_,ae t.bD rfl,PC.ok (Gr (t.at' 3).1 (show X.S.l.length<=20000000 by omega) (b4.ah C)) ?_⟩⟩;rintro _ h2 c6;obtain⟨a5,S,c3,rfl⟩:=c6.sl;have b5:ai e1 h2:=by obtain⟨_,_,_,_,_,_,_,_,_,_,_,J⟩:=c6;exact J
   refine⟨_,_,_,rfl,Ok.mk ?_⟩;rw[c5 (Zx R)];exact⟨_,O,rfl,c6.out t.aF oM,⟨x,h,e,cY.ah t b5⟩,(n.af.ah C).ah b5,n.new⟩
  ·have o:ai c4 e2:=h0.af
   have H:=cY.ah B o;have j2:=o.size;refine⟨p,0,rfl,_,ae H.bD rfl,_,_,_,ae (o.get Q id) rfl,p,0,rfl,_,ae H.bD rfl,PC.ok (wA (H.at' 3).1 (by show X.S.l.length<=_;omega) (b4.ah o)) ?_⟩;rintro _ e3 ⟨a5,S,c3,G3,rfl,T,u,h6⟩;have e4:=T.len dC;have b6:=T.aF;have e5:=cY.ah H u;have j3:=u.size;have d7:(X.S.missing m.vec c.chunk).length<=32:=by
    unfold ar.missing;rw[Qy];omega
   change aU iX 59 G3 e3 a5 S c3 (X.S.missing m.vec c.chunk)at T
   refine⟨_,_,_,rfl,an.dec (λi1=>λe6 h7=>?_) (λhz=>Ok.mk ?_)⟩
   ·have e7:X.S.missing m.vec c.chunk≠[]:=λi=>by
     have b7:S=(X.S.missing m.vec c.chunk).length:=e4;rw[i,ZQ]at b7;omega
    have v:ai e3 e6:=h7.af;have e8:=cY.ah e5 v;have j4:=v.size;refine⟨p,0,rfl,_,ae e8.bD rfl,_,ae (v.get (u.get (o.get Q id) id) id) rfl,PA.mk λh9 U j5 i0=>Ok.mk ?_⟩;have hm:bk e2 [⟨3,self,m.bE,[],X.S.missing m.vec c.chunk⟩] (.slice (XM e6.heap.size) 1 1) h9:=bk.one (m:=⟨3,self,m.bE,[],X.S.missing m.vec c.chunk⟩) (va:=none) (vn:=0) (vc:=0) (D:=G3) i0 ⟨dS _ _,((T.ah v).ah U).row dC ba⟩ (λP a=>⟨h6 P a,by have:=b6 P a;omega,by have:=b6 P a;omega⟩) oM ((u.then v).then U);rw[c5 ((Zq (by simpa using R)).trans (Zq e7))];exact⟨_,O,rfl,hm.out H.aF oM,⟨x,h,e,cY.ah e8 U⟩,(((n.af.ah o).ah u).ah v).ah U,n.new⟩
   ·have e9:X.S.missing m.vec c.chunk=[]:=QW (by
     have b7:S=(X.S.missing m.vec c.chunk).length:=e4;omega)
    rw[c5 ((Zq (by simpa using R)).trans (Zx e9))];exact⟨_,O,rfl,eV.nil _ _ _,⟨x,h,e,e5⟩,(n.af.ah o).ah u,n.new⟩
end
section
variable {w w' w0 w1 w2:World} {p:Nat} {F E D:XN} {c:cH} {self:Int}
def dT(c:cH)(P:ZH)(tn a:Nat)(b:ZH)(d e:Nat):List Value:=[XH c.bB,XH c.vE,XH c.dI,XH c.chunk,XH c.buffer,XH c.my,XH c.every,XH c.start,.slice P tn a,.slice b d e]
abbrev pg(c:cH)(P:ZH)(tn a:Nat)(b:ZH)(d e:Nat):Value:=.agg (dT c P tn a b d e).toArray
def ph(c:cH)(P:ZH)(tn a:Nat)(b:ZH)(d e:Nat):iJ XP 28 (dT c P tn a b d e)=true:=kR
def ns:ZG 47 #[XH e,XH q,XH R] w (Ok λP w'=>P= .bool (within e q R)/\w=w'):=by
 refine te (an.dec (λa=>Ok.mk ⟨?_,rfl⟩) (λa=>Ok.mk ⟨?_,rfl⟩))
 ·simp[within];omega
 ·simp[within];omega
def LC{tn z A B:Nat}:ZG 24 #[pg c d tn z r A B,XH self] w (Ok λk w'=>k= .bool (gV c self)/\ai w w'):=by
 refine wO (PA.mk λw1 t I a=>?_);have J:∀{l m n:Int} {o:Bool->Prop} {u:List PanicEntry->XU},o (within l m n)->∃p v x,(Value.func (.func 47) #[] #[])= .func (.func p) v x/\enters XP p=true/\PC XP p (v++ #[XH l,XH m,XH n]++x) w1 (λC E=>∃(y:Bool),C= .bool y/\E=w1/\o y) u:=λ{l m n o u} q=>by
  refine⟨_,_,_,rfl,kR,PC.ok ns ?_⟩;rintro _ _ ⟨rfl,rfl⟩;exact⟨_,rfl,rfl,q⟩
 have no:gV c self=false->Ok (λk w'=>k= .bool (gV c self)/\ai w w') (.returned (.bool false)) w1:=λF=>Ok.mk ⟨by rw[F],t⟩;have b:gV c self=(within c.bB 1 64&&(within self 0 (c.bB-1)&&(within c.vE 64 262144&&(decide (c.dI>=1)&&(decide (c.every>=1)&&(within c.chunk 1 32&&(within c.buffer 1 256&&(within c.my 1 1048576&&decide (c.start>=0))))))))):=by
  unfold gV;simp only[Bool.and_assoc]
 refine⟨_,ae a rfl,_,_,_,rfl,kR,PC.ok ns ?_⟩;rintro _ _ ⟨rfl,rfl⟩;refine⟨_,rfl,an.mk (λP=>⟨_,ae a rfl,_,_,_,rfl,kR,PC.ok ns ?_⟩) (λP=>no (by rw[b,P];rfl))⟩;have H:IntKind.wrap .i64 (c.bB-1)=c.bB-1:=wrap_i64 (by have:=bu.1 P;unfold aP;omega);rw[H];rintro _ _ ⟨rfl,rfl⟩;refine⟨_,rfl,an.mk (λe=>⟨_,ae a rfl,_,_,_,rfl,kR,PC.ok ns ?_⟩) (λe=>no (by rw[b,P,e];rfl))⟩;rintro _ _ ⟨rfl,rfl⟩;refine⟨_,rfl,an.mk (λf=>⟨_,ae a rfl,an.mk (λg=>⟨_,ae a rfl,an.mk (λh=>⟨_,ae a rfl,_,_,_,rfl,kR,PC.ok ns ?_⟩) (λh=>no (by rw[b,P,e,f,g,h];rfl))⟩) (λg=>no (by rw[b,P,e,f,g];rfl))⟩) (λf=>no (by rw[b,P,e,f];rfl))⟩;rintro _ _ ⟨rfl,rfl⟩;refine⟨_,rfl,an.mk (λi=>⟨_,ae a rfl,_,_,_,rfl,kR,PC.ok ns ?_⟩) (λi=>no (by rw[b,P,e,f,g,h,i];rfl))⟩;rintro _ _ ⟨rfl,rfl⟩;refine⟨_,rfl,an.mk (λj=>⟨_,ae a rfl,_,_,_,rfl,kR,PC.ok ns ?_⟩) (λj=>no (by rw[b,P,e,f,g,h,i,j];rfl))⟩;rintro _ _ ⟨rfl,rfl⟩;refine⟨_,rfl,an.mk (λs=>⟨_,ae a rfl,Ok.mk ⟨by rw[b,P,e,f,g,h,i,j,s];rfl,t⟩⟩) (λs=>no (by rw[b,P,e,f,g,h,i,j,s];rfl))⟩
def NM{P a:Nat}(b:C.types[P]? =some c1)(d:a<c1.length):C.Ar (P:Int) (a:Int)=c1[a]? :=by
 have e:=(Qv.1 b).1;have c:C.at (P:Int)=c1:=by
  unfold aM.at;rw[Zx (bu.2 ⟨oM,oM⟩),Qx,QQ,b];rfl
 unfold aM.Ar;rw[c,Zx (by simp only[QK,bu];exact⟨⟨oM,oM⟩,oM,oM⟩),Qx]
end
section
variable {w w' w0 w1 w2:World} {p:Nat} {F E D:XN} {c:cH} {self:Int}
def IQ{tn tc M pc:Nat}(h:aZ w D C d tn r M)(hD:∀P,D P->P<w.heap.size):
  ZG 26 #[.agg #[.slice d tn tc,.slice r M pc]] w (Ok λc4 w'=>∃u xy a2 e v k G,c4= .agg #[.slice u xy a2,.slice e v k]/\aZ w' G C u xy e v/\(∀P,G P->w.heap.size<=P/\P<w'.heap.size)/\ai w w'):=by
 have g1:=h.aW.len;have b8:=h.aW.dK;have g2:=h.xM.len;have g3:=h.xM.dK;refine uT (PA.mk λN k4 s4 g4=>PA.mk λw5 k5 s5 g5=>⟨_,_,_,ae (k5.get g4 id) rfl,?_⟩);have x:=k4.then k5;refine xA (aU.nil (c:=tP) (e:=109) w5) HY (h.xM.ah x) (λP a=>⟨by have:=hD P a;omega,λb=>by cases b⟩) (by rw[ZQ];unfold aT at*;omega) (by rw[ZQ];unfold aT at*;unfold maxLen;omega) λe k f Fp d1 k8 k0 d2=>⟨_,_,_,rfl,PA.mk λk1 g6 k2 g7=>PS.mk g7 sM λk3 g8 k6 g9=>PS.mk g9 sM λs h0 k7 h3=>?_⟩
 rw[List.nil_append,Xz]at d1;have a9:=d1.alone;have b9:∀P,aI e=some P->w5.heap.size<=P/\P<f.heap.size:=λP a=>⟨(d2 P a).elim False.elim id,a9.aF P a⟩
 have z8:=k8.size;have y:ai w5 f:=k8.mono λP _ b=>by cases b
 have z:ai f s:=(g6.new g8 λP a=>.inr (by have a:P=f.heap.size:=a;omega)).new h0 λP a=>.inr (by have a:P=f.heap.size:=a;omega);have b0:ai w s:=(x.then y).then z;have gp:=z.get (y.get (k5.get g4 id) id) id;have gr:=z.get (y.get g5 id) id;have b1:s.heap[f.heap.size]? =some (.cells #[.slice none 0 0,.slice e (0+M) k] 25 (0,0)):=h3;rw[Xz]at b1;have k9:=z.size;refine⟨_,_,_,ae gp rfl,λA a3 w'=>∃i:Nat,a3=i/\i<=tn/\A=tn-i/\ak (·=f.heap.size) s w'/\∃O Q oc R,w'.heap[f.heap.size]? =some (.cells #[.slice O Q oc,.slice e M k] 25 (0,0))/\aU jG 111 R w' O Q oc (C.types.take i)/\∀P,R P->s.heap.size<=P,
  ⟨_,0,rfl,Qj _,rfl,ak.refl _,none,0,0,λ_=>False,b1,aU.nil _,λ_ h=>h.elim⟩,?_⟩
 rintro A _ _ S ⟨i,rfl,hj,rfl,t,O,Q,oc,R,T,m,B⟩;have U:ai w S:=b0.new t λP a=>.inr (by have a:P=f.heap.size:=a;have:=x.size;have:=y.size;omega);have zk:=t.size;have b2:=t.get gp λb=>by have b:w.heap.size=f.heap.size:=b;have:=k4.size;omega
 refine an.dec (λl0=>?_) (λl3=>?_)
 ·have h4:i<C.types.length:=oM
  have V:C.types[i]? =some C.types[i]:=Qq h4;generalize C.types[i]=n at V;obtain⟨P,d5,es,ha,a,l4,d6,fa,fn,fc,rfl,W⟩:=(h.aW.ah U).el i n V;have c0:=d6 0 dC;have h6:jG.k=1:=rfl;rw[h6,Nat.mul_one]at c0;have h7:=W.len;have c2:=W.dK;refine⟨P,d5,ha,oM,oM,fa,fn,fc,by rw[Qx];exact c0,PA.mk λl5 h8 l6 h9=>PS.mk h9 sM λj i0 l7 i1=>PA.mk λl8 d3 l9 i2=>PS.mk i2 sM λE d4 m0 i3=>?_⟩;have p:ai S E:=((h8.new i0 λP a=>.inr (by have a:P=S.heap.size:=a;omega)).then d3).new d4 λP a=>.inr (by have a:P=j.heap.size:=a;omega);have d7:=d4.get (d3.get i1 id) oM;have e3:=p.get b2 id;have m1:=p.size;have e4:=U.then p;refine⟨_,_,_,ae d7 rfl,λA a3 w'=>∃g:Nat,a3=g/\g<=fn/\A=fn-g/\ak (·=j.heap.size) E w'/\∃F H X Y,w'.heap[j.heap.size]? =some (.cells #[.slice F H X] 111 (0,0))/\aU nV 104 Y w' F H X (n.take g)/\∀P,Y P->E.heap.size<=P,
   ⟨_,0,rfl,Qj _,rfl,ak.refl _,none,0,0,λ_=>False,i3,aU.nil _,λ_ h=>h.elim⟩,?_⟩
  rintro A _ _ d8 ⟨g,rfl,hk,rfl,q,F,H,X,Y,gx,o,I⟩;have zx:=q.size;have b3:ai w d8:=e4.new q λP a=>.inr (by have a:P=j.heap.size:=a;have:=U.size;omega);have b4:=q.get e3 λb=>by have b:w.heap.size=j.heap.size:=b;have:=az b2;omega
  refine an.dec (λj8=>?_) (λj9=>?_)
  ·have d9:g<n.length:=oM
   have J:n[g]? =some n[g]:=Qq d9;have a4:=NM V d9;rw[J]at a4;obtain⟨fb,fo,e6,-,-,-,-,ya,yn,yc,rfl,-,b5⟩:=(W.ah p).el g n[g] J;generalize n[g]=K at J a4 b5;refine⟨_,_,_,_,_,_,ae b4 rfl,ae b4 rfl,PC.ok (nu (h.ah b3) λP a=>by have:=hD P a;have:=b3.size;omega) ?_⟩;rw[a4];rintro _ e0 ⟨e1,Z,a0,cc,Fm,rfl,c3,e2⟩;have e8:=c3.aF;have m2:=e1.size;refine bS (Gs K Z a0 cc) ⟨_,rfl,PA.mk λm3 i4 m4 i5=>aB (eL K Z a0 cc) i5 rfl λi6 i7 m5 a7=>?_⟩;have a5:ai e0 i6:=i4.new i7 λP a=>.inr (by have a:P=e0.heap.size:=a;omega);have b6:=e1.then a5;have e9:=b6.get gx id;refine⟨_,_,_,ae e9 rfl,_,_,_,_,_,_,ae a7 rfl,ae a7 rfl,ae a7 rfl,ae a7 rfl,PA.mk λi8 e5 m6 i9=>?_⟩;have a1:=b6.then e5;have f0:=(c3.ah a5).ah e5;have m7:=c3.len dC;have a8:Row fy 32 i8 Fm Z a0 K.bl:=f0.row dC (by
    obtain⟨_,_,_,_,_,_,_,_,_,_,hq,a8,_⟩:=(W.ah p).el g K J;have h1:=a8.dK;have h2:=a8.len;rw[<-h2];exact h1)
   refine d_ (c:=nV) (x:=K) (o.ah a1) MK i9 (D:=Fm) ⟨Z,a0,cc,rfl,a8,b5⟩ (λP a=>⟨by have:=e8 P a;have:=a5.size;omega,λb=>by have:=o.aF P (o.self P b);have:=e2 P a;omega⟩) (by rw[Qy];unfold aT at*;omega) (by rw[Qy];unfold aT at c2;unfold maxLen;omega) λa' c' m8 L f1 c5 c6=>⟨_,_,_,rfl,?_⟩
   have j0:¬aI F=some j.heap.size:=λb=>by have:=I _ (o.self _ b);omega
   have m9:=a1.size;have n0:=c5.size;have c:∀P,L P->E.heap.size<=P:=λP a=>by
    rcases c6 P a with l|l|l
    ·exact I P l
    ·have:=e2 P l;omega
    ·omega
   refine PS.mk (c5.get (a1.get gx id) j0) sM λn1 e7 n2 j1=>⟨_,oM,g+1,aq (by unfold aT at c2;omega),oM,rfl,((q.ah a1).new c5 λP a=>.inr (I P (o.self P a))).then e7,a',H+1,c',L,j1,?_,c⟩
   rw[Qw,J];exact f1.af e7 λP a b=>by have b:P=j.heap.size:=b;have:=c P a;omega
  ·rw[Qz oM]at o
   have j2:ak (·=j.heap.size) E d8:=q;have b7:=q.get (p.get T id) λb=>by have b:f.heap.size=j.heap.size:=b;have:=az T;omega
   refine⟨_,_,_,ae b7 rfl,_,_,_,ae gx rfl,PA.mk λj3 c7 n3 j4=>?_⟩;have a6:ai S j3:=(p.new q λP a=>.inr (by have a:P=j.heap.size:=a;omega)).then c7;refine d_ (c:=jG) (x:=n) (m.ah a6) Ju j4 (D:=Y) ⟨F,H,X,rfl,(o.ah c7).row dC (by rw[<-h7];exact c2)⟩ (λP a=>⟨by have:=o.aF P a;omega,λb=>by have:=m.aF P (m.self P b);have:=I P a;omega⟩) (by rw[Qy];unfold aT at*;omega) (by rw[Qy];unfold aT at b8;unfold maxLen;omega) λa' c' n4 L f2 c8 c6=>⟨_,_,_,rfl,?_⟩
   have j5:¬aI O=some f.heap.size:=λb=>by have:=B _ (m.self _ b);omega
   have n8:=a6.size;have n9:=c8.size;have c:∀P,L P->s.heap.size<=P:=λP a=>by
    rcases c6 P a with l|l|l
    ·exact B P l
    ·have:=I P l;omega
    ·omega
   refine PS.mk (c8.get (c7.get b7 id) j5) sM λo0 c1 o1 j6=>⟨_,oM,i+1,aq (by unfold aT at b8;omega),oM,rfl,((t.ah a6).new c8 λP a=>.inr (B P (m.self P a))).then c1,a',Q+1,c',L,j6,?_,c⟩
   rw[Qw,V];exact f2.af c1 λP a b=>by have b:P=f.heap.size:=b;have:=c P a;omega
 ·rw[Qz oM]at m
  have z5:=y.size;have f3:=t.get gr λb=>by have b:N.heap.size=f.heap.size:=b;omega
  have f4:=((a9.ah z).af t λP a b=>by have b:P=f.heap.size:=b;have:=b9 P a;omega)
  refine⟨_,_,_,_,_,_,ae T rfl,ae T rfl,PS.mk f3 sM λo2 c9 o4 j7=>PS.mk j7 sM λo5 d0 o6 g0=>⟨_,_,_,_,_,_,ae g0 rfl,ae g0 rfl,Ok.mk ⟨_,_,_,_,_,_,λP=>R P\/aI e=some P,rfl,⟨?_,?_⟩,?_,?_⟩⟩⟩
  ·exact(((m.row (bytes:=24) dC (by rw[<-g1];exact b8)).af (c9.then d0) λP a b=>by have b:P=N.heap.size:=b;have:=B P a;omega)).mono λP a=>.inl a
  ·exact(((f4.row (bytes:=40) dC (by rw[<-g2];exact g3)).af (c9.then d0) λP a b=>by have b:P=N.heap.size:=b;have:=b9 P a;omega)).mono λP a=>.inr a
  ·rintro P (a|a)
   ·have:=B P a;have:=m.aF P a;have:=x.size;have:=b0.size;omega
   ·have:=b9 P a;have:=x.size;omega
  ·exact U.new (c9.then d0) λP a=>.inr (by have a:P=N.heap.size:=a;have:=k4.size;omega)
end
section
variable {w w':World} {D D' S:XN} {d:aM} {ta pa:ZH} {tn tc pn pc:Nat}
def rr(P:bg):Bool:=if P.kind==4 then !within P.bl.length 1 16 else decide (0<P.bl.length)
def Aa(P:List bg):Bool:=!within P.length 1 8||P.any rr
def GN{P:j->Bool}{b:List j}{c:j}(d:b[a]? =some c)(e:(b.take a).any P=false)(f:P c=false):(b.take (a+1)).any P=false:=by
 rw[Qw,d,List.any_append,e];simp[f]
def Jg{b:j->Bool}{c:List j}{P:j}(d:c[a]? =some P)(e:b P=true):c.any b=true:=List.any_eq_true.2 ⟨P,QZ d,e⟩
def fk{f:Type}{g:f->Int}:∀{a:List f} {b:Nat} {c:f},a[b]? =some c->cg g (a.take b)=0->cg g (a.take (b+1))=g c
 |[],b,c,P,_=>by simp at P
 |y::a,0,c,P,_=>by simp at P;subst P;simp[cg];intro P;exact P.symm
 |y::a,b+1,c,P,d=>by
  simp only[Zw,cg]at d⊢;split at d
  ·rename_i e;simp at e;exact Zz d e
  ·rename_i e;rw[Zq e];exact fk (by simpa using P) d
def ny{b:Type}{a:b->Int}:∀{l:List b} {j:Nat},cg a (l.take j)≠0->cg a l=cg a (l.take j)
 |[],j,P=>by simp at P⊢
 |y::l,0,P=>by simp[cg]at P
 |y::l,j+1,P=>by
  simp only[Zw,cg]at P⊢;split
  ·rfl
  ·rename_i c;rw[Zq c]at P;exact ny P
def GO(c:aZ w D d ta tn pa pn):ZG 44 #[.agg #[.slice ta tn tc,.slice pa pn pc]] w (Ok λe w'=>e= .bool (pO d)/\ai w w'):=by
 have r:=c.aW.len;have s:=c.aW.dK;have hp:=c.xM.len;unfold aT at s;refine AH (PA.mk λY t s1 u=>⟨_,_,_,ae u rfl,PC.ok bY ?_⟩);rintro _ _ ⟨rfl,rfl⟩;refine⟨_,rfl,an.not (an.mk (λh=>⟨_,_,_,ae u rfl,an.dec (λZ=>Ok.mk ⟨?_,t⟩) (λZ=>⟨_,_,_,ae u rfl,λj k w'=>∃a:Nat,k=a/\a<=tn/\j=tn-a/\(d.types.take a).any Aa=false/\ai Y w',⟨_,0,rfl,Qj _,rfl,sM,ak.refl _⟩,?_⟩)⟩) (λh=>Ok.mk ⟨?_,t⟩))⟩
 ·unfold pO;rw[<-r,h,Zx bc]
 rotate_left
 ·unfold pO;rw[<-r,h];rfl
 have v:pO d=d.types.any Aa:=by unfold pO Aa rr;rw[<-r,h,Zq bc]
 rintro j k _ w2 ⟨a,rfl,hj,rfl,x,K⟩;have l:=t.then K;refine an.dec (λa8=>?_) (λa9=>?_)
 rotate_left
 ·rw[Qz oM]at x
  exact Ok.mk ⟨by rw[v,x],l⟩
 obtain⟨y,z,A,es,rfl,_,_,B,f,a2,g,c1,rfl,C⟩:=((c.ah l).aW).uH (i:=a) oM;have L:=C.len;have a0:=C.dK;unfold aT at a0;have M:=f 0 dC;simp only[jG,Nat.mul_one,Nat.add_zero]at M;refine⟨y,z,rfl,oM,oM,_,_,_,M,PA.mk λw3 k3 s3 g3=>PS.mk g3 sM λm k4 s4 N=>⟨_,_,_,ae N rfl,PC.ok bY ?_⟩⟩;rintro _ _ ⟨rfl,rfl⟩;have n:ai w2 m:=k3.new k4 λy s=>.inr oM;have E:Aa A=true->Ok (λe w'=>e= .bool (pO d)/\ai w w') (.returned (.bool true)) m:=λP=>Ok.mk ⟨by rw[v,Jg B P],l.then n⟩;refine⟨_,rfl,an.not (an.mk (λF=>⟨_,_,_,ae N rfl,λj k w'=>∃i:Nat,k=i/\i<=g/\j=g-i/\(A.take i).any rr=false/\ai m w',⟨_,0,rfl,Qj _,rfl,sM,ak.refl _⟩,?_⟩) (λF=>E (by unfold Aa;rw[<-L,F];rfl)))⟩;rintro m' t' _ w5 ⟨i,rfl,hi,rfl,H,o⟩;have a3:=(l.then n).then o;refine an.dec (λa6=>?_) (λa7=>?_)
 rotate_left
 ·rw[Qz oM]at H
  exact⟨_,oM,a+1,aq oM,oM,rfl,GN B x (by unfold Aa;rw[<-L,F,H];rfl),(K.then n).then o⟩
 obtain⟨b2,a1,p,b0,rfl,_,_,O,a4,Q,R,S,rfl,T,b1,b3⟩:=((C.ah n).ah o).uH (i:=i) oM;have U:=T.len;have a5:=T.dK;unfold aT at a5;refine⟨b2,a1,rfl,oM,oM,bq (eL p Q R S) rfl a4 (PA.mk λw6 k6 s6 g6=>aB (eL p Q R S) g6 rfl λI k7 s7 J=>⟨_,ae J rfl,?_⟩)⟩;have V:ai w5 I:=k6.new k7 λy s=>.inr oM;have W:rr p=true->Ok (λe w'=>e= .bool (pO d)/\ai w w') (.returned (.bool true)) I:=λP=>Ok.mk ⟨by rw[v,Jg B (by unfold Aa;rw[Jg O P];simp)],a3.then V⟩;have next:rr p=false->∃X,X<g-i/\∃q:Nat,IntKind.wrap .i64 ((i:Int)+1)=q/\q<=g/\X=g-q/\(A.take q).any rr=false/\ai m I:=λP=>
  ⟨_,oM,i+1,aq oM,oM,rfl,GN O H P,o.then V⟩
 refine an.eG (λb=>⟨_,_,_,ae J rfl,PC.ok bY ?_⟩) (λb=>an.not (an.eG (λf=>Zz f b) (λ_=>⟨_,_,_,ae J rfl,an.dec (λc=>W ?_) (λc=>next ?_)⟩)))
 ·rintro _ _ ⟨rfl,rfl⟩
  refine⟨_,rfl,an.not (an.mk (λP=>an.not (an.eG (λ_=>next ?_) (λf=>Zz b f))) (λP=>W ?_))⟩
  ·unfold rr;rw[b,<-U,P];rfl
  ·unfold rr;rw[b,<-U,P];rfl
 ·unfold rr;rw[Zq (by simpa using b)];simp only[Zk];omega
 ·unfold rr;rw[Zq (by simpa using b)];simp only[decide_eq_false_iff_not];omega
def DT(hT:eu w)(g:aZ w D d ta tn pa pn)(hD:∀a,D a->a<w.heap.size):
  ZG 23 #[.agg #[.slice ta tn tc,.slice pa pn pc]] w (Ok λB w'=>B= XH (cJ d)/\ai w w'):=by
 have hl:=g.aW.len;have f:=g.aW.dK;have b1:=g.xM.len;have a6:=g.xM.dK;unfold aT at f a6;refine yl (PA.mk λw1 U s1 C=>⟨_,_,_,_,_,_,ae C rfl,ae C rfl,PC.ok (GO (g.ah U)) ?_⟩);rintro _ w2 ⟨rfl,V⟩;have W:=U.then V;have X:=V.get C id;refine⟨_,rfl,an.mk (λt=>Ok.mk ⟨by unfold cJ;rw[t];rfl,W⟩) (λt=>⟨_,_,_,ae X rfl,λk b w'=>∃P:Nat,b=P/\P<=tn/\k=tn-P/\cg (λb=>cg (eS b) b) (d.types.take P)=0/\ai w2 w',⟨_,0,rfl,Qj _,rfl,rfl,ak.refl _⟩,?_⟩)⟩;rintro k b _ Y ⟨P,rfl,hj,rfl,u,E⟩;have v:=W.then E;have Z:=E.get X id;have F:∀{w':World},ai w w'->∀P c,d.types[P]? =some c->cg (λb=>cg (eS b) b) (d.types.take P)=0->∀x:Int,cg (eS c) c=x->x≠0->Ok (λB w'=>B= XH (cJ d)/\ai w w') (.returned (XH x)) w':=by
  intro w' a2 P c y h0 x hr j;have l:=fk y h0;rw[hr]at l;have h2:=ny (l:=d.types) (j:=P+1) (by rw[l];exact j);refine Ok.mk ⟨?_,a2⟩;unfold cJ;rw[t,h2,l];simp[j]
 refine an.dec (λb2=>?_) (λb3=>⟨_,_,_,ae Z rfl,λk b w'=>∃i:Nat,b=i/\i<=pn/\k=pn-i/\cg (k_ d) (d.projs.take i)=0/\ai Y w',⟨_,0,rfl,Qj _,rfl,rfl,ak.refl _⟩,?_⟩)
 ·obtain⟨a,H,I,es,rfl,_,_,y,hc,b4,n1,c1,rfl,z⟩:=((g.ah v).aW).uH (i:=P) oM
  have b5:=z.len;have a7:=z.dK;unfold aT at a7;have a0:=hc 0 dC;simp only[jG,Nat.mul_one,Nat.add_zero]at a0;refine⟨a,H,rfl,oM,oM,_,_,_,a0,PA.mk λw4 o s4 g4=>PS.mk g4 sM λJ K s5 A=>⟨_,_,_,ae A rfl,λk b w'=>∃i:Nat,b=i/\i<=n1/\k=n1-i/\cg (eS I) (I.take i)=0/\ai J w',⟨_,0,rfl,Qj _,rfl,rfl,ak.refl _⟩,?_⟩⟩;have a8:ai Y J:=o.new K λa f=>.inr oM;rintro m' t' _ L ⟨i,rfl,hi,rfl,e,m⟩;have p:=a8.then m;refine an.dec (λa3=>?_) (λa9=>?_)
  ·obtain⟨M,N,c,b0,rfl,_,_,n,O,Q,R,S,rfl,hM,b6,b7⟩:=(z.ah p).uH (i:=i) oM
   refine⟨M,N,rfl,oM,oM,bq (eL c Q R S) rfl O (PA.mk λw7 h s7 g7=>aB (eL c Q R S) g7 rfl λw8 q s8 g8=>⟨_,_,_,ae (q.get (h.get (m.get A id) id) (by have:=m.size;omega)) rfl,au (eL c Q R S) g8 (PC.ok (Ed (hT.ah ?_) (z.ah ?_) (hM.ah ?_)) ?_)⟩)⟩
   ·exact(v.then p).then (h.new q λa f=>.inr oM)
   ·exact p.then (h.new q λa f=>.inr oM)
   ·exact h.new q λa f=>.inr oM
   ·rintro _ w9 ⟨rfl,k9⟩
    have a4:ai L w9:=ak.then (h.new q λa f=>.inr oM) k9;refine⟨_,rfl,an.dX (λj=>?_) (λT=>⟨_,oM,i+1,aq oM,oM,rfl,by rw[fk n e];exact T,m.then a4⟩)⟩;have l:=fk n e;exact F ((v.then p).then a4) P I y u _ (by rw[ny (j:=i+1) (by rw[l];exact j),l]) j
  ·rw[Qz oM]at e
   refine⟨_,oM,P+1,aq oM,oM,rfl,by rw[fk y u];exact e,E.then p⟩
 ·rw[Qz oM]at u
  rintro m' t' _ w4 ⟨i,rfl,hi,rfl,e,o⟩;have r:=v.then o;have a1:cJ d=cg (k_ d) d.projs:=by unfold cJ;rw[t,u];simp
  refine an.dec (λa3=>?_) (λa9=>?_)
  ·obtain⟨M,N,c,b0,rfl,_,_,n,O,rfl,_⟩:=((g.ah r).xM).uH (i:=i) oM
   refine⟨M,N,rfl,oM,oM,bq (oy c) rfl O (PA.mk λJ K s5 A=>aB (oy c) A rfl λL m s6 g6=>?_)⟩;have s:ai w4 L:=K.new m λa f=>.inr oM;have a5:=s.get (o.get Z id) id;refine⟨_,_,_,_,_,_,ae a5 rfl,ae a5 rfl,au (oy c) g6 (PC.ok (Ee (g.ah (r.then s)) λa f=>by have:=hD a f;have:=(r.then s).size;omega) ?_)⟩;rintro _ w7 ⟨rfl,h⟩;refine⟨_,rfl,an.dX (λj=>Ok.mk ⟨?_,(r.then s).then h⟩) (λT=>⟨_,oM,i+1,aq oM,oM,rfl,by rw[fk n e];exact T,(o.then s).then h⟩)⟩;rw[a1,ny (j:=i+1) (by rw[fk n e];exact j),fk n e]
  ·rw[Qz oM]at e
   exact Ok.mk ⟨by rw[a1,e],r⟩
end
def bT(P:cH)(a:Int):Int×bQ:=
 if cJ P.decl≠0 then(cJ P.decl,(zR P).2)else if gV P a=false then(1,(zR P).2)else zR P
def IS(b:World)(a:cH)(P:Int)(c:Value)(d:World):Prop:=ai b d/\
 (((bT a P).1≠0/\c= .tuple #[.pointer none,XH (bT a P).1])\/
  ((bT a P).1=0/\∃e f,c= .tuple #[XL e,XH 0]/\cd d e f a P (bT a P).2/\(∀g,f g->b.heap.size<=g)/\(bT a P).2.S.l.length<=16777216))
section
variable {w w' w0 w1 w2:World} {p:Nat} {F E D:XN} {c:cH} {self:Int}
def DS(hT:eu w0)(hL:Laid w0)(A:ai w0 w){tn Q B R:Nat}(hd:aZ w D c.decl d tn r B)(hD:∀P,D P->P<w.heap.size)(hs:aP c.dI)(d3:aP c.every)(d4:aP c.start):
  ZG 8 #[pg c d tn Q r B R,XH self] w (Ok (IS w c self)):=by
 refine AE (PA.mk λg1 C g2 E=>⟨_,_,_,_,_,_,ae E rfl,ae E rfl,PC.ok (DT (hT.ah (A.then C)) (hd.ah C) λP a=>by have:=hD P a;omega) ?_⟩);rintro _ d5 ⟨rfl,b8⟩;have a3:=C.then b8;have b9:d5.heap[w.heap.size]? =some (.cells (dT c d tn Q r B R).toArray 28 (0,0)):=b8.get E id;refine⟨_,rfl,an.dX (λl=>Ok.mk ⟨a3,.inl ?_⟩) (λS=>au (ph c d tn Q r B R) b9 (PC.ok LC ?_))⟩
 ·have:bT c self=(cJ c.decl,(zR c).2):=by unfold bT;rw[Zx l]
  rw[this];exact⟨l,rfl⟩
 rintro _ T ⟨rfl,c0⟩;have F:=a3.then c0;have U:=c0.get b9 id;refine⟨_,rfl,an.not (an.mk (λm=>?_) (λm=>Ok.mk ⟨F,.inl ?_⟩))⟩
 rotate_left
 ·have:bT c self=(1,(zR c).2):=by unfold bT;rw[Zq (by simpa using S),Zx m]
  rw[this];exact⟨show(1:Int)≠0 by decide,rfl⟩
 have a4:bT c self=zR c:=by unfold bT;rw[Zq (by simpa using S),Zq (by rw[m];simp)]
 have c1:jU c self:=⟨m,S,hs,d3,d4⟩
 have c2:=m;unfold gV within at c2;simp only[QK,Zk]at c2;refine⟨_,ae U rfl,PC.ok (rC (A.then F) oM oM) ?_⟩;rintro _ c3 ⟨dp,rfl,d6,V⟩;obtain⟨Fd,c4,-,d7,-⟩:=d6;have H:∀P,Fd P->T.heap.size<=P/\P<c3.heap.size:=λP a=>⟨Nat.le_of_not_lt (d7 P a).2,c4.aF P a⟩
 have W:=F.then V;have X:=V.get U id;refine⟨_,_,rfl,an.dX (λl=>Zz rfl l) (λ_=>⟨_,_,_,_,_,_,ae X rfl,ae X rfl,PC.ok (IQ (hd.ah W) λP a=>by have:=hD P a;have:=W.size;omega) ?_⟩)⟩;rintro _ c5 ⟨n,xy,o,p,q,s,I,rfl,d8,J,K⟩;have c6:=W.then K;have d9:=K.get X id;have g3:=C.size;have g4:=F.size;have g5:=V.size;have g6:=K.size;have g7:=az E;have e8:w.heap.size<T.heap.size:=az U;refine⟨_,_,_,_,_,_,rfl,PS.mk d9 (by simp[dT]) λg8 e0 g9 e1=>PS.mk e1 (by simp[dT]) λY e2 h2 e3=>λt c7=>?_⟩;have Z:ak (λP=>P=w.heap.size) c5 Y:=e0.then e2;have L:ai Y t:=c7.af;have h3:t.heap.size=Y.heap.size:=by rw[c7.heap]
 have e:t.heap[w.heap.size]? =some (.cells (dT c n xy o p q s).toArray 28 (0,0)):=L.get e3 id;have c8:ai w t:=(c6.new Z λP a=>.inr (by have a:P=w.heap.size:=a;omega)).then L;have h:∀{P:Nat},T.heap.size<=P->P≠w.heap.size:=λ{P} a=>by omega
 refine⟨λ_=>False,id,_,_,_,_,_,_,_,_,_,_,_,_,_,_,ae e rfl,ae e rfl,ae e rfl,ae e rfl,ae e rfl,ae e rfl,ae e rfl,ae e rfl,ae e rfl,ae e rfl,_,ae e rfl,id,_,ae e rfl,PC.ok (Hq oM) ?_⟩;rintro _ e4 ⟨i,rfl,c9,e9,f2,b4⟩;refine⟨_,rfl,b4,PC.ok Gt ?_⟩;rintro _ g ⟨tp,M,rfl,a5,N,d0⟩;have h4:=b4.size;have h7:=N.size;have d1:=a5.aF;refine⟨_,rfl,N,PA.mk λb5 O h8 e5=>⟨O,?_⟩⟩
 let f:jj:=⟨n,xy,o,p,q,s,dp,none,0,0,i,tp⟩
 let a2:bQ:=⟨⟨c.bB.toNat,[]⟩,ei c.vE.toNat,none,[],⟨c.my,[],[]⟩⟩
 have d2:b5.heap[g.heap.size]? =some (.cells (Gu f c self none none none) 88 (0,0)):=e5;have a0:ai t b5:=(b4.then N).then O;have a1:=c8.then a0;have b6:∃u,bL b5 (λP=>∃k,(match k with|0=>P=g.heap.size|1=>I P|2=>Fd P|5=>P=i|6=>M P|_=>False:Prop)) u (recC g.heap.size (Gu f c self none none none) f c a2 false):=by
  refine bL.join (G:=λk P=>match k with|0=>P=g.heap.size|1=>I P|2=>Fd P|5=>P=i|6=>M P|_=>False) (λk=>?_) (λj a9 P b hj=>?_) λk P a=>?_
  ·match k with
   |0=>exact⟨rfl,d2⟩
   |1=>exact(((d8.af Z λP a v=>h (by have:=J P a;omega) v).ah L).ah a0)
   |2=>exact⟨Fd,((((c4.af K λ_ _ f=>f).af Z λP a v=>h (H P a).1 v).af L λ_ _ f=>f).af a0 λ_ _ f=>f),λP a=>a,rfl⟩
   |3=>intro v;cases v
   |4=>trivial
   |5=>exact⟨_,_,c9.ah (N.then O),λ_ f=>f,λP a=>a.elim⟩
   |6=>exact a5.ah O
   |k+7=>trivial
  ·have x:∀j:Nat,(match j with|0=>P=g.heap.size|1=>I P|2=>Fd P|5=>P=i|6=>M P|_=>False:Prop)->j=(if P<c3.heap.size then 2 else if P<c5.heap.size then 1 else if P<e4.heap.size then 5 else if P<g.heap.size then 6 else 0):=λj b=>by
    rcases j with _|_|_|_|_|_|_|j
    ·have b:P=g.heap.size:=b
     rw[Zq oM,Zq oM,Zq oM,Zq oM]
    ·have:=J P b;rw[Zq oM,Zx oM]
    ·have:=H P b;rw[Zx oM]
    ·exact b.elim
    ·exact b.elim
    ·have b:P=i:=b
     rw[Zq oM,Zq oM,Zx oM]
    ·have h5:=d0 P b;have h6:=d1 P b;rw[Zq oM,Zq oM,Zq oM,Zx oM]
    ·exact b.elim
   rw[x j b,<-x a9 hj]
  ·rcases k with _|_|_|_|_|_|_|k
   ·have a:P=g.heap.size:=a
    omega
   ·have:=J P a;omega
   ·have:=H P a;omega
   ·exact a.elim
   ·exact a.elim
   ·have a:P=i:=a
    omega
   ·have:=d1 P a;omega
   ·exact a.elim
 obtain⟨u,hp⟩:=b6;have b7:∀P,(∃k,(match k with|0=>P=g.heap.size|1=>I P|2=>Fd P|5=>P=i|6=>M P|_=>False:Prop))->w.heap.size<=P:=λP ⟨k,a⟩=>by
  rcases k with _|_|_|_|_|_|_|k
  ·have a:P=g.heap.size:=a
   omega
  ·have:=J P a;omega
  ·have:=H P a;omega
  ·exact a.elim
  ·exact a.elim
  ·have a:P=i:=a
   omega
  ·have:=d0 P a;omega
  ·exact a.elim
 refine PC.ok (Gv (h:=f) (z1:=none) (z2:=none) (z3:=none) hp c1 ⟨hT,hL,A.then a1,λP a=>by have:=b7 P a;have:=A.size;omega⟩) ?_;rintro _ e6 ⟨rfl,a6,h',F',y,z,a7⟩;have e7:kf c a2=zR c:=rfl;rw[e7]at z a6⊢;have a8:ai w e6:=a1.new a7.af λP a=>.inr (b7 P a);refine⟨_,rfl,an.dX (λl=>Ok.mk ⟨a8,.inl ?_⟩) (λhz=>Ok.mk ⟨a8,.inr ?_⟩)⟩
 ·rw[a4];exact⟨l,rfl⟩
 ·rw[a4]
  exact⟨hz,_,F',rfl,⟨c1,h',y,z⟩,λP a=>(a7.new P a).elim (b7 P) λh5=>by have:=a1.size;omega,a6⟩
end
def IT(P:World):(callMethod (.iface 86 (XL a)) "State" #[XH e,XH q]).run XP P= .ok (.enter 344 #[XL a,XH e,XH q]) P:=kR
def DU(P:World):(callMethod (.iface 86 (XL a)) "Entries" #[]).run XP P= .ok (.enter 342 #[XL a]) P:=kR
def LD(P:World):(callMethod (.iface 86 (XL a)) "Rows" #[XH e]).run XP P= .ok (.enter 343 #[XL a,XH e]) P:=kR
def Bc(P:aM)(a:List aj)(b c:Int):sq:=match(b_ P a).state b c with
 |none=>nI 14
 |some d=>⟨0,(0,0),d,[],[],false⟩
def vz(b:aM)(c:List aj)(a P:Int):sq:=if a<0\/a>=(b.projs.length:Int)then nI 1 else⟨0,(0,0),⟨0,[]⟩,[],(mu (gZ b c a) P 32).1,(mu (gZ b c a) P 32).2⟩
section
variable {w w' w0 w1 w2:World} {p:Nat} {F E D:XN} {cls:Nat->Nat} {h:jj} {c:cH} {self:Int} {X:bQ}
def zS(P:cY w F cls p h c self X):ZG 43 #[XL p] w (Ok λa w'=>a= .iface 86 (XL h.bp)/\w=w'):=
 mO ⟨p,0,rfl,_,ae P.bD rfl,Ok.mk ⟨rfl,rfl⟩⟩
def xC(x:cd w p F c self X):ZG 22 #[XL p,XH e,XH q] w (Ok λy w'=>ic w (Bc c.decl X.S.l e q) y w'/\ai w w'):=by
 obtain⟨z,h,cls,n⟩:=x;refine nZ (PA.mk λA d S B=>PC.ok (zS (cY.ah n d)) ?_);rintro _ _ ⟨rfl,rfl⟩;have C:=cY.ah n d;have P:cZ A h.bp (λa=>F a/\cls a=4) c.decl c.every.toNat X.S.l:=C.at' 4;refine⟨_,rfl,_,_,IT,PC.ok (Hp P) ?_⟩;rintro _ o ⟨i,j,k,G,rfl,l,r,f⟩;have E:=l.aF;have T:=f.size;refine⟨_,_,_,_,_,rfl,PA.mk λU H V I=>PS.mk I sM λW J Y K=>PS.mk K sM λL M Z m=>?_⟩;have b:ai o L:=H.new (J.then M) λa P=>.inr (by have P:a=o.heap.size:=P;omega);have s:=b.get (f.get B id) id;have b0:=b.size;have t:(((b_ c.decl X.S.l).state e q).getD En).cells.length<=8:=Br (EB z.decl X.S.l).1 ⟨0,0,0,[],e,q,0,0,0,0⟩;unfold Bc
 cases N:(b_ c.decl X.S.l).state e q with
 |none=>
  refine an.tt rfl (aB (kh (nI 14) none 0 0 none 0 0 none 0 0) s rfl λb1 O b2 Q=>au (kh (nI 14) none 0 0 none 0 0 none 0 0) Q (Ok.mk ⟨ic.plain rfl rfl rfl,?_⟩));exact((d.then f).then b).new O λa P=>.inr (by have P:a=w.heap.size:=P;omega)
 |some g=>
  rw[N]at l t m;refine an.ff rfl ⟨_,_,_,_,ae m rfl,ae m rfl,aB (kh ⟨0,(0,0),g,[],[],false⟩ i j k none 0 0 none 0 0) s rfl λb3 u b4 R=>au (kh ⟨0,(0,0),g,[],[],false⟩ i j k none 0 0 none 0 0) R (Ok.mk ⟨?_,?_⟩)⟩
  ·refine⟨i,j,k,none,0,0,none,0,0,G,rfl,((l.ah b).af u λa P v=>by have v:a=w.heap.size:=v;have:=r a P;omega).row dC (by have:g.cells.length<=8:=t;show g.cells.length*32<=aT;unfold aT;omega),dS _ _,dS _ _,λa P=>⟨by have:=r a P;omega,by have:=E a P;omega⟩⟩
  ·exact((d.then f).then b).new u λa P=>.inr (by have P:a=w.heap.size:=P;omega)
def LF(b:aM)(P:List aj)(c:Int):(gZ b P c).length<=P.length:=by
 unfold gZ;split
 ·simp
 split
 ·simp
 ·rename_i a d
  have f:=Jv b P a (QZ d);have e:=(vJ (a.rows.map (·.2))).length_eq;rw[Q8]at e;show(a.rows.map (·.2)|>.foldr lG []).length<=_;omega
def qg(A:cd w p F c self X):ZG 41 #[XL p,XH e,XH q] w (Ok λf w'=>ic w (vz c.decl X.S.l e q) f w'/\ai w w'):=by
 obtain⟨R,h,cls,B⟩:=A;refine lU (PA.mk λg i S r=>?_);have b:=cY.ah B i;have no:(e<0\/e>=(c.decl.projs.length:Int))->vQ XP 46 (XL w.heap.size) (.agg (l_ (nI 1) none 0 0 none 0 0 none 0 0).toArray) g λs=>nE XP 46 (XL w.heap.size) s λC=>Ok (λf w'=>ic w (vz c.decl X.S.l e q) f w'/\ai w w') (.returned C) s:=λE=>by
  refine aB (kh (nI 1) none 0 0 none 0 0 none 0 0) r rfl λT H U I=>au (kh (nI 1) none 0 0 none 0 0 none 0 0) I (Ok.mk ⟨?_,i.new H λP a=>.inr (by have a:P=w.heap.size:=a;omega)⟩);unfold vz;rw[Zx E];exact ic.plain rfl rfl rfl
 have V:=(show aZ g (λP=>F P/\cls P=1) c.decl h.ta h.tn h.pa h.pn from b.at' 1).xM.len;refine an.dec (λj=>no (.inl j)) (λj=>⟨p,0,rfl,_,_,_,ae b.bD rfl,an.dec (λt=>no (.inr oM)) (λt=>PC.ok (zS b) ?_)⟩);rintro _ _ ⟨rfl,rfl⟩;have a:cZ g h.bp (λP=>F P/\cls P=4) c.decl c.every.toNat X.S.l:=b.at' 4;have W:X.S.l.length<=20000000:=a.1.2.2.2;have Y:=LF c.decl X.S.l e;refine⟨_,rfl,_,_,LD,PC.ok (Ky a) ?_⟩;rintro _ Z ⟨⟨a0,a1,cc,G,rfl,d,k,hG⟩,J⟩;have hn:=d.len dC;have K:=d.lb;refine⟨_,_,_,rfl,PC.ok (IJ (d.row dC ba) d.aF K J oM) ?_⟩;rintro _ L ⟨a2,rfl,l,m,n,M,rfl,u,o,v⟩;have N:=u.aF;have a9:=k.size;have b0:=o.size;have b1:(mu (gZ c.decl X.S.l e) q 32).1.length<=32:=by unfold mu;rw[Qy];omega
 have O:ai w L:=(i.then k).then o;refine⟨_,_,_,_,rfl,aB (kh ⟨0,(0,0),⟨0,[]⟩,[],(mu (gZ c.decl X.S.l e) q 32).1,(mu (gZ c.decl X.S.l e) q 32).2⟩ none 0 0 none 0 0 l m n) (o.get (k.get r id) id) rfl λb2 x b3 Q=>au (kh ⟨0,(0,0),⟨0,[]⟩,[],(mu (gZ c.decl X.S.l e) q 32).1,(mu (gZ c.decl X.S.l e) q 32).2⟩ none 0 0 none 0 0 l m n) Q (Ok.mk ⟨?_,O.new x λP a=>.inr (by have a:P=w.heap.size:=a;omega)⟩)⟩;unfold vz;rw[Zq (by rintro(y|y);exact j y;exact t oM)];refine⟨none,0,0,none,0,0,l,m,n,M,rfl,dS _ _,dS _ _,(u.af x λP a z=>by have z:P=w.heap.size:=z;have:=v P a;omega).row dC (by show(mu (gZ c.decl X.S.l e) q 32).1.length*24<=aT;unfold aT;omega),λP a=>⟨by have:=v P a;omega,by have:=N P a;omega⟩⟩
end
def Ao{b:Type}{c:b->Bool}:∀{L:List b} {j:Nat} {P:b},L[j]? =some P->c P=true->(L.filter c)[((L.take j).filter c).length]? =some P
 |[],j,P,a,_=>by simp at a
 |x::L,0,P,a,d=>by simp at a;subst a;simp[d]
 |x::L,j+1,P,a,d=>by
  have e:=Ao (L:=L) (j:=j) (by simpa using a) d;rw[Zw,List.filter_cons,List.filter_cons];split
  ·simpa using e
  ·exact e
section
variable {w w' wz A B w1:World} {D:XN} {a:ZH} {n c:Nat} {l:List cM} {O R1 R2 f most:Nat} {own L:List (Bx cM)} {pre:List (List Value)}
def QH(b P:Int)(a:cM):Bool:=a.ev.aW==b&&a.ev.agg==P
def Bn{e:cM}{a:ZH}{n c:Nat}(i:Row aQ 8 w D a n e.ev.aN)(t:∀P,D P->P<w.heap.size):
  ZG 132 #[Cr e a n c] w (Ok λu w'=>∃a n c G,u=Cr e a n c/\Row aQ 8 w' G a n e.ev.aN/\(∀P,G P->w.heap.size<=P/\P<w'.heap.size)/\ai w w'):=by
 have v:=i.dK;have x:=i.len;refine xf (PA.mk λw1 m A f=>PA.mk λB g C j=>⟨_,_,_,ae (g.get f id) rfl,PC.ok (cy (i.ah (m.then g)) λP b=>by have:=t P b;omega) ?_⟩);rintro _ E ⟨o,p,q,G,rfl,r,h,k⟩;have f:=h.get (g.get f id) id;have j:=h.get j id;have F:=h.size;refine⟨_,_,_,rfl,PS.mk f sM λH l I y=>?_⟩;refine au (cs:=gB e o p q) (kv _ _ _ _) y (aB (kv _ _ _ _) (l.get j (λd=>by have d:w1.heap.size=w.heap.size:=d;omega)) rfl λJ s K z=>au (kv _ _ _ _) z (Ok.mk ⟨o,p,q,G,rfl,?_,?_,?_⟩))
 ·refine(((r.af l λP b d=>?_).af s λP b d=>?_).row (bytes:=8) dC (by rw[<-x];exact v))
  ·have d:P=w.heap.size:=d;have:=k P b;omega
  ·have d:P=w1.heap.size:=d;have:=k P b;omega
 ·intro P b
  have:=k P b;have:=r.aF P b;omega
 ·exact((((m.then g).then h).new l λP b=>.inr (by have b:P=w.heap.size:=b;omega)).new s λP b=>.inr (by have b:P=w1.heap.size:=b;omega))
def LS{d:cM}{f h:Nat}(j:w.heap[f]? =some (.cells #[XH e] g I))(k:w.heap[h]? =some (.cells #[XH q] o g6)):
  ZG 131 #[Cr d a n c,XL f,XL h] w (Ok λl w'=>l= .bool (QH e q d)/\ai w w'):=by
 refine xd (PA.mk λw1 P m i=>⟨_,ae i rfl,_,ae (P.get j id) rfl,an.mk (λb=>⟨_,ae i rfl,_,ae (P.get k id) rfl,Ok.mk ⟨?_,P⟩⟩) (λb=>Ok.mk ⟨?_,P⟩)⟩)
 ·unfold QH;rw[b];rfl
 ·unfold QH;rw[b];rfl
structure Mc (wz:World) (O:Nat) (own:List (Bx cM)) (f most:Nat) (pre:List (List Value)) (A:World):Prop where
 af:ak (·=O) wz A
 dK:wz.heap.size+2<=A.heap.size
 nC:∃a n c G,A.heap[O]? =some (.cells #[.slice a n c] 43 (0,0))/\aU wK 141 G A a n c (((own.take pre.length).drop f).map (·.x))/\(∀b,G b->wz.heap.size+2<=b)/\n<=most
structure RZ (wz:World) (O R1 R2:Nat) (own:List (Bx cM)) (f most:Nat) (A:World):Prop where
 af:ak (λb=>b=O\/b=R1\/b=R2) wz A
 r2:A.heap[R2]? =some (.cells #[.bool true] 4 (0,0))
 more:most<(own.drop f).length
 nC:∃a n c G,A.heap[R1]? =some (.cells #[.slice a n c] 43 (0,0))/\aU wK 141 G A a n c (((own.drop f).take most).map (·.x))/\(∀b,G b->wz.heap.size+2<=b)
def Mc.ah(b:Mc wz O own f most pre A)(P:ai A B):Mc wz O own f most pre B:=by
 obtain⟨d,e,a,n,c,G,g,h,i⟩:=b;exact⟨d.ah P,Xx e P.size,a,n,c,G,P.get g id,h.ah P,i⟩
def Mc.fC(o:O<wz.heap.size)(h:Mc wz O own f most pre A)(i:tD (wz.heap.size+1) A B):Mc wz O own f most pre B:=by
 obtain⟨j,p,a,n,c,G,k,l,g,m⟩:=h;obtain⟨e,q⟩:=i;exact⟨j.new e λb d=>.inr (by have d:b=wz.heap.size+1:=d;omega),oM,a,n,c,G,e.get k (λP=>by have P:O=wz.heap.size+1:=P;omega),l.af e λb d P=>by have P:b=wz.heap.size+1:=P;have:=g b d;omega,g,m⟩
def RZ.fC(q:O<wz.heap.size/\R1<wz.heap.size/\R2<wz.heap.size)(h:RZ wz O R1 R2 own f most A){k:Nat}(r:wz.heap.size<=k/\k<=wz.heap.size+1)(i:tD k A B):RZ wz O R1 R2 own f most B:=by
 obtain⟨j,l,m,a,n,c,G,o,p,g⟩:=h;obtain⟨b,s⟩:=i;exact⟨j.new b λd e=>.inr (by have e:d=k:=e;omega),b.get l (λP=>by have P:R2=k:=P;omega),m,a,n,c,G,b.get o (λP=>by have P:R1=k:=P;omega),p.af b λd e P=>by have P:d=k:=P;have:=g d e;omega,g⟩
def PW{r s t u:Nat}{R:XU}{Rx:XU}(hO:O<wz.heap.size)(Y:wz.heap[r]? =some (.cells #[XH e] g I))(Z:wz.heap[s]? =some (.cells #[XH q] o g6))(h1:r≠O)(h2:s≠O)(v:∃j f,wz.heap[t]? =some (.cells #[.slice a n c] j f))(h3:t≠O)(w:∃j f,wz.heap[u]? =some (.cells #[.func (.func 131) #[] #[XL r,XL s]] j f))(h4:u≠O)(H:Row Jo.ju 120 wz D a n L)(hD:∀P,D P->P<wz.heap.size/\P≠O)(J:own=L.filter λP=>QH e q P.x)(b6:L.length<=20000000)(hR:∀A B,R A->ak (qR wz) A B->R B)(hy:∀pre l A,Mc wz O own f most pre A->R A->zZ [XH 0,Cr ⟨qz,false,(0,0)⟩ none 0 0] l->(∃P,own[pre.length]? =some P/\l=[XH (pre.length:Int),Cr P.x P.a P.n P.c])->mU XP (wz.heap.size+1) l A λP d=>(P=true/\Mc wz O own f most (pre++[l]) d/\R d)\/(P=false/\RZ wz O R1 R2 own f most d/\Rx d))(K:Mc wz O own f most [] w1)(a4:R w1):
  ZG 192 #[.func (.yield (wz.heap.size+1)) #[] #[],XL t,XL u] w1 (λj d=>(∃a0,j= .returned a0)/\((R d/\∃k:List (List Value),Mc wz O own f most k d/\k.length=own.length)\/(RZ wz O R1 R2 own f most d/\Rx d))):=by
 obtain⟨e3,f3,v⟩:=v;obtain⟨e4,f4,w⟩:=w;have hn:=H.len;refine tG ⟨_,_,_,ae (K.af.get v h3) rfl,λM a1 x w'=>∃(b:Nat) (pre:List (List Value)),x=b/\b<=n/\M=n-b/\a1=(pre.length:Int)/\pre.length=((L.take b).filter λP=>QH e q P.x).length/\Mc wz O own f most pre w'/\R w',⟨_,0,[],rfl,Qj _,rfl,rfl,rfl,K,a4⟩,?_⟩;rintro M _ _ _ N ⟨b,pre,rfl,hj,rfl,rfl,i,m,Q⟩;refine an.dec (λb7=>?_) (λb8=>?_)
 ·obtain⟨P,h⟩:∃P,L[b]? =some P:=⟨_,Qq oM⟩
  obtain⟨a2,a3,es,ha,a5,a6,y,rfl,-⟩:=(H.af m.af λP h=>(hD P h).2).el b P h;have b3:pre.length<=20000000:=by
   rw[i];have h5:=List.length_filter_le (λP:Bx cM=>QH e q P.x) (L.take b);have h6:=List.length_take_le b L;omega
  refine⟨a2,a3,ha,oM,oM,bq (es:=gB P.x P.a P.n P.c) (k:=13) (kv _ _ _ _) rfl (λx ht=>by rw[Qx];exact y x ht) (PA.mk λb9 a7 c0 a8=>aB (kv P.x P.a P.n P.c) a8 rfl λa9 b0 c1 S=>?_)⟩;have T:ai N a9:=a7.new b0 λP h=>.inr (by have h:P=N.heap.size:=h;omega);have z:=m.ah T;refine⟨_,ae (z.af.get w h4) rfl,au (kv P.x P.a P.n P.c) S ⟨_,_,_,rfl,kR,PC.ok (LS (z.af.get Y h1) (z.af.get Z h2)) ?_⟩⟩;rintro _ b1 ⟨rfl,U⟩;have V:=T.then U;have W:=m.ah V;have X:=hR _ _ Q (ai.af V);refine⟨_,rfl,an.not (an.mk (λp=>?_) (λp=>⟨_,oM,b+1,pre,aq oM,oM,rfl,rfl,?_,W,X⟩))⟩
  rotate_left
  ·rw[Qw,h,List.filter_append,i];simp[p]
  refine au (kv P.x P.a P.n P.c) (U.get S id) ⟨_,rfl,(hy pre _ b1 W X ?_ ⟨P,?_,rfl⟩).mono ?_⟩
  ·exact λφ C=>C pre.length P.x.ev.origin P.x.ev.seq P.x.ev.ay P.a P.n P.c P.x.ev.aW P.x.ev.agg P.x.ev.field P.x.ev.op P.x.ev.arg P.x.ev.key P.x.void P.x.Cq.1 P.x.Cq.2
  ·rw[J,i];exact Ao h p
  ·rintro b' d (⟨rfl,E,b5⟩|⟨rfl,F,b2⟩)
   ·refine an.ff rfl ⟨_,oM,b+1,pre++[_],aq oM,oM,rfl,?_,?_,E,b5⟩
    ·rw[aq oM];simp
    ·rw[Qw,h,List.filter_append,QX,QX,<-i];simp[p]
   ·exact an.tt rfl ⟨⟨_,rfl⟩,.inr ⟨F,b2⟩⟩
 ·rw[Qz oM]at i
  exact⟨⟨_,rfl⟩,.inl ⟨Q,pre,m,by rw[J];exact i⟩⟩

import Derived.Test.YtjgjkeponbeekaaGreatDoorKb17
set_option linter.all false
set_option maxRecDepth 20000
namespace Go.Proofs.YtjgjkeponbeekaaGreatDoor
open Go.ar
variable{a6 h9:List PanicEntry->ac}{f:RK}{N m:ah}{I:aw}
section
variable {w w' w0:World} {p:Nat} {F E T:RK} {cls:Nat->Nat} {h:kp} {c:bN} {self:Int} {X:bg} {evs lB:List ah} {ea:am} {en ec:Nat}
def Env.sub(P:Env w0 w F)(a:∀n,f n->F n):Env w0 w f:=⟨P.pW,P.laid,P.gr,λn b=>P.aF n (a n b)⟩
def Td(n:I.OK)(a:m∈I.l)(b:N∈I.l)(c:bd m=bd N):m=N:=by
 have P:=n.get a;have d:=n.get b;rw[c,d]at P;exact(XJ P).symm
def CU(v:bb w F cls (mj p (h.cells c self) h c X lB))(j:Env w0 w F)(R:∀(x:Nat) (l m:ah),lB[x]? =some l->X.S.l[x]? =some m->bd l=bd m->l=m)(y:X.S.l.length<=20000000){κ:UX}(o:∀w' f P,cP w' f P p h c self X->cy F w f w'->κ (WP 0) w'):
  ∀pU,bw w pU->∃q:RK,(∃r z,(L1 p:am)=some ⟨r,z,none⟩/\(¬q r/\(∃(A:am),pU.cell? ⟨r,z+14,none⟩=some (.pointer A)/\(∃B C,(L1 p:am)=some ⟨B,C,none⟩/\(∃(E:am),pU.cell? ⟨B,C+13,none⟩=some (.pointer E)/\
   PC PP 59 #[.pointer E] pU (λS b=>∃(H:am) (I:Nat) (J:Nat),S= .slice H I J/\(aj q pU b/\PC PP 75 #[.pointer A,.slice H I J] b (λT g=>∃(U:Int),T= WP U/\(aj q b g/\κ (WP 0) g)) a6)) h9))))):=by
 intro pU V;have s:ai w pU:=V.keep;have i:=bb.af v cd s;have K:=(i.at' 0).2;refine⟨λn=>F n/\cls n=4,p,0,rfl,λW=>?_,_,ae K rfl,p,0,rfl,_,ae K rfl,PC.ok (vo (show cM pU h.sp (λn=>F n/\cls n=3) X.S from(i.at' 3).1) y) ?_⟩
 ·have:=W.2
  have Y:=(show(F p/\cls p=0)/\_ from v.at' 0).1.2;rw[Y]at this;cases this
 rintro _ b ⟨a2,a3,cc,G,rfl,t,e,Z⟩;have b5:=e.size;have a0:=i.aF;have L:=bb.af i cd e;have a8:=t.lz;have a1:dh b h.bp (λn=>F n/\cls n=4) c.decl c.every.toNat lB:=L.at' 4;refine⟨_,_,_,rfl,ai.keep e,PC.ok (Ig a1 j.pW ((j.gr.then s).then e) (λn d=>j.aF n d.1) (t.row dC (by unfold aR;omega)) a8 (λn d=>⟨t.aF n d,λhf=>by have:=a0 n hf.1;have:=Z n d;omega⟩) y R) ?_⟩;rintro _ g ⟨k,rfl,G4,M,N⟩;obtain⟨f,P,u,a,-,-⟩:=L.iE cd (k:=4) (G':=G4) (C2:=mj p (h.cells c self) h c X X.S.l) N M.aF M λO G hj hc=>by
  rcases O with _|_|_|_|_|_|_|O<;>first|exact hc|exact Zz rfl hj
 have Q:ai w b:=s.then e;exact⟨_,rfl,N.keep,o g f P u ⟨(ai.keep Q).then a.keep,λn d=>(a.new n d).imp id λh1=>by have:=Q.size;omega⟩⟩
def Kc(x:cP w F cls p h c self X)(c1:jX c self)(y:Env w0 w F){V:dv}(b3:X.log=some V)(Y:Row kY 96 w E ea en evs)(Z:∀P,E P->P<w.heap.size/\¬(F P/\cls P=2))(hl:X.S.l.length+evs.length<=20000000):
  ba 81 #[LL p,.slice ea en ec] w (Ok λz w'=>z= WP (df c X evs).1/\∃A r d,cP w' r d p A c self (df c X evs).2/\cy F w r w'/\A.wp=h.wp):=by
 obtain⟨b,D,c2,n,i⟩:=X;simp only at b3 hl;subst b3;obtain⟨hS,B,hn⟩:=(show cM w h.sp (λP=>F P/\cls P=3) b/\b.Cl/\b.n=c.aC.toNat from x.at' 3)
 have c3:=x.aF;obtain⟨e1,C,H,a0⟩:=DL.PZ (show DL w (λP=>F P/\cls P=2) h.dp h.lp D (some V)from x.at' 2) (y.sub λP a=>a.1) λP a=>c3 P a.1;have c4:=Tc Y;have a2:∀P,E P->P<w.heap.size:=λP a=>(Z P a).1;refine oS ⟨p,0,rfl,_,ae x.bC rfl,?_⟩;rw[C];refine PC.ok (MH y.laid a0 H Y a2 oM) ?_;rintro _ w7 ⟨rfl,a1,k7⟩;have I:=HL (D:=D) (l:=evs) H;have s:∀{a3},(if(aE V D evs).1≠0 then((aE V D evs).1,({S:=b,D:=(aE V D evs).2.2,log:=some (aE V D evs).2.1,waits:=n,gG:=i}:bg))else
   if((aE V D evs).2.2.sync (aE V D evs).2.1.last).1≠0 then(((aE V D evs).2.2.sync (aE V D evs).2.1.last).1,{S:=b,D:=((aE V D evs).2.2.sync (aE V D evs).2.1.last).2,log:=some (aE V D evs).2.1,waits:=n,gG:=i})else
   (0,{S:=eY c b evs,D:=((aE V D evs).2.2.sync (aE V D evs).2.1.last).2,log:=some (aE V D evs).2.1,waits:=n,gG:=i}))=a3->df c ⟨b,D,some V,n,i⟩ evs=a3:=λ{a3} hq=>hq
 generalize e2:aE V D evs=ap at a1 I s;obtain⟨e3,t,D7⟩:=ap;simp only at a1 I s;obtain⟨G7,J,a4,a5,-⟩:=DL.HI (Y:=λ_=>False) (a1.mono λP a=>a.elim id False.elim) k7 I;obtain⟨F7,k,K,e,-,-,c5⟩:=x.iE cd (k:=2) (G':=G7) (C2:=mj p (h.cells c self) h c ⟨b,D7,some t,n,i⟩ b.l) a4 a5 (by rw[<-C]at J;exact J) λl G L M=>by
  rcases l with _|_|_|_|_|_|_|l<;>first|exact M|exact Zz rfl L
 refine⟨_,rfl,al.eK (λa6=>Ok.mk ?_) (λh0=>?_)⟩
 ·rw[s (Zx a6)]
  exact⟨rfl,h,F7,k,K,e,rfl⟩
 simp only at h0;have c6:=y.iE e;obtain⟨q2,m,-,u⟩:=DL.PZ (show DL w7 (λP=>F7 P/\k P=2) h.dp h.lp D7 (some t)from K.at' 2) (c6.sub λP a=>a.1) λP a=>K.aF P a.1;refine⟨p,0,rfl,_,ae (K.at' 0).2 rfl,?_⟩;rw[m];refine PC.ok (JN y.laid u I) ?_;rintro _ b4 ⟨rfl,a7,c7⟩;generalize e4:D7.sync t.last=sy at a7 s;obtain⟨s1,S⟩:=sy;simp only at a7 s;obtain⟨a8,o,g,N,-⟩:=DL.HI (Y:=λ_=>False) (a7.mono λP a=>a.elim id False.elim) c7 I;obtain⟨O,v,f,j,-,a9,T⟩:=K.iE cd (k:=2) (G':=a8) (C2:=mj p (h.cells c self) h c ⟨b,S,some t,n,i⟩ b.l) g N (by rw[<-m]at o;exact o) λl G L M=>by
  rcases l with _|_|_|_|_|_|_|l<;>first|exact M|exact Zz rfl L
 have b0:=e.trans j;refine⟨_,rfl,al.eK (λa6=>Ok.mk ?_) (λh1=>?_)⟩
 ·rw[s ((Zq (by simpa using h0)).trans (Zx a6))]
  exact⟨rfl,h,O,v,f,b0,rfl⟩
 simp only at h1;have c8:=s ((Zq (by simpa using h0)).trans (Zq (by simpa using h1)));rw[c8];have c9:Row kY 96 b4 E ea en evs:=by
  refine(Y.keep a4.keep λP a=>(Z P a).2).keep g.keep λP a hf=>?_;rcases a4.new P (c5▸hf)with h5|h5
  ·exact(Z P a).2 h5
  ·have:=a2 P a;omega
 refine PC.ok (Kl f c1 c9 (λP a=>by have:=a2 P a;have:=b0.keep.size;omega) hl) ?_;rintro _ d0 ⟨U,F2,rfl,b5,d1,d2⟩;have d3:(eY c b evs).n=c.aC.toNat:=aw.Ru _ _;have b1:=wx B hn evs;have b6:(eY c b evs).Cl:=by rw[b1];exact aw.Cl.eC B c4
 obtain⟨F3,Q,b7,q,d4,-⟩:=f.fg cd (k:=3) (w':=d0) (G':=F2) (C2:=mj p (h.cells c self) {h with sp:=U} c ⟨eY c b evs,S,some t,n,i⟩ b.l) (ai.keep d2) (λP a=>.inr (d1 P a)) b5.aF ⟨b5,b6,d3⟩ λl G L M=>by
  rcases l with _|_|_|_|_|_|_|l<;>first|exact M|exact Zz rfl L
 refine⟨_,rfl,p,0,rfl,PS.mk (b7.at' 0).2 sM λb8 b9 e5 d5=>?_⟩;have d6:bb b8 F3 Q (mj p (({h with sp:=U}:kp).cells c self) {h with sp:=U} c ⟨eY c b evs,S,some t,n,i⟩ b.l):=cP.store b7 b9 d5;have d7:cy O b4 F3 b8:=⟨q.keep.then (b9.mono λP _ R=>by have R:P=p:=R;rw[R];exact(f.at' 0).1.1),q.new⟩
 have c0:=b0.trans d7;have d8:∀W∈b.l,W∈(eY c b evs).l:=λW hx=>by rw[b1];exact aw.Kk hx
 have d9:(eY c b evs).l.length<=20000000:=by rw[b1];exact Xx (aw.nG _ _) hl
 exact CU d6 (y.iE c0) (λe6 W e7 hx hy R=>Td b6.ok (d8 W (QZ hx)) (QZ hy) R) d9 (κ:=λz w'=>Ok (λz w'=>z= WP 0/\∃A r d,cP w' r d p A c self ⟨eY c b evs,S,some t,n,i⟩/\cy F w r w'/\A.wp=h.wp) (.returned z) w')
  λw' r d b2 e0=>Ok.mk ⟨rfl,{h with sp:=U},r,d,b2,c0.trans e0,rfl⟩
end
def CS{D:ak}{size:Int}(n:(aS D size).no=0):(aS D size).V.a_≠[]:=by
 revert n
 unfold aS;generalize cO (told D) [] (dQ D size) D=b;unfold gi;split
 ·rename_i a;intro n;exact Zz n a
 split
 ·intro n;exact tL n
 rename_i P;split
 ·intro _;exact P
 ·intro _;exact P
abbrev yu(n:kp)(P:bN)(a:Int)(b c d:am):Array Value:= #[WP P.aC,WP P.uR,WP P.bj,WP P.chunk,WP P.buffer,WP P.di,WP P.every,WP P.start,.slice n.ta n.tn n.tc,.slice n.pa n.pn n.pc,WP a,
 LL n.dp,.pointer b,.pointer c,.pointer d,LL n.wp,LL n.tp]
def recC(c:Nat)(d:Array Value)(P:kp)(b:bN)(a:bg)(e:Bool):Nat->World->(RK)->Prop
 |0=>λn G=>G c/\n.heap[c]? =some (.cells d 105 (0,0))
 |1=>λn G=>bu n G b.decl P.ta P.tn P.pa P.pn
 |2=>λn G=>DL n G P.dp P.lp a.D a.log
 |3=>λn G=>e=true->cM n P.sp G a.S/\a.S.Cl/\a.S.n=b.aC.toNat
 |5=>λn G=>Py n G P.wp b.buffer.toNat a.waits
 |6=>λn G=>ey n P.tp G a.gG
 |_=>λ_ _=>True
variable{J:Bool}
section
variable {w w' w0:World} {p:Nat} {F E T:RK} {cls:Nat->Nat} {h:kp} {c:bN} {self:Int} {X:bg} {evs lB:List ah} {ea:am} {en ec:Nat}
def iB{i:Array Value}:mq (recC p i h c X J):=by
 intro k w w' G T n a P
 match k,n with
 |0,n=>exact⟨n.1,a.get n.2 (P p n.1)⟩
 |1,n=>exact bu.keep n a P
 |2,n=>exact DL.keep n a P
 |3,n=>exact λe=>⟨cM.keep (n e).1 a P,(n e).2⟩
 |4,n=>trivial
 |5,n=>obtain⟨j,D,l,f,g⟩:=n;exact⟨j,D,l.keep a (λb d=>P b (f b d)) λb d=>P b (g b d),f,g⟩
 |6,n=>exact ey.keep n a P
 |k+7,n=>trivial
def zq{z1 z2 z3:am}(T:bb w F cls (recC p (yu h c self z1 z2 z3) h c X false))(L:jX c self)(A:Env w0 w F):
  ba 46 #[LL p] w (Ok λB w'=>B= WP (fC c X).1/\(fC c X).2.S.l.length<=16777216/\∃U q d,cP w' q d p U c self (fC c X).2/\cy F w q w'):=by
 obtain⟨g0,d2,j5⟩:=L.aC;have g1:=T.aF;have V:F p/\cls p=0:=(T.at' 0).1;have j0:1<=c.every:=by
  have:=L.right;unfold fF at this;simp only[QK,Zk]at this;omega
 refine mf λw3 d3=>?_;have W:ai w w3:=d3.keep;have M:=bb.af T iB W;have N:=(M.at' 0).2;refine⟨λ_=>False,p,0,rfl,_,ae N rfl,p,0,rfl,id,_,_,_,_,_,_,ae N rfl,ae N rfl,p,0,rfl,id,_,ae N rfl,?_⟩;rw[g0];refine PC.ok (Gv d2) ?_;rintro _ d4 ⟨e,F2,rfl,Y,d5,C⟩;have a9:=W.then C;have d6:=bb.af M iB C;refine⟨_,rfl,C,PC.ok (Ra L.decl L.every ((A.pW.af A.gr).af a9) (show bu d4 (λn=>F n/\cls n=1) c.decl h.ta h.tn h.pa h.pn from d6.at' 1) λn P=>d6.aF n P.1) ?_⟩;rintro _ g2 ⟨g,F4,rfl,Z,d7,b7⟩;have y3:=W.size;have j6:=C.size;have j7:=b7.size;rw[show(max 1 c.every).toNat=c.every.toNat by congr 1;omega]at Z;have j1:=Y.aF;obtain⟨Fa,d1,E,b0,g4,-⟩:=M.Ie iB (k:=3) (w':=d4) (G':=F2) (C2:=recC p (yu h c self z1 z2 z3) {h with sp:=e} c {X with S:=⟨c.aC.toNat,[]⟩} true) (ai.keep C) (λn P l=>by have:=d5 n P;have:=g1 n l;omega) Y.aF (λ_=>⟨Y,aw.Cl.new d2,rfl⟩) λa G i j=>by
  rcases a with _|_|_|_|_|_|_|a<;>first|exact j|exact Zz rfl i
 obtain⟨u,r,b8,b1,g5,-⟩:=E.Ie iB (k:=4) (w':=g2) (G':=F4) (C2:=mj p (yu h c self z1 z2 z3) {h with sp:=e,bp:=g} c {X with S:=⟨c.aC.toNat,[]⟩} []) (ai.keep b7) (λn P l=>by have:=d7 n P;have:=E.aF n l;omega) Z.aF Z λa G i j=>by
  rcases a with _|_|_|_|_|_|_|a<;>first|exact j|exact j rfl|exact Zz rfl i
 have d8:∀n,u n->F n\/w.heap.size<=n:=λn P=>by
  rcases g5 n P with k|k
  ·rcases g4 n k.1 with h6|h6
   ·exact .inl h6.1
   ·exact .inr (by have:=d5 n h6;omega)
  ·exact .inr (by have:=d7 n k;omega)
 refine⟨_,rfl,p,0,rfl,PS.mk (b8.at' 0).2 sM λj8 d9 j9 g6=>⟨p,0,rfl,PS.mk g6 sM λb9 e0 k0 g7=>λc1 g8=>?_⟩⟩;have j2:u p/\r p=0:=(b8.at' 0).1;have e1:ai b9 c1:=g8.keep;have g9:bb b9 u r (mj p (yu h c self z1 (L1 e) (L1 g)) {h with sp:=e,bp:=g} c {X with S:=⟨c.aC.toNat,[]⟩} []):=cP.store b8 (d9.then e0) g7;have b2:cy F w u b9:=⟨((ai.keep a9).af b7).then ((d9.then e0).mono λn _ f=>by have f:n=p:=f;rw[f];exact V.1),d8⟩
 have H:=bb.af g9 cd e1;have O:cy F w u c1:=⟨b2.keep.af e1,b2.new⟩
 have e2:=A.iE O;have e3:=(H.at' 0).2;have h4:=DL.uR (show DL c1 (λn=>u n/\r n=2) h.dp h.lp X.D X.log from H.at' 2) (e2.sub λn P=>P.1);refine⟨p,0,rfl,_,ae e3 rfl,p,0,rfl,_,ae e3 rfl,PC.ok (Ji A.laid h4) ?_⟩;have a0:∀{b},(if(aS X.D c.bj).no≠0 then((aS X.D c.bj).no,{X with D:=(aS X.D c.bj).D,log:=none,S:=⟨c.aC.toNat,[]⟩})
   else(0,{X with D:=(aS X.D c.bj).D,log:=some (aS X.D c.bj).V,S:=(⟨c.aC.toNat,[]⟩:aw).eC (aS X.D c.bj).out}))=b->fC c X=b:=λ{b} hq=>hq
 have b3:=CS (D:=X.D) (size:=c.bj);generalize aS X.D c.bj=b at a0 b3;rintro _ h7 (⟨I,rfl,e5,c3⟩|⟨I,s,e9,a1,cc,G,rfl,c4,h8,c3,hG,hq,j3⟩)
 ·obtain⟨G2,c5,a2,c6,-⟩:=DL.Og (Y:=λ_=>False) (e5.mono λn P=>P.elim id False.elim) c3
  obtain⟨t,Q,v,a3,-,-⟩:=H.iE cd (k:=2) (G':=G2) (C2:=mj p (yu h c self z1 (L1 e) (L1 g)) {h with sp:=e,bp:=g,lp:=none} c {X with S:=⟨c.aC.toNat,[]⟩,D:=b.D,log:=none} []) a2 c6 (by
    obtain⟨Fd,h1,h2,M⟩:=c5;exact⟨Fd,h1,h2,rfl⟩) λa G i j=>by
   rcases a with _|_|_|_|_|_|_|a<;>first|exact j|exact Zz rfl i
  refine⟨_,_,_,_,_,rfl,p,0,rfl,PS.mk (v.at' 0).2 sM λx y e4 c7=>al.eK (λ_=>Ok.mk ?_) (λh0=>Zz h0 I)⟩;rw[a0 (Zx I)];refine⟨rfl,Qj _,{h with sp:=e,bp:=g,lp:=none},t,Q,cP.store v y c7,?_⟩;have J:=O.trans a3;exact⟨J.keep.then (y.mono λn _ f=>by have f:n=p:=f;rw[f];exact V.1),J.new⟩
 ·obtain⟨G2,c5,a2,c6,hY⟩:=DL.HI h8 c3 (b3 I)
  obtain⟨t,Q,v,a3,h9,-⟩:=H.iE cd (k:=2) (G':=G2) (C2:=mj p (yu h c self z1 (L1 e) (L1 g)) {h with sp:=e,bp:=g,lp:=L1 s} c {X with S:=⟨c.aC.toNat,[]⟩,D:=b.D,log:=some b.V} []) a2 c6 c5 λa G i j=>by
   rcases a with _|_|_|_|_|_|_|a<;>first|exact j|exact Zz rfl i
  refine⟨_,_,_,_,_,rfl,p,0,rfl,PS.mk (v.at' 0).2 sM λx y e4 c7=>al.eK (λh0=>Zz rfl h0) (λ_=>?_)⟩;have f0:bb x t Q (mj p (({h with sp:=e,bp:=g,lp:=L1 s}:kp).cells c self) {h with sp:=e,bp:=g,lp:=L1 s} c {X with S:=⟨c.aC.toNat,[]⟩,D:=b.D,log:=some b.V} []):=cP.store v y c7;have J:=O.trans a3;have b4:cy F w t x:=⟨J.keep.then (y.mono λn _ f=>by have f:n=p:=f;rw[f];exact V.1),J.new⟩
  have j4:=O.keep.size;have c8:∀n,G n->¬t n:=λn P l=>by
   rcases h9 n l with k|k
   ·have:=H.aF n k.1;have:=hG n P;omega
   ·exact hY n k P
  have i0:∀n,G n->n≠p:=λn P f=>c8 n P (f▸(v.at' 0).1.1);have b5:=c4.aF;have k1:=c4.len dC;have b6:Row kY 96 x G e9 a1 b.out:=wj.row (((c4.keep y λn P f=>i0 n P f)).row dC (by unfold aR;omega));have k2:x.heap.size=h7.heap.size:=e4;rw[a0 (Zq (by simpa using I))];have f8:=Tc b6;refine⟨λc0 a4 w'=>∃(a:Nat) (R:RK) (e6:Nat->Nat),a4=a/\a<=a1/\c0=a1-a/\bb w' R e6 (mj p (({h with sp:=e,bp:=g,lp:=L1 s}:kp).cells c self) {h with sp:=e,bp:=g,lp:=L1 s} c {X with S:=(⟨c.aC.toNat,[]⟩:aw).eC (b.out.take a),D:=b.D,log:=some b.V} [])/\cy t x R w',
   ⟨_,0,t,Q,rfl,Qj _,rfl,f0,cy.refl _ _⟩,?_⟩
  rintro c0 _ _ e7 ⟨a,R,e6,rfl,i,rfl,c9,z⟩;have i1:∀n,G n->¬R n:=λn P l=>by
   rcases z.new n l with k|k
   ·exact c8 n P k
   ·have:=b5 n P;omega
  have d0:=aw.nG (b.out.take a) ⟨c.aC.toNat,[]⟩;rw[Qy]at d0;simp only[ZQ]at d0;refine al.dec (λk4=>?_) (λk5=>?_)
  ·obtain⟨m,S⟩:∃m,b.out[a]? =some m:=⟨_,Qq oM⟩
   obtain⟨n,f1,es,ha,k6,k7,i2,xa,xn,xc,rfl,i3,c2⟩:=(b6.keep z.keep c8).el a m S;refine⟨n,f1,ha,oM,oM,cu (es:=aI m xa xn xc) (k:=10) (bh _ _ _ _) rfl (λa4 ht=>by rw[Qx];exact i2 a4 ht) (PA.mk λk8 i4 k9 i5=>aD (bh m xa xn xc) i5 rfl λl0 i6 l3 i7=>λi8 e8=>?_)⟩;have K:ai e7 i8:=(i4.new i6 λn P=>.inr (by have P:n=e7.heap.size:=P;omega)).then e8.keep;have a5:=bb.af c9 cd K;have l4:=z.keep.size;obtain⟨f2,f3,f5⟩:=a5.at' 3;refine⟨p,0,rfl,_,ae (a5.at' 0).2 rfl,au (bh m xa xn xc) ((e8.keep (S:=λ_=>False)).get i7 id) (PC.ok (vm f2 (i3.af K) (λn P=>⟨by have:=b5 n P;have:=K.size;omega,λl=>i1 n P l.1⟩) c2 (by show((⟨c.aC.toNat,[]⟩:aw).eC (b.out.take a)).l.length<_;omega)) ?_)⟩;rintro _ l5 ⟨rfl,F8,f4,f6⟩;have i9:((⟨c.aC.toNat,[]⟩:aw).eC (b.out.take (a+1)))=(((⟨c.aC.toNat,[]⟩:aw).eC (b.out.take a)).add m).2:=by
    rw[Qw,S];exact aw.sk ..
   obtain⟨F9,a6,a7,o,-⟩:=a5.iE cd (k:=3) (G':=F8) (C2:=mj p (({h with sp:=e,bp:=g,lp:=L1 s}:kp).cells c self) {h with sp:=e,bp:=g,lp:=L1 s} c {X with S:=(⟨c.aC.toNat,[]⟩:aw).eC (b.out.take (a+1)),D:=b.D,log:=some b.V} []) f6 f4.aF (by rw[i9];exact⟨f4,f3.add c2,(aw.Vz _ _).trans f5⟩) λa G i j=>by
    rcases a with _|_|_|_|_|_|_|a<;>first|exact j|exact Zz rfl i
   exact⟨_,rfl,_,oM,a+1,F9,a6,aq oM,oM,rfl,a7,z.trans ⟨(ai.keep K).then o.keep,λn P=>(o.new n P).imp id λh1=>by have:=K.size;omega⟩⟩
  ·rw[Qz oM]at c9 d0
   exact CU c9 (A.iE (b4.trans z)) (λf9 m g3 S=>by simp at S) (by show((⟨c.aC.toNat,[]⟩:aw).eC b.out).l.length<=_;omega) (κ:=λB w'=>Ok (λB w'=>B= WP 0/\((⟨c.aC.toNat,[]⟩:aw).eC b.out).l.length<=16777216/\∃U q d,cP w' q d p U c self {X with S:=(⟨c.aC.toNat,[]⟩:aw).eC b.out,D:=b.D,log:=some b.V}/\cy F w q w') (.returned B) w')
    λw' q d a8 f7=>Ok.mk ⟨rfl,oM,_,q,d,a8,(b4.trans z).trans f7⟩
end
structure iG where
 code:Int
 id:Int×Int
 st:pA
 Lj:List cZ
 rows:List ej
 more:Bool
def fS(n:iG)(P:am)(a b:Nat)(c:am)(d e:Nat)(f:am)(g h:Nat):List Value:=
 [WP n.code,WP n.id.1,WP n.id.2,WP n.st.version,.slice P a b,.slice c d e,.slice f g h,.bool n.more]
def iP(n:iG)(P:am)(a b:Nat)(c:am)(d e:Nat)(f:am)(g h:Nat):iM PP 53 (fS n P a b c d e f g h)=true:=kR
def gN(h:World)(n:iG)(i:Value)(P:World):Prop:=∃(b:am) (c j:Nat) (d:am) (e k:Nat) (f:am) (g l:Nat) (G:RK),i= .agg (fS n b c j d e k f g l).toArray/\
 Row gC 32 P G b c n.st.cells/\Row AU 120 P G d e n.Lj/\Row KL 24 P G f g n.rows/\∀a,G a->h.heap.size<=a/\a<P.heap.size
abbrev bP(n:Int):iG:=⟨n,(0,0),⟨0,[]⟩,[],[],false⟩
abbrev IW(id:Int×Int):iG:=⟨0,id,⟨0,[]⟩,[],[],false⟩
structure lE.Ok (x:lE):Prop where
 aZ:aM x.aZ
 agg:aM x.agg
 field:aM x.field
 op:aM x.op
 arg:aM x.arg
 key:aM x.key
variable{e l:Int}{u:List Int}{M:Prop}{j:Type}{g:TypeId}{d6:lE}
section
variable {w w' w0:World} {p:Nat} {F E T:RK} {cls:Nat->Nat} {h:kp} {c:bN} {self:Int} {X:bg} {evs lB:List ah} {ea:am} {en ec:Nat}
def gN.plain{n:iG}(P:n.st.cells=[])(a:n.Lj=[])(b:n.rows=[]):gN w n (.agg (fS n none 0 0 none 0 0 none 0 0).toArray) w':=
 ⟨none,0,0,none,0,0,none,0,0,λ_=>False,rfl,by rw[P];exact dA _ _,by rw[a];exact dA _ _,by rw[b];exact dA _ _,λd c=>c.elim⟩
def row_one{P:ks j}{bytes a:Nat}{w:World}{n:Array Value}{o:Nat×Nat}{e:j}{D:RK}(f:w.heap[a]? =some (.cells n g o))(h:P.rep w D e n.toList)(i:bytes<=1000):Row P bytes w (λb=>b=a\/D b) (L1 a) 1 [e]:=by
 have p:=P.len h;refine⟨rfl,by unfold aR;omega,λc q d=>?_⟩;obtain rfl:c=0:=by
  rcases c with _|c
  ·rfl
  ·simp at d
 simp at d;subst d;refine⟨a,0,n.toList,rfl,aA f,.inl rfl,λk l=>?_,P.mono h λb i=>.inr i⟩;have m:k<n.size:=by rw[<-p]at l;simpa using l
 rw[ae f (v:=n[k]) (by simp[m])];simp[m]
def WX(i:I.OK){M:Int}(d:0<=M)(e:∀n∈I.l,n.aB<=M):I.top<=M:=by
 have:∀(a:List ah) (P:Int),P<=M->(∀n∈a,n.aB<=M)->a.foldl (λP n=>max P n.aB) P<=M:=by
  intro a
  induction a with
  |nil=>intro P b _;exact b
  |cons n a f=>
   intro P b c;refine f _ ?_ λg h=>c g (QJ _ h);have:=c n (QV ..);show max P n.aB<=M;omega
 exact this I.l 0 d e
def MV[Decidable M]{n P:ah×Bool×Int}(a:n.1.Ok)(b:P.1.Ok):(if M then n else P).1.Ok:=by
 split
 ·exact a
 ·exact b
def Km(n:d6.Ok)(c:aM e)(f:aM l)(P:∀d∈u,aM d):(aX d6 e u l).2.Ok:=by
 have g:=CV P e;unfold aX;dsimp only
 by_cases a:e<0\/(u.length:Int)<=e\/l<0
 ·rw[Zx a];exact CW
 rw[Zq a]
 by_cases b:fU u e=9223372036854775807\/l=9223372036854775807
 ·rw[Zx b];exact CW
 rw[Zq b];refine⟨c,?_,?_,FR P sM,n.aZ,n.agg,n.field,n.op,n.arg,n.key⟩
 ·show aM (fU u e+1);unfold aM at*;omega
 ·show aM (l+1);unfold aM at*;omega
def Vf(d:I.l.length<=20000000):∀P∈I.vec,aM P:=λP b=>by
 obtain⟨c,n,rfl⟩:=List.getElem_of_mem b;rw[I.bU]at n;have a:=I.pD n;rw[Qq (by rw[I.bU];exact n)]at a;rw[XJ a];have:=I.Te c;unfold aM;omega
def Oh(n:I.OK):aM I.top:=by
 have b:=WX n (M:=9223372036854775807) oM λP a=>by have:=(n.ok P a).aB;unfold aM at this;omega
 have c:=I.MW;unfold aM;omega
def NR{d:aT}{V:bf}(P:d6.Ok)(n:I.OK)(a:aM e)(h:aM l)(b:I.l.length<=20000000):(gD d I V e l d6).1.Ok:=by
 have c:aM (max I.top l):=by
  have i:=Oh n;unfold aM at*;omega
 rw[yv];refine MV CW ?_
 cases f:I.keyed d6.key with
 |some g=>exact n.ok g (List.mem_of_find?_eq_some f)
 |none=>exact MV CW (MV CW (Km P a c (Vf b)))
end
section
variable {w w' w0:World} {p:Nat} {F E T:RK} {cls:Nat->Nat} {h:kp} {c:bN} {self:Int} {X:bg}
def jX.Yp(n:jX c self):0<=self/\self<c.aC:=by
 have:=n.right;unfold fF within at this;simp only[QK,Zk]at this;omega
def IH(hr:bY w p F c self X)(J:Env w0 w F)(hx:d6.Ok)(hl:X.S.l.length+1<=20000000):
  ba 50 #[LL p,xr d6] w (Ok λa3 w'=>∃d,gN w (if(eP c self X d6).1≠0 then bP (eP c self X d6).1 else IW (eP c self X d6).2.1) a3 w'/\bY w' p d c self (eP c self X d6).2.2/\cy F w d w'):=by
 have b8:=hr;obtain⟨q,h,cls,l⟩:=hr;have u:=l.aF;have e3:=(l.Kb)
 have g7:=u p e3.1;have c0:aM self:=by have:=q.Yp;have:=q.aC;unfold aM;omega
 refine l_ (PA.mk λC e4 g8 e5=>PA.mk λb2 c2 g9 a8=>?_);have a1:=e4.then c2;have e6:=cP.af l a1;have E:∀{f:World} {d:RK} {k:bg} {y:iG},y.st.cells=[]->y.Lj=[]->y.rows=[]->(∃r,f.heap[C.heap.size]? =some (.cells r 53 (0,0))/\r.size=8)->bY f p d c self k->(∀n,d n->F n\/b2.heap.size<=n)->cy F w d f->(eP c self X d6).2.2=k->(if(eP c self X d6).1≠0 then bP (eP c self X d6).1 else IW (eP c self X d6).2.1)=y->
   nw PP 53 (LL C.heap.size) (.agg (fS y none 0 0 none 0 0 none 0 0).toArray) f λc3=>jq PP 53 (LL C.heap.size) c3 λa=>Ok (λa3 w'=>∃d,gN w (if(eP c self X d6).1≠0 then bP (eP c self X d6).1 else IW (eP c self X d6).2.1) a3 w'/\bY w' p d c self (eP c self X d6).2.2/\cy F w d w') (.returned a) c3:=λ{f d k y} y1 y2 y3 hz b3 b4 Q hX hy=>by
  obtain⟨r,hg,e7⟩:=hz;refine aD (iP y none 0 0 none 0 0 none 0 0) hg (by rw[e7];rfl) λc3 d7 h2 e8=>au (iP y none 0 0 none 0 0 none 0 0) e8 (Ok.mk ⟨d,by rw[hy];exact gN.plain y1 y2 y3,?_,Q.keep.new d7 λn P=>.inr (by have P:n=C.heap.size:=P;omega),Q.new⟩);rw[hX];refine b3.keep d7 λn P e=>?_;have e:n=C.heap.size:=e;rcases b4 n P with h1|h1
  ·have:=u n h1;omega
  ·omega
 refine⟨p,0,rfl,_,ae e6.bC rfl,gZ Tryz.underlying101 ⟨_,rfl,?_⟩⟩;have d8:DL w (λn=>F n/\cls n=2) h.dp h.lp X.D X.log:=l.at' 2;obtain⟨hS,R,hn⟩:=(show cM w h.sp (λn=>F n/\cls n=3) X.S/\X.S.Cl/\X.S.n=c.aC.toNat from l.at' 3)
 cases S:X.log with
 |none=>
  obtain⟨Fd,-,-,h3⟩:=d8;rw[S]at h3;have h3:h.lp=none:=h3;rw[h3];refine al.tt rfl ?_;have m:eP c self X d6=(15,(0,0),X):=by unfold eP;rw[S]
  exact E (y:=bP 15) rfl rfl rfl ⟨_,a8,rfl⟩ (b8.af a1) (λn P=>.inl P) ⟨ai.keep a1,λn P=>.inl P⟩ (by rw[m]) (by rw[m];rfl)
 |some f1=>
 obtain⟨f3,a4,c4,-⟩:=DL.PZ (S▸d8) (J.sub λn P=>P.1) λn P=>u n P.1;rw[a4];refine al.ff rfl λe9 f2=>⟨λ_=>False,?_⟩
 have b5:ai b2 e9:=f2.keep;have a2:=a1.then b5;have c5:=cP.af l a2;refine⟨p,0,rfl,id,_,_,_,_,_,_,ae c5.bC rfl,ae c5.bC rfl,p,0,rfl,_,ae c5.bC rfl,PC.ok (vo (hS.af a2) oM) ?_⟩;rintro _ h4 ⟨la,ln,lc,G,rfl,c6,K,hG⟩;have h6:=c6.len dC;have f4:=c6.aF;have T:=a2.then K;have h7:=cP.af l T;have b9:∀{f:World},ai w f->bu f (λn=>F n/\cls n=1) c.decl h.ta h.tn h.pa h.pn:=λ{f} H=>(cP.af l H).at' 1;refine⟨_,_,_,rfl,K,PC.ok (HZ q.decl (J.pW.af (J.gr.then T)) (b9 T) (λn P=>by have:=u n P.1;have:=T.size;omega) (c6.row dC (by unfold aR;omega)) (λn P=>f4 n P) oM) ?_⟩;rintro _ I ⟨vp,Fv,rfl,hv,h8,L⟩;have M:=T.then L;have c1:=((c2.then b5).then K).then L;obtain⟨g5,f5⟩:=Ij q.decl X.S.l;obtain⟨a,c7⟩:∃a,a=gD c.decl X.S (bZ c.decl X.S.l) self c.start d6:=⟨_,rfl⟩
 have h9:=a2.size;have i0:=K.size;have i1:=L.size;have v:∀{f:World},ai I f->ba 80 #[.agg #[.slice h.ta h.tn h.tc,.slice h.pa h.pn h.pc],LL h.sp,LL vp,WP self,WP c.start,xr d6] f (Ok (wR f a)):=λ{f} H=>by
  rw[c7];exact Eo (J.pW.af ((J.gr.then M).then H)) (b9 (M.then H)) (λn P=>by have:=u n P.1;have:=(M.then H).size;omega) q.decl (hS.af (M.then H)) oM (hv.af H) f5
   (by have:=q.start;unfold aM at this;omega) (by have:=Oh R.ok;unfold aM at this;omega)
 refine⟨_,rfl,L,λU eo o no w'=>eo=0/\∃g i j G,w'.heap[U]? =some (.cells (aI a.1 g i j).toArray 63 (0,0))/\Row aP 8 w' G g i a.1.aN/\(∀n,G n->I.heap.size<=n/\n<w'.heap.size)/\I.heap.size<=U/\o=a.2.1/\no=a.2.2/\ai I w',?_,?_⟩
 ·intro x d9
  have N:ai I x:=d9.keep;have i2:x.heap.size=I.heap.size:=by rw[d9.heap]
  have e0:=M.then N;have V:=cP.af l e0;have e1:=N.get (c1.get e5 id) id;have nS:¬x.heap.size<=p:=oM
  have f6:¬x.heap.size<=w.heap.size:=by have:=b5.size;have:=K.size;have:=L.size;omega
  refine⟨λn=>x.heap.size<=n,p,0,rfl,nS,_,_,_,_,_,_,ae V.bC rfl,ae V.bC rfl,p,0,rfl,nS,_,ae V.bC rfl,p,0,rfl,nS,_,ae V.bC rfl,p,0,rfl,nS,_,ae V.bC rfl,f6,au (yC d6) e1 ⟨PC.ok (v N) ?_,PA.mk λi3 c8 i4 f8=>⟨ai.keep c8,PC.ok (v (N.then c8)) ?_⟩⟩⟩
  ·rintro _ c9 ⟨g,i,j,G,rfl,W,s,d0⟩
   have i5:=d0.size;refine cz (sI a.1 g i j) ⟨_,_,rfl,ai.keep d0,PA.mk λi6 d1 i7 g0=>⟨ai.keep d1,aD (bh a.1 g i j) g0 rfl λi8 d2 i9 g1=>⟨d2.mono λn _ e=>by have e:n=c9.heap.size:=e;omega,rfl,g,i,j,G,g1,?_,λn P=>⟨by have:=s n P;omega,by have:=s n P;omega⟩,oM,rfl,rfl,?_⟩⟩⟩
   ·exact(W.af d1).keep d2 λn P e=>by have e:n=c9.heap.size:=e;have:=(s n P).2;omega
   ·exact((N.then d0).then d1).new d2 λn P=>.inr (by have P:n=c9.heap.size:=P;omega)
  ·rintro _ j0 ⟨g,i,j,G,rfl,W,s,b6⟩
   have j1:=b6.size;refine cz (sI a.1 g i j) ⟨_,_,rfl,ai.keep b6,aD (bh a.1 g i j) (b6.get f8 id) rfl λj2 d3 j3 g2=>⟨d3.mono λn _ e=>by have e:n=x.heap.size:=e;omega,rfl,g,i,j,G,g2,?_,λn P=>⟨by have:=s n P;omega,by have:=s n P;omega⟩,oM,rfl,rfl,?_⟩⟩
   ·exact W.keep d3 λn P e=>by have e:n=x.heap.size:=e;have:=(s n P).1;omega
   ·exact((N.then c8).then b6).new d3 λn P=>.inr (by have P:n=x.heap.size:=P;omega)
 rintro U _ o no _ O ⟨rfl,g,i,j,G2,b,W,s,j4,rfl,rfl,d4⟩;have Y:=M.then d4;have j5:=cP.af l Y;have g6:=c1.then d4;have b0:=d4.get (L.get (K.get (b5.get a8 id) id) id) id;have a5:a.1.Ok:=by rw[c7];exact NR hx R.ok c0 q.start oM
 have a6:∀{z:Int×(Int×Int)×bg},(if a.2.2≠0 then(a.2.2,(0,0),X)else if a.2.1 then(if(df c X [a.1]).1≠0 then((df c X [a.1]).1,(0,0),(df c X [a.1]).2)else(0,bd a.1,(df c X [a.1]).2))else(0,bd a.1,X))=z->eP c self X d6=z:=λ{z} ht=>by
  rw[<-ht,c7];unfold eP;rw[S]
 have j6:=Y.size;have d5:=aA b;refine⟨λz w'=>∃d k,bY w' p d c self k/\cy F w d w'/\(∀n,d n->F n\/b2.heap.size<=n)/\w'.heap[U]? =some (.cells (aI a.1 g i j).toArray 63 (0,0))/\(∃r,w'.heap[C.heap.size]? =some (.cells r 53 (0,0))/\r.size=8)/\eP c self X d6=(if z≠0 then(z,(0,0),k)else(0,bd a.1,k)),?_,?_⟩
 ·have A:eP c self X d6=(if a.2.2≠0 then(a.2.2,(0,0),X)else(0,bd a.1,X))->∃d k,bY O p d c self k/\cy F w d O/\(∀n,d n->F n\/b2.heap.size<=n)/\O.heap[U]? =some (.cells (aI a.1 g i j).toArray 63 (0,0))/\(∃r,O.heap[C.heap.size]? =some (.cells r 53 (0,0))/\r.size=8)/\eP c self X d6=(if a.2.2≠0 then(a.2.2,(0,0),k)else(0,bd a.1,k)):=λm=>
   ⟨F,X,b8.af Y,⟨ai.keep Y,λn P=>.inl P⟩,λn P=>.inl P,b,⟨_,b0,rfl⟩,m⟩
  refine al.eH (λB=>al.mk (λt=>?_) (λt=>A (a6 (by rw[Zq (by simpa using B),Zq (by simpa using t),Zq (by simpa using B)])))) (λB=>A (a6 (by rw[Zx B,Zx B])));refine⟨_,_,_,_,_,_,_,_,_,_,_,_,ae b rfl,ae b rfl,ae b rfl,ae b rfl,ae b rfl,ae b rfl,ae b rfl,ae b rfl,ae b rfl,ae b rfl,PA.mk λe2 b7 j7 g3=>?_⟩;have a9:=Y.then b7;have f0:Row kY 96 e2 (λn=>n=O.heap.size\/G2 n) (L1 O.heap.size) 1 [a.1]:=row_one g3 ⟨g,i,j,rfl,W.af b7,a5⟩ dC;refine PC.ok (Kc (cP.af l a9) q (J.af a9) S f0 (λn P=>?_) (by simpa using hl)) ?_
  ·have g4:I.heap.size<=n/\n<e2.heap.size:=P.elim (λe=>⟨oM,oM⟩) λh5=>by have:=s n h5;omega
   exact⟨g4.2,λt=>by have:=u n t.1;omega⟩
  rintro _ j8 ⟨rfl,h',d,Z,a7,a0,-⟩;refine⟨_,rfl,d,(df c X [a.1]).2,⟨q,h',Z,a7⟩,⟨(ai.keep a9).then a0.keep,λn P=>(a0.new n P).imp id λh1=>oM⟩,λn P=>(a0.new n P).imp id λh1=>by have:=c2.size;omega,a0.keep.get (b7.get b id) λt=>by have:=u _ t;omega,⟨_,a0.keep.get (b7.get b0 id) λt=>by have:=u _ t;omega,rfl⟩,?_⟩;exact a6 (by rw[Zq (by simpa using B),Zx t])
 ·rintro z _ j9 ⟨d,k,b3,Q,b4,b1,hz,m⟩
  refine al.eK (λc4=>?_) (λB=>⟨_,_,ae b1 rfl,ae b1 rfl,?_⟩)
  ·rw[Zx c4]at m
   exact E (y:=bP z) rfl rfl rfl hz b3 b4 Q (by rw[m]) (by rw[m];exact Zx c4)
  ·rw[Zq (by simpa using B)]at m
   exact E (y:=IW (bd a.1)) rfl rfl rfl hz b3 b4 Q (by rw[m]) (by rw[m];rfl)
end
def fK(c:World)(d:RK)(g:List bW)(h:Value)(a:World):Prop:=
 ∃(P:am) (e f:Nat) (b:List KM) (D:RK),h= .slice P e f/\aU Pq 127 (λn=>aG P=some n) a P e f b/\b.map (·.m)=g/\(∀n∈b,n.In a D)/\(∀n,D n->c.heap.size<=n/\n<a.heap.size/\aG P≠some n/\¬d n)/\∀n,aG P=some n->c.heap.size<=n/\¬d n
section
variable {w w' w0 w1:World} {p:Nat} {F E T Z:RK} {cls:Nat->Nat} {h:kp} {c:bN} {self:Int} {X:bg} {ms:List bW} {v:Value}
def bq.out(e:bq w1 ms v w')(c:∀n,Z n->n<w1.heap.size)(o:w.heap.size<=w1.heap.size):fK w Z ms v w':=by
 obtain⟨f,g,h,i,D,j,k,l,m,a,d,p⟩:=e;exact⟨f,g,h,i,D,j,k,l,m,λn P=>⟨by have:=(a n P).1;omega,(a n P).2.1,(a n P).2.2,λb=>by have:=c n b;have:=(a n P).1;omega⟩,λn P=>⟨by have:=d n P;omega,λb=>by have:=c n b;have:=d n P;omega⟩⟩
def fK.nil(w0 w:World)(Z:RK):fK w0 Z [] (.slice none 0 0) w:=⟨none,0,0,[],λ_=>False,rfl,(aU.nil w).mono (λP n=>n.elim) (λP n=>(by cases n)),rfl,sM,λP n=>n.elim,λP n=>(by cases n)⟩
def bq.one{m:bW}{va b:am}{vn vc c d a:Nat}{D:RK}(f:w.heap[a]? =some (.cells (eh m va vn vc b c d).toArray 127 (0,0)))(h:(⟨m,va,vn,vc,b,c,d⟩:KM).In w D)(e:∀P,D P->w0.heap.size<=P/\P<w.heap.size/\P≠a)(j:w0.heap.size<=a)(i:ai w0 w):
  bq w0 [m] (.slice (L1 a) 1 1) w:=by
 have k:=aA f;refine⟨L1 a,1,1,[⟨m,va,vn,vc,b,c,d⟩],D,rfl,⟨⟨eh m va vn vc b c d,λ_=>False,Own.AW f rfl (by unfold maxLen;omega),bL.one ⟨rfl,trivial⟩,λP n=>n.elim⟩,λP n=>n,λP n=>?_⟩,rfl,λP n=>?_,λP n=>⟨(e P n).1,(e P n).2.1,λg=>?_⟩,λP n=>?_,i⟩
 ·simp only[aG,Q1]at n;omega
 ·simp at n;subst n;exact h
 ·simp only[aG,Q1]at g;exact(e P n).2.2 g.symm
 ·simp only[aG,Q1]at n;omega
def GH(q:bY w p F c self X)(A:aM e):
  ba 51 #[LL p,WP e,WP l] w (Ok λv w'=>∃n,fK w n (fk c self X e l).1 v w'/\bY w' p n c self (fk c self X e l).2/\cy F w n w'):=by
 have B:=q;obtain⟨C,h,cls,b⟩:=q;have no:(e<0\/e>=c.aC\/e=self)->Ok (λv w'=>∃n,fK w n (fk c self X e l).1 v w'/\bY w' p n c self (fk c self X e l).2/\cy F w n w') (.returned (.slice none 0 0)) w:=λi=>by
  have:fk c self X e l=([],X):=by unfold fk;rw[Zx i]
  rw[this];exact Ok.mk ⟨F,fK.nil _ _ _,B,cy.refl _ _⟩
 refine lH (al.dec (λj=>no (.inl j)) (λj=>⟨p,0,rfl,_,ae b.bC rfl,al.dec (λk=>no (.inr (.inl k))) (λk=>⟨p,0,rfl,_,ae b.bC rfl,al.eH (λm=>no (.inr (.inr m))) (λm=>⟨p,0,rfl,_,ae b.bC rfl,?_⟩)⟩)⟩));have E:fk c self X e l=([lk X.S self e],{X with gG:={X.gG with asked:=aJ X.gG.asked e l}}):=by unfold fk;rw[Zq (by rintro(h|h|h);exact j h;exact k h;exact m h)]
 refine PC.ok (Kn (b.at' 6) A) ?_;rintro _ r ⟨rfl,H,s⟩;have I:cP r F cls p h c self {X with gG:={X.gG with asked:=aJ X.gG.asked e l}}:=bb.same b cd (k:=6) s H λt G J i=>by
  rcases t with _|_|_|_|_|_|_|t<;>first|exact i|exact Zz rfl J
 refine⟨rfl,λo K=>?_⟩;have u:ai r o:=K.keep;have a:=cP.af I u;refine⟨p,0,rfl,_,ae a.bC rfl,p,0,rfl,_,ae a.bC rfl,PC.ok (ze (a.at' 3).1) ?_⟩;rintro _ L ⟨R,S,T,G,rfl,x,M,f⟩;have y:=x.aF;have N:=f.size;refine⟨_,_,_,_,_,_,_,_,_,rfl,PA.mk λxg g U O=>?_⟩;rw[E];have Q:bq o [lk X.S self e] (.slice (L1 L.heap.size) 1 1) xg:=bq.one (D:=G) O ⟨(x.af g).row dC (by show X.S.vec.length*8<=aR;rw[X.S.bU];have:=(a.at' 3).1.1.n;have:X.S.n<=64:=this;unfold aR;omega),dA _ _⟩ (λd P=>⟨M d P,by have:=y d P;omega,by have:=y d P;omega⟩) N (f.then g);have z:aj F w o:=(s.mono λd _ P=>P.1).af u;exact Ok.mk ⟨F,Q.out a.aF z.size,⟨C,h,cls,cP.af a (f.then g)⟩,(z.af f).af g,λd P=>.inl P⟩
def Vg(T:ku)(b:Int):∀n∈T.due b,n∈T.open:=by
 have:∀(c:List Int) (d:List Int×List (Int×Int)),∀n∈(c.foldl (gA T.di b) d).1,n∈d.1\/n∈c:=by
  intro c
  induction c with
  |nil=>intro d n P;exact .inl P
  |cons g c f=>
   intro d n P;rcases f _ n P with a|a
   ·unfold gA at a
    split at a
    ·rcases Q6.1 a with e|e
     ·exact .inl e
     ·simp at e;subst e;exact .inr (QV ..)
    ·exact .inl a
   ·exact .inr (QJ _ a)
 intro n P;unfold ku.due ku.jB at P;rw[List.take_length]at P;exact(this T.open ([],T.asked) n P).resolve_left sM
def Tf{T:ku}(a:∀n∈T.asked,aM n.1):∀P∈T.open,aM P:=λP b=>by
 have:P∈T.asked.map (·.1):=(List.mergeSort_perm _ _).mem_iff.1 b;obtain⟨n,c,rfl⟩:=Xk.1 this;exact a n c
def NA(T:ku)(n:Int):(T.due n).length<=T.asked.length:=by
 have:∀(a:List Int) (P:List Int×List (Int×Int)),(a.foldl (gA T.di n) P).1.length<=P.1.length+a.length:=by
  intro a
  induction a with
  |nil=>intro P;simp
  |cons b a d=>
   intro P;have c:=d (gA T.di n P b);have e:(gA T.di n P b).1.length<=P.1.length+1:=by
    unfold gA;split
    ·simp
    ·omega
   simp only[List.foldl_cons,Xq];omega
 have c:=this T.open ([],T.asked);unfold ku.due ku.jB;rw[List.take_length];have e:T.open.length=T.asked.length:=by simp[ku.open,wS]
 simp only[ZQ]at c;omega
def RE(M:bY w p F c self X)(a:X.gG.asked.length<=1000):
  ba 49 #[LL p,WP e] w (Ok λv w'=>∃l,fK w l (pK self X e).1 v w'/\bY w' p l c self (pK self X e).2/\cy F w l w'):=by
 obtain⟨N,h,cls,m⟩:=M;have u:ey w h.tp (λn=>F n/\cls n=6) X.gG:=m.at' 6;have O:∀b∈X.gG.due e,aM b:=λb f=>Tf u.tD b (Vg _ _ b f);have b0:=NA X.gG e;refine oQ ⟨p,0,rfl,_,ae m.bC rfl,PC.ok (Qf u (by unfold aR;omega)) ?_⟩;rintro _ g ⟨Q,o,cc,rfl,x,R,q,hn⟩;have y:cP g F cls p h c self {X with gG:=X.gG.Tg e}:=bb.same m cd (k:=6) q R λP G z S=>by
  rcases P with _|_|_|_|_|_|_|P<;>first|exact S|exact Zz rfl z
 have T:=x.length;rw[jV,Nat.mul_one]at T;have U:Ints g Q o (X.gG.due e):=x.ints (by unfold aR;omega) O;have V:=y.aF;have W:=q.size;refine⟨_,_,_,rfl,λA B C E Y w'=>∃P:Nat,Y=P/\P<=o/\A=o-P/\bq g (((X.gG.due e).take P).map λd=>lk X.S self d) (.slice B C E) w',⟨_,0,rfl,Qj _,rfl,bq.nil g⟩,?_⟩;rintro A B C E _ _ Z ⟨P,rfl,z,rfl,i⟩;have r:=i;obtain⟨a3,n1,c1,a4,D,he,g2,g3,g4,g5,g6,j⟩:=r
 cases he
 have H:=cP.af y j;have b1:=j.size;refine al.dec (λb2=>?_) (λb3=>?_)
 ·obtain⟨n,s,b,rfl,b4,f,b5,a0⟩:=(U.af j).at (i:=(P:Int)) oM oM
  rw[Qx]at f;refine⟨n,s,rfl,oM,oM,b,a0,λa6 a7=>?_⟩;have t:ai Z a6:=a7.keep;have k:=cP.af H t;refine⟨p,0,rfl,_,ae k.bC rfl,p,0,rfl,_,ae k.bC rfl,PC.ok (ze (k.at' 3).1) ?_⟩;rintro _ b6 ⟨va,vn,vc,G,rfl,I,J,K⟩;have a8:=I.aF;have b7:=t.size;have b8:=K.size;refine⟨_,_,_,_,_,_,_,_,_,rfl,PA.mk λb9 L c2 a9=>?_⟩;refine bq.push (m:=lk X.S self b) (E:=G) (i.af ((t.then K).then L)) EY ⟨(I.af L).row dC (by show X.S.vec.length*8<=aR;rw[X.S.bU];have:X.S.n<=64:=(k.at' 3).1.1.n;unfold aR;omega),dA _ _⟩ (λn a=>⟨by have:=J n a;omega,by have:=a8 n a;omega,λa1=>by have:=g2.aF n a1;have:=J n a;omega⟩) a9 (by rw[Q8,Qy];omega) λa' c' c3 a2 c4=>⟨_,_,_,rfl,_,?_,P+1,aq oM,oM,rfl,?_⟩
  ·omega
  ·rw[Qw,f,Q3];exact a2
 ·rw[Qz oM]at i
  exact Ok.mk ⟨F,i.out V W,⟨N,h,cls,H⟩,(q.mono λn _ a=>a.1).af j,λn a=>.inl a⟩
def Ue(P:bY w p F c self X):ba 21 #[LL p] w (Ok (qI aP 3 w X.S.vec)):=by
 obtain⟨f,h,cls,n⟩:=P;refine qg ⟨p,0,rfl,_,ae n.bC rfl,PC.ok (mu (n.at' 3).1) ?_⟩;rintro _ g ⟨a,b,d,G,rfl,e⟩;exact⟨_,_,_,rfl,Ok.mk ⟨a,b,d,G,rfl,e⟩⟩
end
def wT{c:aw}:∀{P:List ah} {e:ah} {S':aw} {l':List ah},dO c P=some (e,S',l')->l'.length+1=P.length
 |[],e,S',l',n=>by simp[dO]at n
 |x::P,e,S',l',n=>by
  unfold dO at n;split at n
  ·simp only[Q1,Prod.mk.injEq]at n
   obtain⟨-,-,rfl⟩:=n;rfl
  ·cases a:dO c P with
   |none=>rw[a]at n;cases n
   |some b=>
    rw[a]at n;simp only[Option.map_some,Q1,Prod.mk.injEq]at n;obtain⟨rfl,rfl,rfl⟩:=n;have:=wT (e:=b.1) (S':=b.2.1) (l':=b.2.2) a;simp only[Xq];omega
def wU:∀(k:Nat) (a:aw) (P n:List ah),(dq k a P n).1.length+(dq k a P n).2.length=n.length+P.length
 |0,a,P,n=>rfl
 |k+1,a,P,n=>by
  unfold dq
  cases e:dO a P with
  |none=>rfl
  |some f=>
   obtain⟨b,c,d⟩:=f;have h:=wT e;have g:=wU k c d (n++[b]);show(dq k c d (n++[b])).1.length+(dq k c d (n++[b])).2.length=_;rw[g,QX,List.length_singleton];omega
def wV(P:aw)(n:List ah):(bG P n).1.length+(bG P n).2.length<=n.length:=by
 unfold bG;dsimp only;rw[wU];have:=List.length_filter_le (λa=>(P.get (bd a)).isNone) n;simp only[ZQ];omega
structure HM (w:World) (wp most:Nat) (M0 D0 E:RK) (s:Nat) (S:aw) (b:List ah) (oa:am) (on oc:Nat) (Lo:List (Bx ah)) (w1:World) (M Db Fs Do:RK):Prop where
 buf:iw w1 wp M Db most b
 set:cM w1 s Fs S
 OC:∀x∈Lo,nB.In w1 Do x
 out:aU nB.kr 63 (λb=>aG oa=some b) w1 oa on oc Lo
 nM:∀b,M b->(M0 b\/w.heap.size<=b)/\¬Fs b
 nD:∀b,Db b->(D0 b\/w.heap.size<=b)/\¬Fs b
 nF:∀b,Fs b->w.heap.size<=b
 nO:∀b,Do b->(E b\/D0 b\/w.heap.size<=b)/\b<w1.heap.size/\¬M b/\¬Fs b
 nA:∀b,aG oa=some b->w.heap.size<=b/\¬M b/\¬Fs b/\¬Do b/\¬Db b
 keep:aj M0 w w1
 cl:S.Cl
variable{a:Nat}{d:am}{r:TypeId}{q v:UX}
section
variable {w w' w0 w1 w2:World} {p wp most s on oc:Nat} {F E T Z M0 D0 M Db Fs Do:RK} {cls:Nat->Nat} {h:kp} {c:bN} {self:Int} {X:bg} {S:aw} {b:List ah} {oa:am} {Lo:List (Bx ah)}
def iw.Qb(n:iw w p M Db most b):∀b,M b->b<w.heap.size:=by obtain⟨-,a,d,c,e,P⟩:=n;exact P.dM
def iw.Ko(n:iw w p M Db most b):∀b,Db b->b<w.heap.size/\¬M b:=by obtain⟨-,a,d,c,e,P⟩:=n;exact P.dD
def HM.af(n:HM w wp most M0 D0 E s S b oa on oc Lo w1 M Db Fs Do)(P:ai w1 w2):HM w wp most M0 D0 E s S b oa on oc Lo w2 M Db Fs Do:=
 ⟨n.buf.af P,n.set.af P,λc d=>(n.OC c d).keep P λ_ _ h=>h,n.out.af P,n.nM,n.nD,n.nF,λb a=>⟨(n.nO b a).1,by have:=(n.nO b a).2.1;have:=P.size;omega,(n.nO b a).2.2⟩,n.nA,n.keep.af P,n.cl⟩
def HM.add(P:HM w wp most M0 D0 E s S b oa on oc Lo w1 M Db Fs Do){h l:Nat}(o:Row aP 8 w1 f d h m.aN)(p:∀b,f b->b<w1.heap.size/\¬Fs b)(i:m.Ok)(y:S.l.length<=20000000):
  ba 74 #[LL s,kN m d h l] w1 (Ok λj w'=>j= WP (S.add m).1/\∃e,HM w wp most M0 D0 E s (S.add m).2 b oa on oc Lo w' M Db e Do/\aj Fs w1 w'/\∀b,e b->Fs b\/w1.heap.size<=b):=by
 refine(vm P.set o p i oM).mono ?_;rintro _ w2 ⟨j,rfl,rfl,k,q,a⟩;have r:=P.buf.Qb;have t:=P.buf.Ko;have z:=P.keep.size;have c:∀b,b<w1.heap.size->¬Fs b->¬k b:=λb A u g=>(a.new b g).elim u oM;refine Ok.mk ⟨rfl,k,⟨P.buf.keep a.keep (λb n=>(P.nM b n).2) λb n=>(P.nD b n).2,q,λv x=>(P.OC v x).keep a.keep λb n=>(P.nO b n).2.2.2,P.out.keep a.keep λb n=>(P.nA b n).2.2.1,λb n=>⟨(P.nM b n).1,c b (r b n) (P.nM b n).2⟩,λb n=>⟨(P.nD b n).1,c b (t b n).1 (P.nD b n).2⟩,
  λb n=>(a.new b n).elim (P.nF b) λY=>oM,λb n=>⟨(P.nO b n).1,by have:=(P.nO b n).2.1;have:=a.keep.size;omega,(P.nO b n).2.2.1,c b (P.nO b n).2.1 (P.nO b n).2.2.2⟩,λb n=>⟨(P.nA b n).1,(P.nA b n).2.1,c b (P.out.aF b n) (P.nA b n).2.2.1,(P.nA b n).2.2.2⟩,P.keep.new a.keep λb n=>.inr (P.nF b n),P.cl.add i⟩,a.keep,a.new⟩
def HM.push{u:Program}(P:HM w wp most M0 D0 E s S b oa on oc Lo w1 M Db Fs Do)(z:kv u g 63 nB.kr.k 96){c:Bx ah}(A:nB.In w1 f c)(d:∀b,f b->(E b\/D0 b\/w.heap.size<=b)/\b<w1.heap.size/\¬M b/\¬Fs b/\aG oa≠some b){B:Nat×Nat}(C:w1.heap[a]? =some (.cells (aI c.x c.a c.n c.c).toArray 63 B))(Q:Lo.length<=1000000)(p:∀k o w' t,HM w wp most M0 D0 E s S b k (on+1) o (Lo++[c]) w' M Db Fs t->aj (λb=>aG oa=some b) w1 w'->(∀b,aG k=some b->aG oa=some b\/w1.heap.size<=b)->q (.slice k (on+1) o) w'):
  aK u (Builtin.append_ #[g,g] r #[.slice oa on oc,.slice (L1 a) 1 1]) w1 q v:=by
 refine fJ (c:=nB.kr) (x:=c) (D:=λ_=>False) P.out z C ⟨rfl,trivial⟩ (λb n=>n.elim) (by unfold aR;omega) (by unfold maxLen;omega) λk o w2 R x e F=>?_;have I:=x.alone;have y:∀b,aG k=some b->aG oa=some b\/w1.heap.size<=b:=λb n=>(F b (x.self b n)).imp id λh=>h.resolve_left id;have T:=e.size;have z1:=P.keep.size;have J:=P.buf.Qb;have K:=P.buf.Ko;have L:=P.set.aF;have nA:=P.nA;refine p k o w2 (λb=>Do b\/f b) ⟨P.buf.keep e (λb n i=>(nA b i).2.1 n) λb n i=>(nA b i).2.2.2.2 n,P.set.keep e λb n i=>(nA b i).2.2.1 n,λN l=>?_,I,P.nM,P.nD,P.nF,λb n=>?_,λb n=>?_,P.keep.new e λb n=>.inr (nA b n).1,P.cl⟩ e y
 ·rcases Q6.1 l with l|l
  ·exact((P.OC N l).keep e λb n i=>(nA b i).2.2.2.1 n).mono λb n=>.inl n
  ·simp at l;subst l
   exact(A.keep e λb n=>(d b n).2.2.2.2).mono λb n=>.inr n
 ·rcases n with n|n
  ·exact⟨(P.nO b n).1,by have:=(P.nO b n).2.1;omega,(P.nO b n).2.2⟩
  ·exact⟨(d b n).1,by have:=(d b n).2.1;omega,(d b n).2.2.1,(d b n).2.2.2.1⟩
 ·rcases y b n with H|H
  ·exact⟨(nA b H).1,(nA b H).2.1,(nA b H).2.2.1,λm=>m.elim (nA b H).2.2.2.1 λO=>(d b O).2.2.2.2 H,(nA b H).2.2.2.2⟩
  ·exact⟨oM,λj=>by have:=J b j;omega,λj=>by have:=L b j;omega,λj=>j.elim (λm=>by have:=(P.nO b m).2.1;omega) λm=>by have:=(d b m).2.1;omega,λj=>by have:=(K b j).1;omega⟩
def HM.wait(n:HM w wp most M0 D0 E s S b oa on oc Lo w1 M Db Fs Do){j p:Nat}(q:Row aP 8 w1 f d j m.aN)(r:∀b,f b->b<w1.heap.size)(t:m.Ok):
  ba 246 #[LL wp,kN m d j p] w1 (Ok λk w'=>∃u,k= .bool u/\∃g h,HM w wp most M0 D0 E s S (eT most b m).2 oa on oc Lo w' g h Fs Do/\aj M w1 w'):=by
 refine(KW n.buf q r t).mono ?_;rintro _ w2 ⟨k,rfl,rfl,g,v,x,e,i,l⟩;have o:=n.set.aF;have A:=n.keep.size;have B:=e.size;refine Ok.mk ⟨_,rfl,g,v,⟨x,n.set.keep e λb P c=>(n.nM b c).2 P,λy z=>(n.OC y z).keep e λb P=>(n.nO b P).2.2.1,n.out.keep e λb P=>(n.nA b P).2.1,λb P=>?_,λb P=>?_,n.nF,λb P=>⟨(n.nO b P).1,by have:=(n.nO b P).2.1;omega,λc=>?_,(n.nO b P).2.2.2⟩,λb P=>⟨(n.nA b P).1,λc=>?_,(n.nA b P).2.2.1,(n.nA b P).2.2.2.1,λc=>?_⟩,?_,n.cl⟩,e⟩
 ·rcases i b P with a|a
  ·exact n.nM b a
  ·exact⟨.inr oM,λc=>by have:=o b c;omega⟩
 ·rcases l b P with a|a
  ·exact n.nD b a
  ·exact⟨.inr oM,λc=>by have:=o b c;omega⟩
 ·rcases i b c with a|a
  ·exact(n.nO b P).2.2.1 a
  ·have:=(n.nO b P).2.1;omega
 ·rcases i b c with a|a
  ·exact(n.nA b P).2.1 a
  ·have:=n.out.aF b P;omega
 ·rcases l b c with a|a
  ·exact(n.nA b P).2.2.2.2 a
  ·have:=n.out.aF b P;omega
 ·exact n.keep.new e λb P=>(n.nM b P).1
def HM.ready(n:HM w wp most M0 D0 E s S b oa on oc Lo w1 M Db Fs Do)(i:S.l.length<=19000000):
  ba 247 #[LL wp,LL s] w1 (Ok λh w'=>∃a e f d,h= .slice a e f/\aU nB.kr 63 (λb=>aG a=some b) w' a e f d/\d.map (·.x)=(bG S b).1/\(∀g∈d,nB.In w' Db g)/\(∀b,aG a=some b->w1.heap.size<=b)/\
   HM w wp most M0 D0 E s S (bG S b).2 oa on oc Lo w' M Db Fs Do/\aj M w1 w'):=by
 refine(Gu n.buf n.set n.cl i).mono ?_;rintro _ w2 ⟨h,rfl,a,e,f,d,rfl,j,k,l,m,o,c⟩;have r:=c.size;exact Ok.mk ⟨a,e,f,d,rfl,j,k,l,m,⟨o,n.set.keep c λb P p=>(n.nM b p).2 P,λg q=>(n.OC g q).keep c λb P=>(n.nO b P).2.2.1,n.out.keep c λb P=>(n.nA b P).2.1,n.nM,n.nD,n.nF,λb P=>⟨(n.nO b P).1,by have:=(n.nO b P).2.1;omega,(n.nO b P).2.2⟩,n.nA,n.keep.new c λb P=>(n.nM b P).1,n.cl⟩,c⟩
end
section
variable {w w' w0 w1 w2:World} {p wp most s on oc:Nat} {F E T Z M0 D0 M Db Fs Do:RK} {cls:Nat->Nat} {h:kp} {c:bN} {self:Int} {X:bg} {S:aw} {b:List ah} {oa:am} {Lo:List (Bx ah)} {evs:List ah} {ea:am} {en ec:Nat}
def CX(most:Nat)(n:List ah)(P:ah):(eT most n P).2.length<=n.length+1:=by
 unfold eT;split
 ·show n.length<=_;omega
 ·show(dN P n).length<=_
  rw[(cN P n).length_eq];simp
def Qa(L:cP w F cls p h c self X)(e5:jX c self)(hr:Row kY 96 w E ea en evs)(A:∀b,E b->b<w.heap.size/\¬F b)(m4:evs.length<=1000)(hl:X.S.l.length<=18000000):
  ba 190 #[LL p,.slice ea en ec] w (Ok λf0 w'=>∃oa on oc Lo U o Do,f0= .slice oa on oc/\aU nB.kr 63 (λb=>aG oa=some b) w' oa on oc Lo/\Lo.map (·.x)=(gI c X evs).1/\(∀n∈Lo,nB.In w' Do n)/\
   cP w' U o p h c self {X with waits:=(gI c X evs).2}/\cy F w U w'/\(∀b,Do b->b<w'.heap.size/\aG oa≠some b/\¬(U b/\o b=2))/\(∀b,aG oa=some b->w.heap.size<=b/\¬U b)/\(gI c X evs).1.length<=evs.length+256):=by
 obtain⟨m9,n0,n1⟩:=e5.aC;have e6:=L.aF;have i7:=L.Kb;obtain⟨hS,a0,hn⟩:=(show cM w h.sp (λb=>F b/\cls b=3) X.S/\X.S.Cl/\X.S.n=c.aC.toNat from L.at' 3)
 obtain⟨M0,D0,t,c3,a1⟩:=(show Py w (λb=>F b/\cls b=5) h.wp c.buffer.toNat X.waits from L.at' 5)
 have f1:X.waits.length<=256:=Xx t.1.2.le t.1.1;have n3:=hr.len;refine nX (PC.ok (Kl (evs:=[]) L e5 (dA w (λ_=>False)) (λb a=>a.elim) (by simp;omega)) ?_);rintro _ w4 ⟨s,i8,rfl,i9,b1,k4⟩;have e7:eY c X.S []=X.S:=(wx a0 hn []).trans rfl;have z4:=k4.size;have j0:(eY c X.S []).Cl:=by rw[e7];exact a0
 have j1:(eY c X.S []).l.length=X.S.l.length:=by rw[e7]
 have j2:HM w h.wp c.buffer.toNat M0 D0 E s (eY c X.S []) X.waits none 0 0 [] w4 M0 D0 i8 (λ_=>False):=by
  have j3:=t.Qb;have e8:=t.Ko;refine⟨t.af k4,i9,sM,(aU.nil w4).mono (λb a=>a.elim) (λb a=>(by cases a)),λb a=>⟨.inl a,λi=>by have:=j3 b a;have:=b1 b i;omega⟩,λb a=>⟨.inl a,λi=>by have:=(e8 b a).1;have:=b1 b i;omega⟩,b1,λb a=>a.elim,λb a=>(by cases a),ai.keep k4,j0⟩
 have B:∀{w1:World},aj M0 w w1->w1.heap[p]? =some (.cells (h.cells c self) 105 (0,0)):=λ{w1} hk=>hk.get L.bC λj=>by
  have:=(c3 p j).2;rw[i7.2]at this;cases this
 have e9:∀b,E b->¬M0 b:=λb a j=>(A b a).2 (c3 b j).1;obtain⟨C,f2⟩:∃C,C=gT c.buffer.toNat evs (eY c X.S []) [] X.waits:=⟨_,rfl⟩
 have r:gI c X evs=pM (C.2.2.length+1) C.1 C.2.1 C.2.2:=by rw[f2];rfl
 refine⟨_,rfl,λH oa on oc I w'=>∃(d:Nat) (S:aw) (b:List ah) (Lo:List (Bx ah)) (M Db Fs Do:RK),I=d/\d<=en/\H=en-d/\HM w h.wp c.buffer.toNat M0 D0 E s S b oa on oc Lo w' M Db Fs Do/\gT c.buffer.toNat (evs.drop d) S (Lo.map (·.x)) b=C/\S.l.length<=X.S.l.length+Lo.length/\Lo.length<=d/\b.length<=256/\Lo.length+b.length<=X.waits.length+d,
  ⟨_,0,_,_,_,_,_,_,_,rfl,Qj _,rfl,j2,f2.symm,by simp[j1],sM,f1,sM⟩,?_⟩
 rintro H oa on oc _ _ f4 ⟨d,S,b,Lo,M,Db,Fs,Do,rfl,hj,rfl,i,u,V,f5,b3,f6⟩;have j4:=i.keep.size;have j5:=i.out.len dC;refine al.dec (λj6=>?_) (λj7=>?_)
 ·obtain⟨n,g⟩:∃n,evs[d]? =some n:=⟨_,Qq oM⟩
  have a8:evs.drop d=n::evs.drop (d+1):=by
   rw[X4 oM]
   congr 1
   exact(Qv.1 g).2
  rw[a8]at u;obtain⟨gb,go,es,ha,j8,n4,d3,xa,xn,xc,rfl,d4,b4⟩:=(hr.keep i.keep e9).el d n g;refine⟨gb,go,ha,oM,oM,cu (es:=aI n xa xn xc) (k:=10) (bh _ _ _ _) rfl (λI ht=>by rw[Qx];exact d3 I ht) (PA.mk λn8 j9 n9 k0=>aD (bh n xa xn xc) k0 rfl λk1 k2 o0 f8=>au (bh n xa xn xc) f8 ?_)⟩;have a2:ai f4 k1:=j9.new k2 λb a=>.inr (by have a:b=f4.heap.size:=a;omega);have o1:=a2.size;have d5:∀b,E b->¬Fs b:=λb a j=>by have:=i.nF b j;have:=(A b a).1;omega
  refine PC.ok ((i.af a2).add (d4.af a2) (λb a=>⟨by have:=(A b a).1;omega,d5 b a⟩) b4 oM) ?_;rintro _ k3 ⟨rfl,N,J,a5,m5⟩;have o2:=a5.size;have b5:=i.set.aF;have v:=a5.get f8 λj=>by have:=b5 _ j;omega
  have g0:=S.AA n;have f3:gT c.buffer.toNat (n::evs.drop (d+1)) S (Lo.map (·.x)) b=if(S.add n).1=0 then gT c.buffer.toNat (evs.drop (d+1)) (S.add n).2 (Lo.map (·.x)++[n]) b else if(S.add n).1=16 then gT c.buffer.toNat (evs.drop (d+1)) S (Lo.map (·.x)) b else gT c.buffer.toNat (evs.drop (d+1)) S (Lo.map (·.x)) (eT c.buffer.toNat b n).2:=rfl
  rw[f3]at u;have a9:(S.add n).1≠0->(S.add n).2=S:=λW=>by
   rcases S.gg n with⟨-,e⟩|⟨e,-⟩
   ·exact e
   ·rw[e]at W;exact Zz rfl W
  refine⟨_,rfl,al.eH (λq=>?_) (λq=>al.eH (λd6=>?_) (λd6=>λk5 k6=>?_))⟩
  ·rw[Zx q]at u
   have c5:(S.add n).2.l.length<=S.l.length+1:=g0;refine⟨_,_,_,_,_,_,_,_,_,_,_,_,ae v rfl,ae v rfl,ae v rfl,ae v rfl,ae v rfl,ae v rfl,ae v rfl,ae v rfl,ae v rfl,ae v rfl,PA.mk λk7 d7 o3 k8=>?_⟩;have g1:nB.In k7 E ⟨n,xa,xn,xc⟩:=⟨((d4.af a2).keep a5 λb a=>d5 b a).af d7,b4⟩
   have g2:=J.af d7;refine g2.push tX g1 (λb a=>⟨.inl a,by have:=(A b a).1;have:=d7.size;omega,λj=>?_,λj=>by have:=J.nF b j;have:=(A b a).1;omega,λm=>by have:=(J.nA b m).1;have:=(A b a).1;omega⟩) k8 oM λa' c' o4 O g3 m6 _=>⟨_,_,_,rfl,_,oM,d+1,_,_,_,M,Db,N,O,aq oM,oM,rfl,g3,?_,?_,?_,b3,?_⟩
   ·rcases(J.nM b j).1 with e|e
    ·exact e9 b a e
    ·have:=(A b a).1;omega
   ·rw[Q3];exact u
   ·rw[QX,List.length_singleton];omega
   ·rw[QX,List.length_singleton];omega
   ·rw[QX,List.length_singleton];omega
  ·rw[Zq q,Zx d6]at u
   rw[a9 q]at J;exact⟨_,oM,d+1,S,b,Lo,M,Db,N,Do,aq oM,oM,rfl,J,u,V,oM,b3,oM⟩
  ·rw[Zq q,Zq d6]at u
   rw[a9 q]at J;have c6:ai k3 k5:=k6.keep;have c9:=J.af c6;refine⟨p,0,rfl,_,ae (B c9.keep) rfl,au (bh n xa xn xc) (c6.get v id) (PC.ok (c9.wait (((d4.af a2).keep a5 λb a=>d5 b a).af c6) (λb a=>by have:=(A b a).1;have:=c6.size;omega) b4) ?_)⟩;rintro _ o5 ⟨I,rfl,M',b6,b7,m7⟩;have d8:=CX c.buffer.toNat b n;have g4:(eT c.buffer.toNat b n).2.length<=256:=Xx b7.buf.1.2.le b7.buf.1.1;exact⟨_,rfl,_,oM,d+1,S,_,Lo,M',b6,N,Do,aq oM,oM,rfl,b7,u,V,oM,g4,oM⟩
 have o6:d=evs.length:=oM
 rw[List.drop_eq_nil_of_le oM]at u;have d0:C=(S,Lo.map (·.x),b):=u.symm;rw[d0]at r;have b8:Lo.length+b.length<=evs.length+256:=oM
 refine⟨λH oa on oc w'=>∃(S:aw) (b:List ah) (Lo:List (Bx ah)) (M Db Fs Do:RK) (k:Nat),H=b.length/\HM w h.wp c.buffer.toNat M0 D0 E s S b oa on oc Lo w' M Db Fs Do/\b.length<=k/\pM (k+1) S (Lo.map (·.x)) b=gI c X evs/\S.l.length<=X.S.l.length+Lo.length/\Lo.length+b.length<=evs.length+256,
  ⟨_,S,b,Lo,M,Db,Fs,Do,b.length,rfl,i,Q4 _,r.symm,V,b8⟩,?_⟩
 clear i u V f5 b3 f6 b8 j5 j4 d0 r
 rintro H oa on oc _ o7 ⟨S,b,Lo,M,Db,Fs,Do,k,rfl,i,hk,r,V,f6⟩;have o8:=i.keep.size;refine⟨p,0,rfl,_,ae (B i.keep) rfl,PC.ok (i.ready oM) ?_⟩;rintro _ o9 ⟨Y,n2,f7,Z,rfl,g5,d9,k9,g6,l,g7⟩;have p0:=g5.len dC;have d8:=wV S b;have g8:Z.length=(bG S b).1.length:=by rw[<-d9,Q8]
 have l0:pM (k+1) S (Lo.map (·.x)) b=if(bG S b).1=[]then(Lo.map (·.x),(bG S b).2)else pM k (eE (bG S b).1 S (Lo.map (·.x))).1 (eE (bG S b).1 S (Lo.map (·.x))).2 (bG S b).2:=rfl
 rw[l0]at r;have p1:=g7.size;refine⟨_,_,_,rfl,al.eH (λq=>?_) (λq=>?_)⟩
 ·have g9:(bG S b).1=[]:=QW oM
  rw[Zx g9]at r;rw[<-r];have hM:=l.buf.Qb;have l3:=l.buf.Ko;obtain⟨U,o,b9,a3,l4,c0,-⟩:=L.fg cd (k:=5) (G':=λb=>M b\/Db b) (C2:=mj p (h.cells c self) h c {X with waits:=(bG S b).2} X.S.l) (l.keep.mono λb _ a=>c3 b a)
   (λn g=>g.elim (λe=>(l.nM n e).1.imp (c3 n) id) λe=>(l.nD n e).1.imp (a1 n) id) (λn g=>g.elim (hM n) λe=>(l3 n e).1) ⟨M,Db,l.buf,λ_ h=>.inl h,λ_ h=>.inr h⟩ λd G hj hc=>by
    rcases d with _|_|_|_|_|_|_|d<;>first|exact hc|exact Zz rfl hj
  refine Ok.mk ⟨oa,on,oc,Lo,U,o,Do,rfl,l.out,rfl,l.OC,b9,a3,λn g=>⟨(l.nO n g).2.1,λm=>(l.nA n m).2.2.2.1 g,λQ=>?_⟩,λn g=>⟨(l.nA n g).1,λQ=>?_⟩,by rw[Q8];omega⟩
  ·have e0:F n/\cls n=2:=by
    have:=congrFun (c0 2 dC) n;exact this▸Q
   rcases(l.nO n g).1 with e|e|e
   ·exact(A n e).2 e0.1
   ·have:=(a1 n e).2;rw[e0.2]at this;cases this
   ·have:=e6 n e0.1;omega
  ·rcases l4 n Q with e|e
   ·have:=e6 n e.1;have:=(l.nA n g).1;omega
   ·exact e.elim (l.nA n g).2.1 (l.nA n g).2.2.2.2
 ·have W:(bG S b).1≠[]:=λm=>by rw[m,ZQ]at g8;omega
  rw[Zq W]at r;obtain⟨k',rfl⟩:∃k',k=k'+1:=⟨k-1,by
   have:0<b.length:=by
    have:=List.length_pos_iff.2 W;omega
   omega⟩
  obtain⟨av,e1⟩:∃av,av=eE (bG S b).1 S (Lo.map (·.x)):=⟨_,rfl⟩
  rw[<-e1]at r;have h2:Lo.length+Z.length+(bG S b).2.length<=evs.length+256:=oM
  obtain⟨b2,b3⟩:∃b2,b2=(bG S b).2:=⟨_,rfl⟩
  rw[<-b3]at r l h2 d8;have e8:=l.buf.Ko;obtain⟨x,hR⟩:∃x,x=(bG S b).1:=⟨_,rfl⟩
  rw[<-hR]at d9 g8 d8 e1;have f9:∀P,aG Y=some P->¬Fs P/\aG oa≠some P:=λP f=>by
   have e:=g6 P f;exact⟨λj=>by have:=i.set.aF P j;omega,λm=>by have:=i.out.aF P m;omega⟩
  have p2:∀P,aG Y=some P->¬Db P:=λP f j=>by
   have e:=g6 P f;have h6:=(i.buf.Ko P j).1;omega
  refine⟨λH oa on oc I w'=>∃(d:Nat) (S:aw) (Lo:List (Bx ah)) (Fs Do:RK),I=d/\d<=n2/\H=n2-d/\HM w h.wp c.buffer.toNat M0 D0 E s S b2 oa on oc Lo w' M Db Fs Do/\eE (x.drop d) S (Lo.map (·.x))=av/\S.l.length<=X.S.l.length+Lo.length/\Lo.length+(n2-d)+b2.length<=evs.length+256/\aU nB.kr 63 (λb=>aG Y=some b) w' Y n2 f7 Z/\(∀n∈Z,nB.In w' Db n)/\∀P,aG Y=some P->¬Fs P/\aG oa≠some P,
   ⟨_,0,S,Lo,Fs,Do,rfl,Qj _,rfl,l,e1.symm,V,oM,g5,k9,f9⟩,?_⟩
  rintro H c2 h0 h1 _ _ h3 ⟨d,y,b0,l5,h4,rfl,hj,rfl,K,R,l6,b8,c5,h7,e3⟩;have p3:=K.keep.size;have m8:=K.out.len dC;refine al.dec (λj6=>?_) (λj7=>?_)
  ·obtain⟨n,g⟩:∃n,Z[d]? =some n:=⟨_,Qq oM⟩
   have h8:x[d]? =some n.x:=by rw[<-d9,Q9,g];rfl
   have a8:x.drop d=n.x::x.drop (d+1):=by
    rw[X4 (Qv.1 h8).1]
    congr 1
    exact(Qv.1 h8).2
   have h9:eE (n.x::x.drop (d+1)) y (b0.map (·.x))=if(y.add n.x).1=0 then eE (x.drop (d+1)) (y.add n.x).2 (b0.map (·.x)++[n.x])else eE (x.drop (d+1)) (y.add n.x).2 (b0.map (·.x)):=rfl
   rw[a8,h9]at R;have d1:=h7 n (QZ g);obtain⟨gb,go,es,ha,j8,p4,d3,rfl,-⟩:=(c5.row (bytes:=96) dC (by unfold aR;omega)).el d n g;refine⟨gb,go,ha,oM,oM,cu (es:=aI n.x n.a n.n n.c) (k:=10) (bh _ _ _ _) rfl (λI ht=>by rw[Qx];exact d3 I ht) (PA.mk λp5 l7 p6 l8=>aD (bh n.x n.a n.n n.c) l8 rfl λl9 m0 p7 i0=>au (bh n.x n.a n.n n.c) i0 ?_)⟩;have a4:ai h3 l9:=l7.new m0 λb a=>.inr (by have a:b=h3.heap.size:=a;omega);have p8:=a4.size;have m1:=K.buf.Ko;have i1:=c5.aF;refine PC.ok ((K.af a4).add (d1.keep a4 λ_ _ h=>h).1 (λP f=>⟨by have:=(m1 P f).1;omega,(K.nD P f).2⟩) d1.2 oM) ?_;rintro _ m2 ⟨rfl,e4,T,a6,i2⟩;have p9:=a6.size;have b5:=K.set.aF;have z:=a6.get i0 λj=>by have:=b5 _ j;omega
   have g0:=y.AA n.x;have c4:=(c5.af a4).keep a6 λP f=>(e3 P f).1;have c7:∀P∈Z,nB.In m2 Db P:=λP f=>((h7 P f).keep a4 λ_ _ h=>h).keep a6 λc8 Q=>(K.nD c8 Q).2;have a7:∀P,aG Y=some P->¬e4 P/\aG c2≠some P:=λP f=>⟨λj=>(i2 P j).elim (e3 P f).1 λe=>by have:=i1 P f;omega,(e3 P f).2⟩
   refine⟨_,rfl,al.eH (λq=>?_) (λq=>?_)⟩
   ·rw[Zx q]at R
    refine⟨_,_,_,_,_,_,_,_,_,_,_,_,ae z rfl,ae z rfl,ae z rfl,ae z rfl,ae z rfl,ae z rfl,ae z rfl,ae z rfl,ae z rfl,ae z rfl,PA.mk λq0 c1 q1 m3=>?_⟩;have i3:=T.af c1;have d2:=T.buf.Ko;have q2:=c1.size;refine i3.push tX ((c7 n (QZ g)).keep c1 λ_ _ h=>h) (λP f=>⟨.inr (T.nD P f).1,by have:=(d2 P f).1;omega,(d2 P f).2,(T.nD P f).2,λm=>(T.nA P m).2.2.2.2 f⟩) m3 oM λa' c' q3 O i4 e2 i5=>⟨_,_,_,rfl,_,oM,d+1,_,_,e4,O,aq oM,oM,rfl,i4,?_,?_,?_,(c4.af c1).keep e2 λP f m=>(a7 P f).2 m,λP f=>((c7 P f).keep c1 λ_ _ h=>h).keep e2 λc8 Q m=>(T.nA c8 m).2.2.2.2 Q,λP f=>⟨(a7 P f).1,λm=>?_⟩⟩
    ·rw[Q3];exact R
    ·rw[QX,List.length_singleton];omega
    ·rw[QX,List.length_singleton];omega
    ·rcases i5 P m with e|e
     ·exact(a7 P f).2 e
     ·have:=c4.aF P f;omega
   ·rw[Zq q]at R
    have a9:(y.add n.x).2.l.length<=y.l.length:=by
     rcases y.gg n.x with⟨-,e⟩|⟨e,-⟩
     ·rw[e];exact Q4 _
     ·rw[e]at q;exact Zz rfl q
    exact⟨_,oM,d+1,_,b0,e4,h4,aq oM,oM,rfl,T,R,oM,oM,c4,c7,a7⟩
  ·rw[List.drop_eq_nil_of_le oM]at R
   have i6:av=(y,b0.map (·.x)):=R.symm;rw[i6]at r;have q4:0<x.length:=by have:=List.length_pos_iff.2 W;rw[<-hR]at this;exact this
   exact⟨b2.length,oM,y,b2,b0,M,Db,l5,h4,k',rfl,K,oM,r,l6,oM⟩
end
structure Ui where
 kind:Int
 n:Int
 now:Int
 cmd:lE
 m:bW
section
variable (c:bN) (self:Int)
def RM(P:bg)(n:Ui):Int×bg:=
 if n.kind=0 then((eP c self P n.cmd).1,(eP c self P n.cmd).2.2)else
 if n.kind=1 then(0,(fk c self P n.n (pick n.now 4611686018427387904)).2)else
 if n.kind=2 then(ck c self P n.m).2 else
 if n.kind=3 then(0,(pK self P (pick n.now 4611686018427387904)).2)else
 if n.kind=4 then g_ c P n.n else
 if n.kind=5 then(0,{P with D:=P.D.GI n.n})else
 if n.kind=6 then de c P else(0,P)
end
structure jY (X Y:bg):Prop where
 evs:Y.S.l.length<=X.S.l.length+300\/Y.S.l.length<=16777216
 asked:Y.gG.asked.length<=X.gG.asked.length+1
def jY.refl(n:bg):jY n n:=⟨.inl oM,oM⟩
def Kp{n P:Type}[BEq n][LawfulBEq n](a:n)(b:P):∀(c:List (n×P)),(aJ c a b).length<=c.length+1
 |[]=>by simp[aJ]
 |(e,f)::d=>by
  unfold aJ;split
  ·simp
  ·have:=Kp a b d
   simp;omega
def FT{P c:Type}[BEq P][LawfulBEq P](n:P)(d:c):∀(b:List (P×c)),n∈b.map (·.1)->(aJ b n d).map (·.1)=b.map (·.1)
 |[],h=>by simp at h
 |(f,i)::e,h=>by
  unfold aJ
  by_cases a:(n==f)=true
  ·rw[Zx a]
   have:=eq_of_beq a;subst this;rfl
  ·rw[Zq a]
   have g:n∈e.map (·.1):=by
    rcases Q2.1 h with h|h
    ·exact Zz (by rw[h];simp) a
    ·exact h
   simp[FT n d e g]
def Kq{n b:Type}[BEq n][LawfulBEq n](P:n):∀(a:List (n×b)),(bM a P).length<=a.length
 |[]=>by simp[bM]
 |(d,e)::c=>by
  unfold bM;split
  ·simp
  ·have:=Kq P c
   simp;omega
def HN(b n:Int)(P:List Int×List (Int×Int))(a:Int)(c:a∈P.2.map (·.1)):(gA b n P a).2.map (·.1)=P.2.map (·.1):=by
 unfold gA;split
 ·exact FT _ _ _ c
 ·rfl
def wW(b n:Int):∀(a:List Int) (P:List Int×List (Int×Int)),(∀x∈a,x∈P.2.map (·.1))->(a.foldl (gA b n) P).2.map (·.1)=P.2.map (·.1)
 |[],P,_=>rfl
 |x::a,P,c=>by
  have d:=HN b n P x (c x (QV ..));rw[List.foldl_cons,wW b n a _ λe f=>by rw[d];exact c e (QJ _ f),d]
def ku.RS(n:ku)(P:Int):(n.Tg P).asked.length=n.asked.length:=by
 have b:=wW n.di P (n.open.take n.open.length) ([],n.asked) λc a=>by
  have a:=List.mem_of_mem_take a;unfold ku.open at a;exact(List.mergeSort_perm _ _).mem_iff.1 a
 have:=Zj List.length b;rw[Q8,Q8]at this;exact this
def sD(n:Nat):∀(b:List ah) (c:aw) (P a:List ah),(gT n b c P a).2.1.length+(gT n b c P a).2.2.length<=P.length+a.length+b.length
 |[],c,P,a=>by simp[gT]
 |e::b,c,P,a=>by
  unfold gT;split
  ·have:=sD n b (c.add e).2 (P++[e]) a
   simp at this⊢;omega
  split
  ·have:=sD n b c P a
   simp;omega
  ·have:=sD n b c P (eT n a e).2
   have:=CX n a e;simp;omega
def se:∀(P:List ah) (a:aw) (n:List ah),(eE P a n).2.length<=n.length+P.length
 |[],a,n=>by simp[eE]
 |e::P,a,n=>by
  unfold eE;split
  ·have:=se P (a.add e).2 (n++[e])
   simp at this⊢;omega
  ·have:=se P (a.add e).2 n
   simp;omega
def FU:∀(k:Nat) (P:aw) (n a:List ah),(pM k P n a).1.length<=n.length+a.length
 |0,P,n,a=>by simp[pM]
 |k+1,P,n,a=>by
  unfold pM;have b:=wV P a;dsimp only;split
  ·simp
  ·have c:=se (bG P a).1 P n
   have d:=FU k (eE (bG P a).1 P n).1 (eE (bG P a).1 P n).2 (bG P a).2;omega
def uU(P:bN)(n:bg)(a:List ah):(gI P n a).1.length<=n.waits.length+a.length:=by
 have b:=sD P.buffer.toNat a (eY P n.S []) [] n.waits;have c:=FU ((gT P.buffer.toNat a (eY P n.S []) [] n.waits).2.2.length+1) (gT P.buffer.toNat a (eY P n.S []) [] n.waits).1 (gT P.buffer.toNat a (eY P n.S []) [] n.waits).2.1 (gT P.buffer.toNat a (eY P n.S []) [] n.waits).2.2;simp at b;unfold gI;dsimp only;omega
def Qg(a:bN)(n:aw)(P:List ah):(eY a n P).l.length<=n.l.length+P.length:=by
 have:=aw.nG (n.l++P) ⟨a.aC.toNat,[]⟩;unfold eY;simp at this⊢;omega
def FV(a:bN)(n:bg)(P:List ah):(df a n P).2.S.l.length<=n.S.l.length+P.length/\(df a n P).2.gG=n.gG:=by
 unfold df
 cases n.log with
 |none=>exact⟨by dsimp only;omega,rfl⟩
 |some b=>
  dsimp only;split
  ·exact⟨by dsimp only;omega,rfl⟩
  split
  ·exact⟨by dsimp only;omega,rfl⟩
  ·exact⟨Qg a n.S P,rfl⟩
def Ls(a:bN)(P:Int)(n:bg)(b:lE):jY n (eP a P n b).2.2:=by
 unfold eP
 cases n.log with
 |none=>exact jY.refl n
 |some c=>
  dsimp only;split
  ·exact jY.refl n
  split
  ·have:=FV a n [(gD a.decl n.S (bZ a.decl n.S.l) P a.start b).1]
   simp at this;split
   ·exact⟨.inl (by dsimp only;omega),by dsimp only;rw[this.2];omega⟩
   ·exact⟨.inl (by dsimp only;omega),by dsimp only;rw[this.2];omega⟩
  ·exact jY.refl n
def DF(b:bN)(c:Int)(n:bg)(P:bW)(i:n.waits.length<=256)(j:b.chunk<=32):jY n (ck b c n P).2.2:=by
 unfold ck
 cases n.log with
 |none=>exact jY.refl n
 |some k=>
  dsimp only;split
  ·exact jY.refl n
  rename_i g;split
  ·exact jY.refl n
  split
  ·rename_i h
   have l:P.events.length<=32:=by
    rcases Nat.lt_or_ge 32 P.events.length with f|f
    ·exfalso
     apply g;unfold ei;rw[Zx h];intro a;split at a
     ·cases a
     ·unfold eA at a
      split at a
      ·cases a
      ·rw[Zx (.inr oM)]at a;cases a
    ·exact f
   unfold lD;have m:=uU b n P.events;dsimp only;split
   ·exact⟨.inl (by dsimp only;omega),by dsimp only;omega⟩
   ·have d:=FV b {n with waits:=(gI b n P.events).2} (gI b n P.events).1
    dsimp only at d;split
    ·exact⟨.inl (by dsimp only;omega),by dsimp only;rw[d.2];omega⟩
    ·exact⟨.inl (by dsimp only;omega),by dsimp only;rw[d.2];omega⟩
  ·have e:(n.gG.Av P.bO P.vec n.S.vec).asked.length<=n.gG.asked.length+1:=by
    unfold ku.Av;dsimp only;split
    ·have:=Kq P.bO n.gG.asked;omega
    ·omega
   split
   ·exact⟨.inl (by dsimp only;omega),e⟩
   split
   ·exact⟨.inl (by dsimp only;omega),e⟩
   ·exact⟨.inl (by dsimp only;omega),e⟩
def Lr(c:bN)(n:Int)(a:bg)(P b:Int):jY a (fk c n a P b).2:=by
 unfold fk;split
 ·exact jY.refl a
 ·exact⟨.inl (by dsimp only;omega),Kp _ _ _⟩
def yD(P:bN)(n:bg):(fC P n).2.gG=n.gG:=by
 unfold fC;dsimp only;split<;>rfl
def DG(P:bN)(n:bg):jY n (de P n).2:=by
 unfold de
 cases n.log with
 |none=>exact jY.refl n
 |some a=>
  dsimp only;split
  ·exact⟨.inl (by dsimp only;omega),by dsimp only;omega⟩
  ·exact⟨.inl (by dsimp only;omega),by dsimp only;omega⟩
section
variable {w w' w0 w1 w2:World} {p:Nat} {F E Dv:RK} {cls:Nat->Nat} {h:kp} {c:bN} {self:Int} {X:bg} {m:bW} {va ea:am} {vn vc en ec:Nat}
def P_(hr:bY w p F c self X)(he:Env w0 w F){V:dv}(a6:X.log=some V)(c4:Row kY 96 w E ea en m.events)(N:∀n,E n->n<w.heap.size/\¬F n)(a7:m.events.length<=1000)(hl:X.S.l.length<=18000000):
  ba 119 #[LL p,iQ m va vn vc ea en ec] w (Ok λa5 w'=>∃O d,a5= .tuple #[O,WP (lD c self X m).2.1]/\fK w d (lD c self X m).1 O w'/\bY w' p d c self (lD c self X m).2.2/\cy F w d w'):=by
 obtain⟨f,h,cls,Q⟩:=hr;have R:=Q.aF;refine nW (PA.mk λS q s8 T=>?_);obtain⟨P,U⟩:∃P,P=gI c X m.events:=⟨_,rfl⟩
 have y:∀{z},(if P.1=[]then([Au X.S self m.bO],0,{X with waits:=P.2})else
   if(df c {X with waits:=P.2} P.1).1≠0 then([],(df c {X with waits:=P.2} P.1).1,{(df c {X with waits:=P.2} P.1).2 with waits:=[]})else([Au (df c {X with waits:=P.2} P.1).2.S self m.bO],0,(df c {X with waits:=P.2} P.1).2))=z->lD c self X m=z:=λ{z} b=>by rw[<-b,U];rfl
 refine⟨λw'=>∃d e,bY w' p d c self e/\cy F w d w'/\(∀n,d n->F n\/S.heap.size<=n)/\w'.heap[w.heap.size]? =some (.cells (eh m va vn vc ea en ec).toArray 127 (0,0))/\lD c self X m=([Au e.S self m.bO],0,e),?_,?_⟩
 ·refine⟨_,_,_,ae T rfl,PC.ok (Qa (cP.af Q q) f (c4.af q) (λn a=>⟨by have:=(N n a).1;omega,(N n a).2⟩) a7 hl) ?_⟩
  rw[<-U];rintro _ W ⟨Y,on,oc,Lo,A,b0,Do,rfl,B,Z,c5,b2,g,r,c6,e1⟩;have hn:=B.len dC;have c7:Lo.length=P.1.length:=by rw[<-Z,Q8]
  have b3:=fh.unbox B c5 λn a=>⟨(r n a).1,(r n a).2.1⟩
  rw[Ux,Z]at b3;have b4:Row kY 96 W (λn=>aG Y=some n\/Do n) Y on P.1:=b3.row dC (by unfold aR;omega);have C:cy F w A W:=⟨(ai.keep q).then g.keep,λn a=>(g.new n a).imp id λh1=>oM⟩
  have H:∀n,A n->F n\/S.heap.size<=n:=g.new;have b5:=g.keep.get T λb=>by have:=R _ b;omega
  have c8:=(he.af q).iE g;refine⟨_,_,_,rfl,al.dec (λe0=>?_) (λhz=>?_)⟩
  rotate_left
  ·have b6:P.1=[]:=QW oM
   exact⟨A,{X with waits:=P.2},⟨f,h,b0,b2⟩,C,H,b5,y (Zx b6)⟩
  have b7:P.1≠[]:=λs=>by rw[s,ZQ]at c7;omega
  refine PC.ok (Kc b2 f c8 (V:=V) a6 b4 (λn a=>a.elim (λs=>⟨B.aF n s,λb=>(c6 n s).2 b.1⟩) λb=>⟨(r n b).1,(r n b).2.2⟩) (by show X.S.l.length+_<=_;omega)) ?_;rintro _ c9 ⟨rfl,j,F2,a1,t,I,-⟩;have a0:=C.trans I;have e2:=C.keep.size;refine⟨_,rfl,al.eK (λb8=>?_) (λh0=>?_)⟩
  ·obtain⟨a2,Db,a,hM,hD⟩:=(show Py c9 (λn=>F2 n/\a1 n=5) j.wp c.buffer.toNat (df c {X with waits:=P.2} P.1).2.waits from t.at' 5)
   refine⟨p,0,rfl,_,ae (t.at' 0).2 rfl,PC.ok (vl a) ?_⟩;rintro _ e3 ⟨rfl,a3,d0⟩;obtain⟨F3,k,J,l,-⟩:=t.iE cd (k:=5) (G':=a2) (C2:=mj p (j.cells c self) j c {(df c {X with waits:=P.2} P.1).2 with waits:=[]} (df c {X with waits:=P.2} P.1).2.S.l) ⟨d0.mono λn _ a=>hM n a,λn a=>.inl (hM n a)⟩ a3.Qb ⟨a2,_,a3,λ_ h=>h,λn a=>a.elim⟩ λa4 G hj hc=>by
    rcases a4 with _|_|_|_|_|_|_|a4<;>first|exact hc|exact Zz rfl hj
   refine⟨rfl,Ok.mk ?_⟩;rw[y ((Zq b7).trans (Zx b8))];exact⟨_,F3,rfl,fK.nil _ _ _,⟨f,j,k,J⟩,a0.trans l⟩
  ·refine⟨F2,(df c {X with waits:=P.2} P.1).2,⟨f,j,a1,t⟩,a0,λn a=>(I.new n a).elim (H n) λK=>.inr (by have:=g.keep.size;omega),I.keep.get b5 λb=>?_,y ((Zq b7).trans (Zq (by simpa using h0)))⟩
   rcases H _ b with K|K
   ·have:=R _ K;omega
   ·omega
 ·rintro _ d1 ⟨d,e,d2,L,e4,d3,d4⟩ b9 d5
  obtain⟨-,h',o,M⟩:=d2;have u:ai d1 b9:=d5.keep;have i:=cP.af M u;refine⟨p,0,rfl,_,ae i.bC rfl,p,0,rfl,_,ae i.bC rfl,_,ae (u.get d3 id) rfl,PC.ok (JU (i.at' 3).1) ?_⟩;rintro _ d6 ⟨a8,n2,c2,G,rfl,c1,hG,v⟩;have c3:=c1.aF;have e5:=L.keep.size;have z2:=u.size;have d7:=v.size;refine⟨_,_,_,_,_,_,_,_,_,rfl,PA.mk λd8 x e6 d9=>?_⟩;have hm:bq b9 [Au e.S self m.bO] (.slice (L1 d6.heap.size) 1 1) d8:=bq.one (D:=G) d9 ⟨(c1.af x).row dC (by show e.S.vec.length*8<=aR;rw[e.S.bU];have:e.S.n<=64:=(i.at' 3).1.1.n;unfold aR;omega),dA _ _⟩ (λn a=>⟨hG n a,by have:=c3 n a;omega,by have:=c3 n a;omega⟩) d7 (v.then x);rw[d4];exact Ok.mk ⟨_,d,rfl,hm.out i.aF oM,⟨f,h',o,cP.af i (v.then x)⟩,((L.keep.af u).af v).af x,L.new⟩
end
section
variable {w w' w0 w1 w2:World} {p:Nat} {F E Dv:RK} {cls:Nat->Nat} {h:kp} {c:bN} {self:Int} {X:bg} {m:bW} {va ea:am} {vn vc en ec:Nat}
def jX.Ln(n:jX c self):1<=c.chunk/\c.chunk<=32:=by
 have:=n.right;unfold fF within at this;simp only[QK,Zk]at this;omega
def ID(hr:bY w p F c self X)(he:Env w0 w F)(V:Row aP 8 w Dv va vn m.vec)(f4:∀n,Dv n->n<w.heap.size/\¬F n)(c8:Row kY 96 w E ea en m.events)(hE:∀n,E n->n<w.heap.size/\¬F n)(hl:X.S.l.length<=18000000):
  ba 76 #[LL p,iQ m va vn vc ea en ec] w (Ok λW w'=>∃q e,W= .tuple #[q,WP (ck c self X m).2.1]/\fK w e (ck c self X m).1 q w'/\bY w' p e c self (ck c self X m).2.2/\cy F w e w'):=by
 have b0:=hr;obtain⟨x,h,cls,f⟩:=hr;have I:=f.aF;obtain⟨f5,h9,i0⟩:=x.aC;have i1:=x.Ln;refine mg (PA.mk λw8 Y s8 g8=>?_);have h8:=cP.af f Y;have no:∀{w1:World} {g:Int},ai w w1->ck c self X m=([],g,X)->Ok (λW w'=>∃q e,W= .tuple #[q,WP (ck c self X m).2.1]/\fK w e (ck c self X m).1 q w'/\bY w' p e c self (ck c self X m).2.2/\cy F w e w') (.returned (.tuple #[.slice none 0 0,WP g])) w1:=λ{w1 g} J Z=>by
  rw[Z];exact Ok.mk ⟨_,F,rfl,fK.nil _ _ _,b0.af J,ai.keep J,λn P=>.inl P⟩
 refine⟨p,0,rfl,_,ae h8.bC rfl,gZ Tryz.underlying101 ⟨_,rfl,?_⟩⟩;have c9:DL w (λn=>F n/\cls n=2) h.dp h.lp X.D X.log:=f.at' 2
 cases y:X.log with
 |none=>
  obtain⟨Fd,-,-,i⟩:=c9;rw[y]at i;have i:h.lp=none:=i;rw[i];exact al.tt rfl (no Y (by unfold ck;rw[y]))
 |some a8=>
 obtain⟨a9,a0,a6,-⟩:=DL.PZ (y▸c9) (he.sub λn P=>P.1) λn P=>I n P.1;have K:∀{r},(if ei m c.aC.toNat c.chunk≠0 then([],ei m c.aC.toNat c.chunk,X)else if m.mQ≠self then([],1,X)else if m.kind=3 then lD c self X m else
   if m.kind≠4 then(my X.S self m c.chunk,0,{X with gG:=X.gG.Av m.bO m.vec X.S.vec})else
   if X.S.missing m.vec c.chunk=[]then([],0,{X with gG:=X.gG.Av m.bO m.vec X.S.vec})else([⟨3,self,m.bO,[],X.S.missing m.vec c.chunk⟩],0,{X with gG:=X.gG.Av m.bO m.vec X.S.vec}))=r->ck c self X m=r:=λ{r} k=>by rw[<-k];unfold ck;rw[y]
 rw[a0];refine al.ff rfl λf6 d0=>?_;have L:ai w f6:=Y.then d0.keep;have d1:=cP.af f L;have d2:=(d0.keep (S:=λ_=>False)).get g8 id;refine au (eU m va vn vc ea en ec) d2 ⟨p,0,rfl,_,ae d1.bC rfl,p,0,rfl,_,ae d1.bC rfl,?_⟩;rw[f5];refine PC.ok (PQ (V.af L) (c8.af L) oM) ?_;rintro _ i2 ⟨rfl,d3⟩;have a1:=L.then d3;have f8:=cP.af f a1;have d4:=d3.get d2 id;refine⟨_,rfl,al.eK (λs=>no a1 (K (Zx s))) (λs=>⟨_,ae d4 rfl,p,0,rfl,_,ae f8.bC rfl,λg0 d5=>?_⟩)⟩;have j:ai w g0:=a1.then d5.keep;have i3:=cP.af f j;have b8:=(d5.keep (S:=λ_=>False)).get d4 id;have b9:¬ei m c.aC.toNat c.chunk≠0:=by simpa using s
 refine al.eK (λM=>no j (K ((Zq b9).trans (Zx M)))) (λM=>⟨_,ae b8 rfl,al.eH (λi=>?_) (λi=>λd6 d7=>?_)⟩)
 ·have Z:=K (((Zq b9).trans (Zq (by simpa using M))).trans (Zx i))
  have d8:m.events.length<=1000:=by
   have b:=s;unfold ei at b;simp only at b;rw[Zx i]at b;split at b
   ·cases b
   ·unfold eA at b
    split at b
    ·cases b
    split at b
    ·cases b
    ·omega
  refine au (eU m va vn vc ea en ec) b8 (PC.ok (P_ (b0.af j) (he.af j) y (c8.af j) (λn P=>⟨by have:=(hE n P).1;have:=j.size;omega,(hE n P).2⟩) d8 hl) ?_);rintro _ i4 ⟨q,e,rfl,b1,g1,b2⟩;have g2:=b1;obtain⟨a2,n2,c2,a7,D,rfl,o2,o3,o4,o5,o6⟩:=b1;refine⟨_,_,_,_,rfl,Ok.mk ?_⟩;have c0:=j.size;rw[Z];exact⟨_,e,rfl,⟨a2,n2,c2,a7,D,rfl,o2,o3,o4,λn P=>⟨by have:=(o5 n P).1;omega,(o5 n P).2⟩,λn P=>⟨by have:=(o6 n P).1;omega,(o6 n P).2⟩⟩,g1,(ai.keep j).then b2.keep,λn P=>(b2.new n P).imp id λb=>oM⟩
 ·have c1:ai w d6:=j.then d7.keep
  have N:=cP.af f c1;have c4:=(d7.keep (S:=λ_=>False)).get b8 id;have d9:ey d6 h.tp (λn=>F n/\cls n=6) X.gG:=N.at' 6;have fN:=(N.at' 3).1;have nS:¬(F p/\cls p=6):=λg=>by have:=g.2;rw[f.Kb.2]at this;cases this
  have e0:¬(F w.heap.size/\cls w.heap.size=6):=λg=>by have:=I _ g.1;omega
  refine⟨λn=>F n/\cls n=6,p,0,rfl,nS,_,ae N.bC rfl,e0,_,ae c4 rfl,e0,_,_,_,ae c4 rfl,p,0,rfl,_,ae N.bC rfl,PC.ok (mu fN) ?_⟩;rintro _ g3 ⟨a2,n2,c2,G,rfl,e1,z,hG⟩;have hN:X.S.n<=64:=fN.1.n;have g4:Row aP 8 g3 G a2 n2 X.S.vec:=e1.row dC (by rw[X.S.bU];unfold aR;omega);have i5:=c1.size;have i6:=z.size;have A:=c1.then z;refine⟨_,_,_,rfl,ai.keep z,PC.ok (Kd (d9.af z) ((V.af A).uc) g4.uc λ_=>dy.2 λn P k=>?_) ?_⟩
  ·have:=hG n (e1.self n P);have:=I n k.1;omega
  rintro _ c5 ⟨G6,rfl,a3,b3⟩;obtain⟨O,d,B,a,-⟩:=(cP.af f A).iE cd (k:=6) (G':=G6) (C2:=mj p (h.cells c self) h c {X with gG:=X.gG.Av m.bO m.vec X.S.vec} X.S.l) b3 a3.aF a3 λa4 G hj s=>by
   rcases a4 with _|_|_|_|_|_|_|a4<;>first|exact s|exact Zz rfl hj
  have l:cy F w O c5:=⟨(ai.keep A).then a.keep,λn P=>(a.new n P).imp id λb=>by have:=A.size;omega⟩
  have Q:=a.keep.get (z.get c4 id) λk=>by have:=I _ k;omega
  have b4:=(V.af A).keep a.keep λn P=>(f4 n P).2;have i7:=l.keep.size;have c6:=λ{r} k=>K (r:=r) (((Zq b9).trans (Zq (by simpa using M))).trans ((Zq i).trans k));refine⟨_,rfl,b3.keep,_,ae Q rfl,al.eK (λR=>λe2 g5=>?_) (λR=>λe3 g6=>?_)⟩
  ·have C:ai c5 e2:=g5.keep
   have t:=cP.af B C;have i8:=C.size;refine⟨p,0,rfl,_,ae t.bC rfl,p,0,rfl,_,ae t.bC rfl,au (eU m va vn vc ea en ec) (C.get Q id) ⟨p,0,rfl,_,ae t.bC rfl,PC.ok (Ke (t.at' 3).1 (show X.S.l.length<=20000000 by omega) (b4.af C)) ?_⟩⟩;rintro _ g7 c7;obtain⟨a5,S,c3,rfl⟩:=c7.sl;have b5:ai e2 g7:=by obtain⟨_,_,_,_,_,_,_,_,_,_,_,J⟩:=c7;exact J
   refine⟨_,_,_,rfl,Ok.mk ?_⟩;rw[c6 (Zx R)];exact⟨_,O,rfl,c7.out t.aF oM,⟨x,h,d,cP.af t b5⟩,(l.keep.af C).af b5,l.new⟩
  ·have o:ai c5 e3:=g6.keep
   have H:=cP.af B o;have i9:=o.size;refine⟨p,0,rfl,_,ae H.bC rfl,_,_,_,ae (o.get Q id) rfl,p,0,rfl,_,ae H.bC rfl,PC.ok (zo (H.at' 3).1 (by show X.S.l.length<=_;omega) (b4.af o)) ?_⟩;rintro _ e4 ⟨a5,S,c3,G3,rfl,T,u,g9⟩;have e5:=T.len dC;have b6:=T.aF;have e6:=cP.af H u;have j0:=u.size;have d8:(X.S.missing m.vec c.chunk).length<=32:=by
    unfold aw.missing;rw[Qy];omega
   change aU kY 63 G3 e4 a5 S c3 (X.S.missing m.vec c.chunk)at T
   refine⟨_,_,_,rfl,al.dec (λh7=>λe7 h0=>?_) (λhz=>Ok.mk ?_)⟩
   ·have e8:X.S.missing m.vec c.chunk≠[]:=λg=>by
     have b7:S=(X.S.missing m.vec c.chunk).length:=e5;rw[g,ZQ]at b7;omega
    have v:ai e4 e7:=h0.keep;have e9:=cP.af e6 v;have j1:=v.size;refine⟨p,0,rfl,_,ae e9.bC rfl,_,ae (v.get (u.get (o.get Q id) id) id) rfl,PA.mk λh2 U j2 h6=>Ok.mk ?_⟩;have hm:bq e3 [⟨3,self,m.bO,[],X.S.missing m.vec c.chunk⟩] (.slice (L1 e7.heap.size) 1 1) h2:=bq.one (m:=⟨3,self,m.bO,[],X.S.missing m.vec c.chunk⟩) (va:=none) (vn:=0) (vc:=0) (D:=G3) h6 ⟨dA _ _,((T.af v).af U).row dC (by unfold aR;omega)⟩ (λn P=>⟨g9 n P,by have:=b6 n P;omega,by have:=b6 n P;omega⟩) oM ((u.then v).then U);rw[c6 ((Zq (by simpa using R)).trans (Zq e8))];exact⟨_,O,rfl,hm.out H.aF oM,⟨x,h,d,cP.af e9 U⟩,(((l.keep.af o).af u).af v).af U,l.new⟩
   ·have f2:X.S.missing m.vec c.chunk=[]:=QW (by
     have b7:S=(X.S.missing m.vec c.chunk).length:=e5;omega)
    rw[c6 ((Zq (by simpa using R)).trans (Zx f2))];exact⟨_,O,rfl,fK.nil _ _ _,⟨x,h,d,e6⟩,(l.keep.af o).af u,l.new⟩
end
section
variable {w w' w0 w1 w2:World} {p:Nat} {F E Dv:RK} {cls:Nat->Nat} {h:kp} {c:bN} {self:Int} {X:bg}
def OL(O:bY w p F c self X)(t:Env w0 w F)(Q:aM e):
  ba 52 #[LL p,WP e] w (Ok λR w'=>∃r,R= WP (g_ c X e).1/\bY w' p r c self (g_ c X e).2/\cy F w r w'/\(g_ c X e).2.S.l.length<=16777216):=by
 obtain⟨B,h,cls,s⟩:=O;have b8:=s.aF;have b9:=s.Kb;have u:bb w F cls (recC p (yu h c self h.lp (L1 h.sp) (L1 h.bp)) {h with lp:=none} c {X with log:=none} false):=
  ⟨λk=>by
   have d:=s.at' k;rcases k with _|_|_|_|_|_|_|k<;>first|exact d|trivial|(intro S;cases S)|(obtain⟨Fd,g,v,T⟩:=d;exact⟨Fd,g,v,rfl⟩),s.aF⟩
 obtain⟨Fd,U,m,-⟩:=(show DL w (λn=>F n/\cls n=2) h.dp none X.D none from u.at' 2)
 refine nU ⟨p,0,rfl,_,ae (u.at' 0).2 rfl,PC.ok (Ml U Q) ?_⟩;rintro _ V ⟨C,rfl,E,H⟩;obtain⟨W,Y,x,o,-⟩:=u.iE iB (k:=2) (G':=C) (C2:=recC p (yu h c self h.lp (L1 h.sp) (L1 h.bp)) {h with lp:=none} c {X with log:=none,D:=X.D.eu e} false) ⟨H.keep.mono λn _ P=>m n P,λn P=>(H.new n P).imp (m n) id⟩ (λn P=>E.aF n P) ⟨C,E,λn P=>P,rfl⟩ λa G i d=>by
  rcases a with _|_|_|_|_|_|_|a<;>first|exact d|exact Zz rfl i
 obtain⟨I,Db,P,J,hD⟩:=(show Py V (λn=>W n/\Y n=5) h.wp c.buffer.toNat X.waits from x.at' 5)
 refine⟨rfl,p,0,rfl,_,ae (x.at' 0).2 rfl,PC.ok (vl P) ?_⟩;rintro _ c1 ⟨rfl,K,Z⟩;obtain⟨j,f,b,l,-⟩:=x.iE iB (k:=5) (G':=I) (C2:=recC p (yu h c self h.lp (L1 h.sp) (L1 h.bp)) {h with lp:=none} c {X with log:=none,D:=X.D.eu e,waits:=[]} false) ⟨Z.mono λn _ P=>J n P,λn P=>.inl (J n P)⟩ K.Qb ⟨I,_,K,λ_ h=>h,λn P=>P.elim⟩ λa G i d=>by
  rcases a with _|_|_|_|_|_|_|a<;>first|exact d|exact Zz rfl i
 refine⟨rfl,p,0,rfl,_,ae (b.at' 0).2 rfl,PC.ok (Kf (b.at' 6)) ?_⟩;rintro _ y ⟨rfl,a3,L⟩;have z:bb y j f (recC p (yu h c self h.lp (L1 h.sp) (L1 h.bp)) {h with lp:=none} c {X with log:=none,D:=X.D.eu e,waits:=[],gG:=⟨X.gG.di,[],[]⟩} false):=b.same iB (k:=6) L a3 λa G i d=>by
  rcases a with _|_|_|_|_|_|_|a<;>first|exact d|exact Zz rfl i
 have M:cy F w j y:=by
  have g:=o.trans l;exact⟨g.keep.new (L.mono λn _ P=>P.1) λn P=>g.new n P,g.new⟩
 have a5:=t.iE M;have b3:=DL.uR (show DL y (λn=>j n/\f n=2) h.dp none (X.D.eu e) none from z.at' 2) (a5.sub λn P=>P.1);refine⟨rfl,p,0,rfl,_,ae (z.at' 0).2 rfl,PC.ok (OY t.laid b3) ?_⟩;rintro _ c2 ⟨rfl,a0,b4⟩;obtain⟨G2,b5,a6,b6,-⟩:=DL.Og (Y:=λ_=>False) (a0.mono λn P=>P.elim id False.elim) b4;obtain⟨c3,b7,a7,a1,-⟩:=z.iE iB (k:=2) (G':=G2) (C2:=recC p (yu h c self h.lp (L1 h.sp) (L1 h.bp)) {h with lp:=none} c {X with log:=none,D:=du (X.D.eu e),waits:=[],gG:=⟨X.gG.di,[],[]⟩} false) a6 b6 (by
   obtain⟨Fd,g,v,T⟩:=b5;exact⟨Fd,g,v,rfl⟩) λa G i d=>by
  rcases a with _|_|_|_|_|_|_|a<;>first|exact d|exact Zz rfl i
 have N:=M.trans a1;refine⟨rfl,PC.ok (zq (h:={h with lp:=none}) (z1:=h.lp) (z2:=L1 h.sp) (z3:=L1 h.bp) a7 B (t.iE N)) ?_⟩;rintro _ c4 ⟨rfl,a8,h',r,q,A,a9⟩;exact⟨_,rfl,Ok.mk ⟨r,rfl,⟨B,h',q,A⟩,N.trans a9,a8⟩⟩
def RC(r:bY w p F c self X)(s:aM e):
  ba 57 #[LL p,WP e] w (Ok λt w'=>∃k,t= .tuple #[]/\bY w' p k c self {X with D:=X.D.GI e}/\cy F w k w'):=by
 obtain⟨u,h,cls,f⟩:=r;obtain⟨Fd,v,g,a⟩:=(show DL w (λn=>F n/\cls n=2) h.dp h.lp X.D X.log from f.at' 2)
 refine oR ⟨p,0,rfl,_,ae f.bC rfl,PC.ok (Pm s v) ?_⟩;rintro _ l ⟨rfl,x,i⟩;have y:cP l F cls p h c self {X with D:=X.D.GI e}:=bb.same f cd (k:=2) (i.keep.mono λn _ P=>g n P) (by
  refine⟨Fd,x,g,?_⟩;show match X.log with
   |none=>h.lp=none
   |some j=>j.a_≠[]/\∃b d,h.lp=some ⟨b,0,none⟩/\jy l h.dp b d j/\∀n,d n->(F n/\cls n=2)/\¬Fd n
  cases m:X.log with
  |none=>rw[m]at a;exact a
  |some j=>
   rw[m]at a;obtain⟨z,b,d,A,B,o⟩:=a;exact⟨z,b,d,A,B.keep i.keep λn P=>(o n P).2,o⟩) λq G C E=>by
  rcases q with _|_|_|_|_|_|_|q<;>first|exact E|exact Zz rfl C
 exact⟨rfl,Ok.mk ⟨F,rfl,⟨u,h,cls,y⟩,i.keep.mono λn _ P=>(g n P).1,λn P=>.inl P⟩⟩
def En{V:dv}{D:ak}{l:List ah}{size:Int}(P:(aQ V D l size).no=0):(aQ V D l size).V.a_≠[]:=by
 revert P
 unfold aQ;split
 ·rename_i n;intro h;exact Zz h n
 split
 ·rename_i n;intro h;exact Zz h n
 ·exact CS
def II(R:bY w p F c self X)(A:Env w0 w F)(hl:X.S.l.length<=18000000):
  ba 53 #[LL p] w (Ok λa2 w'=>∃S,a2= WP (de c X).1/\bY w' p S c self (de c X).2/\cy F w S w'):=by
 have a6:=R;obtain⟨T,h,cls,m⟩:=R;have a8:=m.aF;refine mh ⟨p,0,rfl,_,ae m.bC rfl,gZ Tryz.underlying101 ⟨_,rfl,?_⟩⟩;have U:DL w (λn=>F n/\cls n=2) h.dp h.lp X.D X.log:=m.at' 2
 cases k:X.log with
 |none=>
  obtain⟨Fd,-,-,g⟩:=U;rw[k]at g;have g:h.lp=none:=g;rw[g];have o:de c X=(15,X):=by unfold de;rw[k]
  rw[o];exact al.tt rfl (Ok.mk ⟨F,rfl,a6,cy.refl _ _⟩)
 |some a=>
 obtain⟨y,d,B,-⟩:=DL.PZ (k▸U) (A.sub λn P=>P.1) λn P=>a8 n P.1;have C:∀{i},(if(aQ a X.D X.S.l c.bj).no≠0 then((aQ a X.D X.S.l c.bj).no,{X with D:=(aQ a X.D X.S.l c.bj).D})else(0,{X with D:=(aQ a X.D X.S.l c.bj).D,log:=some (aQ a X.D X.S.l c.bj).V}))=i->de c X=i:=λ{i} E=>by rw[<-E];unfold de;rw[k]
 rw[d];refine al.ff rfl λw9 d9=>?_;have V:ai w w9:=d9.keep;have l:=cP.af m V;have W:=m.Kb;have H:¬(F p/\cls p=2):=λq=>by have:=q.2;rw[W.2]at this;cases this
 refine⟨λn=>F n/\cls n=2,p,0,rfl,H,_,ae l.bC rfl,p,0,rfl,H,_,ae l.bC rfl,p,0,rfl,_,ae l.bC rfl,p,0,rfl,H,_,ae l.bC rfl,PC.ok (vo (l.at' 3).1 oM) ?_⟩;rintro _ r ⟨b6,b7,cc,G,rfl,Y,I,hG⟩;have z:=cP.af l I;have s:=V.then I;have a9:=Y.aF;obtain⟨Z,f,-,J⟩:=DL.PZ (show DL r (λn=>F n/\cls n=2) h.dp h.lp X.D (some a)from k▸z.at' 2) ((A.af s).sub λn P=>P.1) λn P=>z.aF n P.1;have E:Z=y:=by rw[d]at f;cases f;rfl
 subst E;refine⟨_,_,_,rfl,ai.keep I,?_⟩;rw[d];refine PC.ok (Jg A.laid J (Y.row dC (by unfold aR;omega)) a9 oM) ?_;have a0:=En (V:=a) (D:=X.D) (l:=X.S.l) (size:=c.bj);generalize aQ a X.D X.S.l c.bj=i at C a0;rintro _ a3 ⟨K,a4,b0,a5,⟨t,rfl,b1⟩|⟨t,q3,rfl,b2⟩⟩
 ·obtain⟨Fd,h1,h2,g,h4⟩:=b1
  have L:∀n,¬(n<r.heap.size/\¬(F n/\cls n=2))->(F n/\cls n=2)\/r.heap.size<=n:=λn P=>by
   rcases Nat.lt_or_ge n r.heap.size with M|M
   ·exact .inl (Classical.byContradiction λh8=>P ⟨M,h8⟩)
   ·exact .inr M
  have a1:aj (λn=>F n/\cls n=2) r a3:=a5.mono λn b8 P=>(L n P).resolve_right oM;obtain⟨N,j,e,u,-⟩:=z.fg cd (k:=2) (G':=λn=>Fd n\/K n) (C2:=mj p (h.cells c self) h c {X with D:=i.D} X.S.l) a1 (λn P=>P.elim (λv=>L n λh6=>(g n v).2 (.inl h6)) λv=>L n (b0 n v).2) (λn P=>P.elim (h1.aF n) (a4.aF n)) (by
    refine⟨Fd,h1,λn P=>.inl P,?_⟩;show match X.log with
     |none=>h.lp=none
     |some a=>a.a_≠[]/\∃y Fl,h.lp=some ⟨y,0,none⟩/\jy a3 h.dp y Fl a/\∀n,Fl n->(Fd n\/K n)/\¬Fd n
    rw[k];exact⟨B,Z,K,d,a4,λn P=>⟨.inr P,λhd=>(g n hd).2 (.inr P)⟩⟩) λx G O o=>by
   rcases x with _|_|_|_|_|_|_|x<;>first|exact o|exact Zz rfl O
  refine⟨_,_,rfl,a1,al.eH (λQ=>Zz Q t) (λ_=>Ok.mk ?_)⟩;rw[C (Zx t)];exact⟨N,rfl,⟨T,h,j,e⟩,(ai.keep s).then u.keep,λn P=>(u.new n P).imp id λv=>by have:=s.size;omega⟩
 ·obtain⟨G2,b3,u,b4,hY⟩:=DL.HI b2 a5 (a0 t)
  obtain⟨N,j,e,b,-⟩:=z.iE cd (k:=2) (G':=G2) (C2:=mj p (h.cells c self) {h with lp:=L1 q3} c {X with D:=i.D,log:=some i.V} X.S.l) u b4 b3 λx G O o=>by
   rcases x with _|_|_|_|_|_|_|x<;>first|exact o|exact Zz rfl O
  refine⟨_,_,rfl,u.keep,al.eH (λ_=>⟨p,0,rfl,PS.mk (e.at' 0).2 sM λb9 a7 c0 b5=>Ok.mk ?_⟩) (λQ=>Zz rfl Q)⟩;rw[C (Zq (by simpa using t))];exact⟨N,rfl,⟨T,{h with lp:=L1 q3},j,cP.store e a7 b5⟩,((ai.keep s).then b.keep).then (a7.mono λn _ q=>by have q:n=p:=q;rw[q];exact W.1),λn P=>(b.new n P).imp id λv=>by have:=s.size;omega⟩
end
variable{B:Int}{d0:List bB}{s:am}{S:aT}
section
variable {w w' w0 w1 w2:World} {p:Nat} {F E D:RK} {c:bN} {self:Int}
def eV(c:bN)(n:am)(tn P:Nat)(a:am)(b d:Nat):List Value:=[WP c.aC,WP c.uR,WP c.bj,WP c.chunk,WP c.buffer,WP c.di,WP c.every,WP c.start,.slice n tn P,.slice a b d]
abbrev xq(c:bN)(n:am)(tn P:Nat)(a:am)(b d:Nat):Value:=.agg (eV c n tn P a b d).toArray
def IK(c:bN)(n:am)(tn P:Nat)(a:am)(b d:Nat):iM PP 27 (eV c n tn P a b d)=true:=kR
def pB:ba 69 #[WP e,WP l,WP B] w (Ok λn w'=>n= .bool (within e l B)/\w=w'):=by
 refine vA (al.dec (λP=>Ok.mk ⟨?_,rfl⟩) (λP=>Ok.mk ⟨?_,rfl⟩))
 ·simp[within];omega
 ·simp[within];omega
def Qc{tn z A B:Nat}:ba 41 #[xq c d tn z s A B,WP self] w (Ok λj w'=>j= .bool (fF c self)/\ai w w'):=by
 refine zS (PA.mk λw1 t I P=>?_);have J:∀{k l m:Int} {o:Bool->Prop} {u:List PanicEntry->ac},o (within k l m)->∃p v x,(Value.func (.func 69) #[] #[])= .func (.func p) v x/\enters PP p=true/\PC PP p (v++ #[WP k,WP l,WP m]++x) w1 (λC E=>∃(y:Bool),C= .bool y/\E=w1/\o y) u:=λ{k l m o u} q=>by
  refine⟨_,_,_,rfl,kR,PC.ok pB ?_⟩;rintro _ _ ⟨rfl,rfl⟩;exact⟨_,rfl,rfl,q⟩
 have no:fF c self=false->Ok (λj w'=>j= .bool (fF c self)/\ai w w') (.returned (.bool false)) w1:=λF=>Ok.mk ⟨by rw[F],t⟩;have a:fF c self=(within c.aC 1 64&&(within self 0 (c.aC-1)&&(within c.uR 64 262144&&(decide (c.bj>=1)&&(decide (c.every>=1)&&(within c.chunk 1 32&&(within c.buffer 1 256&&(within c.di 1 1048576&&decide (c.start>=0))))))))):=by
  unfold fF;simp only[Bool.and_assoc]
 refine⟨_,ae P rfl,_,_,_,rfl,kR,PC.ok pB ?_⟩;rintro _ _ ⟨rfl,rfl⟩;refine⟨_,rfl,al.mk (λn=>⟨_,ae P rfl,_,_,_,rfl,kR,PC.ok pB ?_⟩) (λn=>no (by rw[a,n];rfl))⟩;have H:IntKind.wrap .i64 (c.aC-1)=c.aC-1:=wrap_i64 (by have:=bI.1 n;unfold aM;omega);rw[H];rintro _ _ ⟨rfl,rfl⟩;refine⟨_,rfl,al.mk (λb=>⟨_,ae P rfl,_,_,_,rfl,kR,PC.ok pB ?_⟩) (λb=>no (by rw[a,n,b];rfl))⟩;rintro _ _ ⟨rfl,rfl⟩;refine⟨_,rfl,al.mk (λe=>⟨_,ae P rfl,al.mk (λf=>⟨_,ae P rfl,al.mk (λg=>⟨_,ae P rfl,_,_,_,rfl,kR,PC.ok pB ?_⟩) (λg=>no (by rw[a,n,b,e,f,g];rfl))⟩) (λf=>no (by rw[a,n,b,e,f];rfl))⟩) (λe=>no (by rw[a,n,b,e];rfl))⟩;rintro _ _ ⟨rfl,rfl⟩;refine⟨_,rfl,al.mk (λh=>⟨_,ae P rfl,_,_,_,rfl,kR,PC.ok pB ?_⟩) (λh=>no (by rw[a,n,b,e,f,g,h];rfl))⟩;rintro _ _ ⟨rfl,rfl⟩;refine⟨_,rfl,al.mk (λi=>⟨_,ae P rfl,_,_,_,rfl,kR,PC.ok pB ?_⟩) (λi=>no (by rw[a,n,b,e,f,g,h,i];rfl))⟩;rintro _ _ ⟨rfl,rfl⟩;refine⟨_,rfl,al.mk (λr=>⟨_,ae P rfl,Ok.mk ⟨by rw[a,n,b,e,f,g,h,i,r];rfl,t⟩⟩) (λr=>no (by rw[a,n,b,e,f,g,h,i,r];rfl))⟩
def Tb{n P:Nat}(a:S.types[n]? =some d0)(c:P<d0.length):S.Em (n:Int) (P:Int)=d0[P]? :=by
 have d:=(Qv.1 a).1;have b:S.at (n:Int)=d0:=by
  unfold aT.at;rw[Zx (bI.2 ⟨oM,oM⟩),Qx,QQ,a];rfl
 unfold aT.Em;rw[b,Zx (by simp only[QK,bI];exact⟨⟨oM,oM⟩,oM,oM⟩),Qx]
end
section
variable {w w' w0 w1 w2:World} {p:Nat} {F E D:RK} {c:bN} {self:Int}
def MT{tn tc L pc:Nat}(g:bu w D S d tn s L)(hD:∀n,D n->n<w.heap.size):
  ba 43 #[.agg #[.slice d tn tc,.slice s L pc]] w (Ok λc4 w'=>∃u NG a2 c v j G,c4= .agg #[.slice u NG a2,.slice c v j]/\bu w' G S u NG c v/\(∀n,G n->w.heap.size<=n/\n<w'.heap.size)/\ai w w'):=by
 have f5:=g.aZ.len;have b8:=g.aZ.fe;have f6:=g.Gn.len;have f8:=g.Gn.fe;refine xy (PA.mk λM k4 s4 g4=>PA.mk λw5 k5 s5 g5=>⟨_,_,_,ae (k5.get g4 id) rfl,?_⟩);have x:=k4.then k5;refine AI (aU.nil (c:=Ci) (e:=138) w5) Se (g.Gn.af x) (λn P=>⟨by have:=hD n P;omega,λa=>by cases a⟩) (by rw[ZQ];unfold aR at*;omega) (by rw[ZQ];unfold aR at*;unfold maxLen;omega) λc j e Fp d1 k8 j6 d2=>⟨_,_,_,rfl,PA.mk λj7 g0 j8 g1=>PS.mk g1 sM λj9 g2 k0 g3=>PS.mk g3 sM λr g6 k1 g7=>?_⟩
 rw[List.nil_append,Xz]at d1;have a9:=d1.alone;have b9:∀n,aG c=some n->w5.heap.size<=n/\n<e.heap.size:=λn P=>⟨(d2 n P).elim False.elim id,a9.aF n P⟩
 have z8:=k8.size;have y:ai w5 e:=k8.mono λn _ a=>by cases a
 have z:ai e r:=(g0.new g2 λn P=>.inr (by have P:n=e.heap.size:=P;omega)).new g6 λn P=>.inr (by have P:n=e.heap.size:=P;omega);have b0:ai w r:=(x.then y).then z;have gp:=z.get (y.get (k5.get g4 id) id) id;have gr:=z.get (y.get g5 id) id;have b1:r.heap[e.heap.size]? =some (.cells #[.slice none 0 0,.slice c (0+L) j] 25 (0,0)):=g7;rw[Xz]at b1;have k2:=z.size;refine⟨_,_,_,ae gp rfl,λA a3 w'=>∃h:Nat,a3=h/\h<=tn/\A=tn-h/\aj (·=e.heap.size) r w'/\∃N O oc Q,w'.heap[e.heap.size]? =some (.cells #[.slice N O oc,.slice c L j] 25 (0,0))/\aU nz 118 Q w' N O oc (S.types.take h)/\∀n,Q n->r.heap.size<=n,
  ⟨_,0,rfl,Qj _,rfl,aj.refl _,none,0,0,λ_=>False,b1,aU.nil _,λ_ g=>g.elim⟩,?_⟩
 rintro A _ _ R ⟨h,rfl,hj,rfl,t,N,O,oc,Q,T,l,B⟩;have U:ai w R:=b0.new t λn P=>.inr (by have P:n=e.heap.size:=P;have:=x.size;have:=y.size;omega);have zk:=t.size;have b2:=t.get gp λa=>by have a:w.heap.size=e.heap.size:=a;have:=k4.size;omega
 refine al.dec (λk3=>?_) (λk6=>?_)
 ·have g8:h<S.types.length:=oM
  have V:S.types[h]? =some S.types[h]:=Qq g8;generalize S.types[h]=m at V;obtain⟨n,d5,es,ha,P,k7,d6,fa,fn,fc,rfl,W⟩:=(g.aZ.af U).el h m V;have c0:=d6 0 dC;have g9:nz.k=1:=rfl;rw[g9,Nat.mul_one]at c0;have h0:=W.len;have c2:=W.fe;refine⟨n,d5,ha,oM,oM,fa,fn,fc,by rw[Qx];exact c0,PA.mk λk9 h3 l0 h4=>PS.mk h4 sM λi h6 l3 h7=>PA.mk λl4 d3 l5 h8=>PS.mk h8 sM λC d4 l6 h9=>?_⟩;have p:ai R C:=((h3.new h6 λn P=>.inr (by have P:n=R.heap.size:=P;omega)).then d3).new d4 λn P=>.inr (by have P:n=i.heap.size:=P;omega);have d7:=d4.get (d3.get h7 id) oM;have e3:=p.get b2 id;have l7:=p.size;have e4:=U.then p;refine⟨_,_,_,ae d7 rfl,λA a3 w'=>∃f:Nat,a3=f/\f<=fn/\A=fn-f/\aj (·=i.heap.size) C w'/\∃E F X Y,w'.heap[i.heap.size]? =some (.cells #[.slice E F X] 118 (0,0))/\aU sJ 121 Y w' E F X (m.take f)/\∀n,Y n->C.heap.size<=n,
   ⟨_,0,rfl,Qj _,rfl,aj.refl _,none,0,0,λ_=>False,h9,aU.nil _,λ_ g=>g.elim⟩,?_⟩
  rintro A _ _ d8 ⟨f,rfl,hk,rfl,q,E,F,X,Y,gx,o,H⟩;have zx:=q.size;have b3:ai w d8:=e4.new q λn P=>.inr (by have P:n=i.heap.size:=P;have:=U.size;omega);have b4:=q.get e3 λa=>by have a:w.heap.size=i.heap.size:=a;have:=aA b2;omega
  refine al.dec (λj4=>?_) (λj5=>?_)
  ·have d9:f<m.length:=oM
   have I:m[f]? =some m[f]:=Qq d9;have a4:=Tb V d9;rw[I]at a4;obtain⟨fb,fo,e6,-,-,-,-,ya,yn,yc,rfl,-,b5⟩:=(W.af p).el f m[f] I;generalize m[f]=J at I a4 b5;refine⟨_,_,_,_,_,_,ae b4 rfl,ae b4 rfl,PC.ok (pC (g.af b3) λn P=>by have:=hD n P;have:=b3.size;omega) ?_⟩;rw[a4];rintro _ e0 ⟨e1,Z,a0,cc,Fm,rfl,c3,e2⟩;have e8:=c3.aF;have l8:=e1.size;refine cz (Kg J Z a0 cc) ⟨_,rfl,PA.mk λl9 i0 m0 i1=>aD (gQ J Z a0 cc) i1 rfl λi2 i3 m1 a7=>?_⟩;have a5:ai e0 i2:=i0.new i3 λn P=>.inr (by have P:n=e0.heap.size:=P;omega);have b6:=e1.then a5;have e9:=b6.get gx id;refine⟨_,_,_,ae e9 rfl,_,_,_,_,_,_,ae a7 rfl,ae a7 rfl,ae a7 rfl,ae a7 rfl,PA.mk λi4 e5 m2 i5=>?_⟩;have a1:=b6.then e5;have f0:=(c3.af a5).af e5;have m3:=c3.len dC;have a8:Row jv 32 i4 Fm Z a0 J.bH:=f0.row dC (by
    obtain⟨_,_,_,_,_,_,_,_,_,_,hq,a8,_⟩:=(W.af p).el f J I;have h1:=a8.fe;have h2:=a8.len;rw[<-h2];exact h1)
   refine fJ (c:=sJ) (x:=J) (o.af a1) VD i5 (D:=Fm) ⟨Z,a0,cc,rfl,a8,b5⟩ (λn P=>⟨by have:=e8 n P;have:=a5.size;omega,λa=>by have:=o.aF n (o.self n a);have:=e2 n P;omega⟩) (by rw[Qy];unfold aR at*;omega) (by rw[Qy];unfold aR at c2;unfold maxLen;omega) λa' c' m4 K f1 c5 c6=>⟨_,_,_,rfl,?_⟩
   have i6:¬aG E=some i.heap.size:=λa=>by have:=H _ (o.self _ a);omega
   have m5:=a1.size;have m6:=c5.size;have b:∀n,K n->C.heap.size<=n:=λn P=>by
    rcases c6 n P with k|k|k
    ·exact H n k
    ·have:=e2 n k;omega
    ·omega
   refine PS.mk (c5.get (a1.get gx id) i6) sM λm7 e7 m8 i7=>⟨_,oM,f+1,aq (by unfold aR at c2;omega),oM,rfl,((q.af a1).new c5 λn P=>.inr (H n (o.self n P))).then e7,a',F+1,c',K,i7,?_,b⟩
   rw[Qw,I];exact f1.keep e7 λn P a=>by have a:n=i.heap.size:=a;have:=b n P;omega
  ·rw[Qz oM]at o
   have i8:aj (·=i.heap.size) C d8:=q;have b7:=q.get (p.get T id) λa=>by have a:e.heap.size=i.heap.size:=a;have:=aA T;omega
   refine⟨_,_,_,ae b7 rfl,_,_,_,ae gx rfl,PA.mk λi9 c7 m9 j0=>?_⟩;have a6:ai R i9:=(p.new q λn P=>.inr (by have P:n=i.heap.size:=P;omega)).then c7;refine fJ (c:=nz) (x:=m) (l.af a6) Rb j0 (D:=Y) ⟨E,F,X,rfl,(o.af c7).row dC (by rw[<-h0];exact c2)⟩ (λn P=>⟨by have:=o.aF n P;omega,λa=>by have:=l.aF n (l.self n a);have:=H n P;omega⟩) (by rw[Qy];unfold aR at*;omega) (by rw[Qy];unfold aR at b8;unfold maxLen;omega) λa' c' n0 K f2 c8 c6=>⟨_,_,_,rfl,?_⟩
   have j1:¬aG N=some e.heap.size:=λa=>by have:=B _ (l.self _ a);omega
   have n1:=a6.size;have n2:=c8.size;have b:∀n,K n->r.heap.size<=n:=λn P=>by
    rcases c6 n P with k|k|k
    ·exact B n k
    ·have:=H n k;omega
    ·omega
   refine PS.mk (c8.get (c7.get b7 id) j1) sM λn3 c1 n4 j2=>⟨_,oM,h+1,aq (by unfold aR at b8;omega),oM,rfl,((t.af a6).new c8 λn P=>.inr (B n (l.self n P))).then c1,a',O+1,c',K,j2,?_,b⟩
   rw[Qw,V];exact f2.keep c1 λn P a=>by have a:n=e.heap.size:=a;have:=b n P;omega
 ·rw[Qz oM]at l
  have z5:=y.size;have f3:=t.get gr λa=>by have a:M.heap.size=e.heap.size:=a;omega
  have f7:=((a9.af z).keep t λn P a=>by have a:n=e.heap.size:=a;have:=b9 n P;omega)
  refine⟨_,_,_,_,_,_,ae T rfl,ae T rfl,PS.mk f3 sM λn8 c9 n9 j3=>PS.mk j3 sM λo0 d0 o1 f4=>⟨_,_,_,_,_,_,ae f4 rfl,ae f4 rfl,Ok.mk ⟨_,_,_,_,_,_,λn=>Q n\/aG c=some n,rfl,⟨?_,?_⟩,?_,?_⟩⟩⟩
  ·exact(((l.row (bytes:=24) dC (by rw[<-f5];exact b8)).keep (c9.then d0) λn P a=>by have a:n=M.heap.size:=a;have:=B n P;omega)).mono λn P=>.inl P
  ·exact(((f7.row (bytes:=40) dC (by rw[<-f6];exact f8)).keep (c9.then d0) λn P a=>by have a:n=M.heap.size:=a;have:=b9 n P;omega)).mono λn P=>.inr P
  ·rintro n (P|P)
   ·have:=B n P;have:=l.aF n P;have:=x.size;have:=b0.size;omega
   ·have:=b9 n P;have:=x.size;omega
  ·exact U.new (c9.then d0) λn P=>.inr (by have P:n=M.heap.size:=P;have:=k4.size;omega)
end
section
variable {w w':World} {D D' S:RK} {d:aT} {ta pa:am} {tn tc pn pc:Nat}
def tP(n:bB):Bool:=if n.kind==4 then !within n.bH.length 1 16 else decide (0<n.bH.length)
def CY(n:List bB):Bool:=!within n.length 1 8||n.any tP
def Kv{n:j->Bool}{P:List j}{b:j}(c:P[a]? =some b)(d:(P.take a).any n=false)(e:n b=false):(P.take (a+1)).any n=false:=by
 rw[Qw,c,List.any_append,d];simp[e]
def Nb{P:j->Bool}{b:List j}{n:j}(c:b[a]? =some n)(d:P n=true):b.any P=true:=List.any_eq_true.2 ⟨n,QZ c,d⟩
def fY{e:Type}{f:e->Int}:∀{P:List e} {a:Nat} {b:e},P[a]? =some b->cD f (P.take a)=0->cD f (P.take (a+1))=f b
 |[],a,b,n,_=>by simp at n
 |y::P,0,b,n,_=>by simp at n;subst n;simp[cD];intro n;exact n.symm
 |y::P,a+1,b,n,c=>by
  simp only[Zw,cD]at c⊢;split at c
  ·rename_i d;simp at d;exact Zz c d
  ·rename_i d;rw[Zq d];exact fY (by simpa using n) c
def pG{a:Type}{P:a->Int}:∀{l:List a} {j:Nat},cD P (l.take j)≠0->cD P l=cD P (l.take j)
 |[],j,n=>by simp at n⊢
 |y::l,0,n=>by simp[cD]at n
 |y::l,j+1,n=>by
  simp only[Zw,cD]at n⊢;split
  ·rfl
  ·rename_i b;rw[Zq b]at n;exact pG n
def Kw(b:bu w D d ta tn pa pn):ba 66 #[.agg #[.slice ta tn tc,.slice pa pn pc]] w (Ok λc w'=>c= .bool (sd d)/\ai w w'):=by
 have r:=b.aZ.len;have s:=b.aZ.fe;have hp:=b.Gn.len;unfold aR at s;refine DP (PA.mk λY t s1 u=>⟨_,_,_,ae u rfl,PC.ok cE ?_⟩);rintro _ _ ⟨rfl,rfl⟩;refine⟨_,rfl,al.not (al.mk (λg=>⟨_,_,_,ae u rfl,al.dec (λZ=>Ok.mk ⟨?_,t⟩) (λZ=>⟨_,_,_,ae u rfl,λh j w'=>∃P:Nat,j=P/\P<=tn/\h=tn-P/\(d.types.take P).any CY=false/\ai Y w',⟨_,0,rfl,Qj _,rfl,sM,aj.refl _⟩,?_⟩)⟩) (λg=>Ok.mk ⟨?_,t⟩))⟩
 ·unfold sd;rw[<-r,g,Zx (by simp;omega)]
 rotate_left
 ·unfold sd;rw[<-r,g];rfl
 have v:sd d=d.types.any CY:=by unfold sd CY tP;rw[<-r,g,Zq (by simp;omega)]
 rintro h j _ w2 ⟨P,rfl,hj,rfl,x,K⟩;have k:=t.then K;refine al.dec (λa8=>?_) (λa9=>?_)
 rotate_left
 ·rw[Qz oM]at x
  exact Ok.mk ⟨by rw[v,x],k⟩
 obtain⟨y,z,A,es,rfl,_,_,B,e,a2,f,c1,rfl,C⟩:=((b.af k).aZ).IA (i:=P) oM;have L:=C.len;have a0:=C.fe;unfold aR at a0;have M:=e 0 dC;simp only[nz,Nat.mul_one,Nat.add_zero]at M;refine⟨y,z,rfl,oM,oM,_,_,_,M,PA.mk λw3 k3 s3 g3=>PS.mk g3 sM λl k4 s4 N=>⟨_,_,_,ae N rfl,PC.ok cE ?_⟩⟩;rintro _ _ ⟨rfl,rfl⟩;have m:ai w2 l:=k3.new k4 λy s=>.inr oM;have E:CY A=true->Ok (λc w'=>c= .bool (sd d)/\ai w w') (.returned (.bool true)) l:=λn=>Ok.mk ⟨by rw[v,Nb B n],k.then m⟩;refine⟨_,rfl,al.not (al.mk (λF=>⟨_,_,_,ae N rfl,λh j w'=>∃i:Nat,j=i/\i<=f/\h=f-i/\(A.take i).any tP=false/\ai l w',⟨_,0,rfl,Qj _,rfl,sM,aj.refl _⟩,?_⟩) (λF=>E (by unfold CY;rw[<-L,F];rfl)))⟩;rintro m' t' _ w5 ⟨i,rfl,hi,rfl,H,o⟩;have a3:=(k.then m).then o;refine al.dec (λa6=>?_) (λa7=>?_)
 rotate_left
 ·rw[Qz oM]at H
  exact⟨_,oM,P+1,aq oM,oM,rfl,Kv B x (by unfold CY;rw[<-L,F,H];rfl),(K.then m).then o⟩
 obtain⟨b2,a1,p,b0,rfl,_,_,O,a4,Q,R,S,rfl,T,b1,b3⟩:=((C.af m).af o).IA (i:=i) oM;have U:=T.len;have a5:=T.fe;unfold aR at a5;refine⟨b2,a1,rfl,oM,oM,cu (gQ p Q R S) rfl a4 (PA.mk λw6 k6 s6 g6=>aD (gQ p Q R S) g6 rfl λI k7 s7 J=>⟨_,ae J rfl,?_⟩)⟩;have V:ai w5 I:=k6.new k7 λy s=>.inr oM;have W:tP p=true->Ok (λc w'=>c= .bool (sd d)/\ai w w') (.returned (.bool true)) I:=λn=>Ok.mk ⟨by rw[v,Nb B (by unfold CY;rw[Nb O n];simp)],a3.then V⟩;have next:tP p=false->∃X,X<f-i/\∃q:Nat,IntKind.wrap .i64 ((i:Int)+1)=q/\q<=f/\X=f-q/\(A.take q).any tP=false/\ai l I:=λn=>
  ⟨_,oM,i+1,aq oM,oM,rfl,Kv O H n,o.then V⟩
 refine al.eH (λa=>⟨_,_,_,ae J rfl,PC.ok cE ?_⟩) (λa=>al.not (al.eH (λe=>Zz e a) (λ_=>⟨_,_,_,ae J rfl,al.dec (λb=>W ?_) (λb=>next ?_)⟩)))
 ·rintro _ _ ⟨rfl,rfl⟩
  refine⟨_,rfl,al.not (al.mk (λn=>al.not (al.eH (λ_=>next ?_) (λe=>Zz a e))) (λn=>W ?_))⟩
  ·unfold tP;rw[a,<-U,n];rfl
  ·unfold tP;rw[a,<-U,n];rfl
 ·unfold tP;rw[Zq (by simpa using a)];simp only[Zk];omega
 ·unfold tP;rw[Zq (by simpa using a)];simp only[decide_eq_false_iff_not];omega
def HJ(hT:ft w)(f:bu w D d ta tn pa pn)(hD:∀P,D P->P<w.heap.size):
  ba 40 #[.agg #[.slice ta tn tc,.slice pa pn pc]] w (Ok λB w'=>B= WP (dm d)/\ai w w'):=by
 have hl:=f.aZ.len;have e:=f.aZ.fe;have b1:=f.Gn.len;have a6:=f.Gn.fe;unfold aR at e a6;refine BC (PA.mk λw1 U s1 C=>⟨_,_,_,_,_,_,ae C rfl,ae C rfl,PC.ok (Kw (f.af U)) ?_⟩);rintro _ w2 ⟨rfl,V⟩;have W:=U.then V;have X:=V.get C id;refine⟨_,rfl,al.mk (λt=>Ok.mk ⟨by unfold dm;rw[t];rfl,W⟩) (λt=>⟨_,_,_,ae X rfl,λj a w'=>∃n:Nat,a=n/\n<=tn/\j=tn-n/\cD (λa=>cD (fI a) a) (d.types.take n)=0/\ai w2 w',⟨_,0,rfl,Qj _,rfl,rfl,aj.refl _⟩,?_⟩)⟩;rintro j a _ Y ⟨n,rfl,hj,rfl,u,E⟩;have v:=W.then E;have Z:=E.get X id;have F:∀{w':World},ai w w'->∀n b,d.types[n]? =some b->cD (λa=>cD (fI a) a) (d.types.take n)=0->∀x:Int,cD (fI b) b=x->x≠0->Ok (λB w'=>B= WP (dm d)/\ai w w') (.returned (WP x)) w':=by
  intro w' a2 n b y h0 x hr h;have k:=fY y h0;rw[hr]at k;have h2:=pG (l:=d.types) (j:=n+1) (by rw[k];exact h);refine Ok.mk ⟨?_,a2⟩;unfold dm;rw[t,h2,k];simp[h]
 refine al.dec (λb2=>?_) (λb3=>⟨_,_,_,ae Z rfl,λj a w'=>∃i:Nat,a=i/\i<=pn/\j=pn-i/\cD (mN d) (d.projs.take i)=0/\ai Y w',⟨_,0,rfl,Qj _,rfl,rfl,aj.refl _⟩,?_⟩)
 ·obtain⟨P,H,I,es,rfl,_,_,y,hc,b4,n1,c1,rfl,z⟩:=((f.af v).aZ).IA (i:=n) oM
  have b5:=z.len;have a7:=z.fe;unfold aR at a7;have a0:=hc 0 dC;simp only[nz,Nat.mul_one,Nat.add_zero]at a0;refine⟨P,H,rfl,oM,oM,_,_,_,a0,PA.mk λw4 o s4 g4=>PS.mk g4 sM λJ K s5 A=>⟨_,_,_,ae A rfl,λj a w'=>∃i:Nat,a=i/\i<=n1/\j=n1-i/\cD (fI I) (I.take i)=0/\ai J w',⟨_,0,rfl,Qj _,rfl,rfl,aj.refl _⟩,?_⟩⟩;have a8:ai Y J:=o.new K λP e=>.inr oM;rintro m' t' _ L ⟨i,rfl,hi,rfl,c,l⟩;have p:=a8.then l;refine al.dec (λa3=>?_) (λa9=>?_)
  ·obtain⟨M,N,b,b0,rfl,_,_,m,O,Q,R,S,rfl,hM,b6,b7⟩:=(z.af p).IA (i:=i) oM
   refine⟨M,N,rfl,oM,oM,cu (gQ b Q R S) rfl O (PA.mk λw7 g s7 g7=>aD (gQ b Q R S) g7 rfl λw8 q s8 g8=>⟨_,_,_,ae (q.get (g.get (l.get A id) id) (by have:=l.size;omega)) rfl,au (gQ b Q R S) g8 (PC.ok (HP (hT.af ?_) (z.af ?_) (hM.af ?_)) ?_)⟩)⟩
   ·exact(v.then p).then (g.new q λP e=>.inr oM)
   ·exact p.then (g.new q λP e=>.inr oM)
   ·exact g.new q λP e=>.inr oM
   ·rintro _ w9 ⟨rfl,k9⟩
    have a4:ai L w9:=aj.then (g.new q λP e=>.inr oM) k9;refine⟨_,rfl,al.eK (λh=>?_) (λT=>⟨_,oM,i+1,aq oM,oM,rfl,by rw[fY m c];exact T,l.then a4⟩)⟩;have k:=fY m c;exact F ((v.then p).then a4) n I y u _ (by rw[pG (j:=i+1) (by rw[k];exact h),k]) h
  ·rw[Qz oM]at c
   refine⟨_,oM,n+1,aq oM,oM,rfl,by rw[fY y u];exact c,E.then p⟩
 ·rw[Qz oM]at u
  rintro m' t' _ w4 ⟨i,rfl,hi,rfl,c,o⟩;have r:=v.then o;have a1:dm d=cD (mN d) d.projs:=by unfold dm;rw[t,u];simp
  refine al.dec (λa3=>?_) (λa9=>?_)
  ·obtain⟨M,N,b,b0,rfl,_,_,m,O,rfl,_⟩:=((f.af r).Gn).IA (i:=i) oM
   refine⟨M,N,rfl,oM,oM,cu (qD b) rfl O (PA.mk λJ K s5 A=>aD (qD b) A rfl λL l s6 g6=>?_)⟩;have s:ai w4 L:=K.new l λP e=>.inr oM;have a5:=s.get (o.get Z id) id;refine⟨_,_,_,_,_,_,ae a5 rfl,ae a5 rfl,au (qD b) g6 (PC.ok (HQ (f.af (r.then s)) λP e=>by have:=hD P e;have:=(r.then s).size;omega) ?_)⟩;rintro _ w7 ⟨rfl,g⟩;refine⟨_,rfl,al.eK (λh=>Ok.mk ⟨?_,(r.then s).then g⟩) (λT=>⟨_,oM,i+1,aq oM,oM,rfl,by rw[fY m c];exact T,(o.then s).then g⟩)⟩;rw[a1,pG (j:=i+1) (by rw[fY m c];exact h),fY m c]
  ·rw[Qz oM]at c
   exact Ok.mk ⟨by rw[a1,c],r⟩
end
def cB(n:bN)(P:Int):Int×bg:=
 if dm n.decl≠0 then(dm n.decl,(Cr n).2)else if fF n P=false then(1,(Cr n).2)else Cr n
def WW(a:World)(P:bN)(n:Int)(b:Value)(c:World):Prop:=ai a c/\
 (((cB P n).1≠0/\b= .tuple #[.pointer none,WP (cB P n).1])\/
  ((cB P n).1=0/\∃d e,b= .tuple #[LL d,WP 0]/\bY c d e P n (cB P n).2/\(∀f,e f->a.heap.size<=f)/\(cB P n).2.S.l.length<=16777216))
section
variable {w w' w0 w1 w2:World} {p:Nat} {F E D:RK} {c:bN} {self:Int}
def Uf(hT:ft w0)(hL:Laid w0)(A:ai w0 w){tn Q B R:Nat}(hd:bu w D c.decl d tn s B)(hD:∀n,D n->n<w.heap.size)(hs:aM c.bj)(d4:aM c.every)(d5:aM c.start):
  ba 19 #[xq c d tn Q s B R,WP self] w (Ok (WW w c self)):=by
 refine DM (PA.mk λf5 C f6 E=>⟨_,_,_,_,_,_,ae E rfl,ae E rfl,PC.ok (HJ (hT.af (A.then C)) (hd.af C) λn P=>by have:=hD n P;omega) ?_⟩);rintro _ d6 ⟨rfl,b8⟩;have a3:=C.then b8;have b9:d6.heap[w.heap.size]? =some (.cells (eV c d tn Q s B R).toArray 27 (0,0)):=b8.get E id;refine⟨_,rfl,al.eK (λj=>Ok.mk ⟨a3,.inl ?_⟩) (λS=>au (IK c d tn Q s B R) b9 (PC.ok Qc ?_))⟩
 ·have:cB c self=(dm c.decl,(Cr c).2):=by unfold cB;rw[Zx j]
  rw[this];exact⟨j,rfl⟩
 rintro _ T ⟨rfl,c1⟩;have F:=a3.then c1;have U:=c1.get b9 id;refine⟨_,rfl,al.not (al.mk (λl=>?_) (λl=>Ok.mk ⟨F,.inl ?_⟩))⟩
 rotate_left
 ·have:cB c self=(1,(Cr c).2):=by unfold cB;rw[Zq (by simpa using S),Zx l]
  rw[this];exact⟨show(1:Int)≠0 by decide,rfl⟩
 have a4:cB c self=Cr c:=by unfold cB;rw[Zq (by simpa using S),Zq (by rw[l];simp)]
 have c2:jX c self:=⟨l,S,hs,d4,d5⟩
 have c3:=l;unfold fF within at c3;simp only[QK,Zk]at c3;refine⟨_,ae U rfl,PC.ok (tU (A.then F) oM oM) ?_⟩;rintro _ c4 ⟨dp,rfl,d7,V⟩;obtain⟨Fd,c5,-,d8,-⟩:=d7;have H:∀n,Fd n->T.heap.size<=n/\n<c4.heap.size:=λn P=>⟨Nat.le_of_not_lt (d8 n P).2,c5.aF n P⟩
 have W:=F.then V;have X:=V.get U id;refine⟨_,_,rfl,al.eK (λj=>Zz rfl j) (λ_=>⟨_,_,_,_,_,_,ae X rfl,ae X rfl,PC.ok (MT (hd.af W) λn P=>by have:=hD n P;have:=W.size;omega) ?_⟩)⟩;rintro _ c6 ⟨m,NG,o,p,q,r,I,rfl,d9,J,K⟩;have c7:=W.then K;have e0:=K.get X id;have f8:=C.size;have g1:=F.size;have g2:=V.size;have g3:=K.size;have g4:=aA E;have e9:w.heap.size<T.heap.size:=aA U;refine⟨_,_,_,_,_,_,rfl,PS.mk e0 (by simp[eV]) λg5 e1 g6 e2=>PS.mk e2 (by simp[eV]) λY e3 g7 e4=>λt c8=>?_⟩;have Z:aj (λn=>n=w.heap.size) c6 Y:=e1.then e3;have L:ai Y t:=c8.keep;have g8:t.heap.size=Y.heap.size:=by rw[c8.heap]
 have b:t.heap[w.heap.size]? =some (.cells (eV c m NG o p q r).toArray 27 (0,0)):=L.get e4 id;have c9:ai w t:=(c7.new Z λn P=>.inr (by have P:n=w.heap.size:=P;omega)).then L;have g:∀{n:Nat},T.heap.size<=n->n≠w.heap.size:=λ{n} P=>by omega
 refine⟨λ_=>False,id,_,_,_,_,_,_,_,_,_,_,_,_,_,_,ae b rfl,ae b rfl,ae b rfl,ae b rfl,ae b rfl,ae b rfl,ae b rfl,ae b rfl,ae b rfl,ae b rfl,_,ae b rfl,id,_,ae b rfl,PC.ok (KU oM) ?_⟩;rintro _ e5 ⟨h,rfl,d0,f2,f4,b4⟩;refine⟨_,rfl,b4,PC.ok Kh ?_⟩;rintro _ f ⟨tp,M,rfl,a5,N,d1⟩;have g9:=b4.size;have h2:=N.size;have d2:=a5.aF;refine⟨_,rfl,N,PA.mk λb5 O h3 e6=>⟨O,?_⟩⟩
 let e:kp:=⟨m,NG,o,p,q,r,dp,none,0,0,h,tp⟩
 let a2:bg:=⟨⟨c.aC.toNat,[]⟩,gU c.uR.toNat,none,[],⟨c.di,[],[]⟩⟩
 have d3:b5.heap[f.heap.size]? =some (.cells (yu e c self none none none) 105 (0,0)):=e6;have a0:ai t b5:=(b4.then N).then O;have a1:=c9.then a0;have b6:∃u,bb b5 (λn=>∃k,(match k with|0=>n=f.heap.size|1=>I n|2=>Fd n|5=>n=h|6=>M n|_=>False:Prop)) u (recC f.heap.size (yu e c self none none none) e c a2 false):=by
  refine bb.join (G:=λk n=>match k with|0=>n=f.heap.size|1=>I n|2=>Fd n|5=>n=h|6=>M n|_=>False) (λk=>?_) (λi a9 n a hj=>?_) λk n P=>?_
  ·match k with
   |0=>exact⟨rfl,d3⟩
   |1=>exact(((d9.keep Z λn P v=>g (by have:=J n P;omega) v).af L).af a0)
   |2=>exact⟨Fd,((((c5.keep K λ_ _ e=>e).keep Z λn P v=>g (H n P).1 v).keep L λ_ _ e=>e).keep a0 λ_ _ e=>e),λn P=>P,rfl⟩
   |3=>intro v;cases v
   |4=>trivial
   |5=>exact⟨_,_,d0.af (N.then O),λ_ e=>e,λn P=>P.elim⟩
   |6=>exact a5.af O
   |k+7=>trivial
  ·have x:∀i:Nat,(match i with|0=>n=f.heap.size|1=>I n|2=>Fd n|5=>n=h|6=>M n|_=>False:Prop)->i=(if n<c4.heap.size then 2 else if n<c6.heap.size then 1 else if n<e5.heap.size then 5 else if n<f.heap.size then 6 else 0):=λi a=>by
    rcases i with _|_|_|_|_|_|_|i
    ·have a:n=f.heap.size:=a
     rw[Zq oM,Zq oM,Zq oM,Zq oM]
    ·have:=J n a;rw[Zq oM,Zx oM]
    ·have:=H n a;rw[Zx oM]
    ·exact a.elim
    ·exact a.elim
    ·have a:n=h:=a
     rw[Zq oM,Zq oM,Zx oM]
    ·have h5:=d1 n a;have h6:=d2 n a;rw[Zq oM,Zq oM,Zq oM,Zx oM]
    ·exact a.elim
   rw[x i a,<-x a9 hj]
  ·rcases k with _|_|_|_|_|_|_|k
   ·have P:n=f.heap.size:=P
    omega
   ·have:=J n P;omega
   ·have:=H n P;omega
   ·exact P.elim
   ·exact P.elim
   ·have P:n=h:=P
    omega
   ·have:=d2 n P;omega
   ·exact P.elim
 obtain⟨u,hp⟩:=b6;have b7:∀n,(∃k,(match k with|0=>n=f.heap.size|1=>I n|2=>Fd n|5=>n=h|6=>M n|_=>False:Prop))->w.heap.size<=n:=λn ⟨k,P⟩=>by
  rcases k with _|_|_|_|_|_|_|k
  ·have P:n=f.heap.size:=P
   omega
  ·have:=J n P;omega
  ·have:=H n P;omega
  ·exact P.elim
  ·exact P.elim
  ·have P:n=h:=P
   omega
  ·have:=d1 n P;omega
  ·exact P.elim
 refine PC.ok (zq (h:=e) (z1:=none) (z2:=none) (z3:=none) hp c2 ⟨hT,hL,A.then a1,λn P=>by have:=b7 n P;have:=A.size;omega⟩) ?_;rintro _ e7 ⟨rfl,a6,h',F',y,z,a7⟩;have e8:fC c a2=Cr c:=rfl;rw[e8]at z a6⊢;have a8:ai w e7:=a1.new a7.keep λn P=>.inr (b7 n P);refine⟨_,rfl,al.eK (λj=>Ok.mk ⟨a8,.inl ?_⟩) (λhz=>Ok.mk ⟨a8,.inr ?_⟩)⟩
 ·rw[a4];exact⟨j,rfl⟩
 ·rw[a4]
  exact⟨hz,_,F',rfl,⟨c2,h',y,z⟩,λn P=>(a7.new n P).elim (b7 n) λh5=>by have:=a1.size;omega,a6⟩
end
def MU(n:World):(callMethod (.iface 103 (LL a)) "State" #[WP e,WP l]).run PP n= .ok (.enter 402 #[LL a,WP e,WP l]) n:=kR
def HK(n:World):(callMethod (.iface 103 (LL a)) "Entries" #[]).run PP n= .ok (.enter 400 #[LL a]) n:=kR
def Qd(n:World):(callMethod (.iface 103 (LL a)) "Rows" #[WP e]).run PP n= .ok (.enter 401 #[LL a,WP e]) n:=kR
def Wn(n:aT)(P:List ah)(a b:Int):iG:=match(bZ n P).state a b with
 |none=>bP 14
 |some c=>⟨0,(0,0),c,[],[],false⟩
def Bt(a:aT)(b:List ah)(P n:Int):iG:=if P<0\/P>=(a.projs.length:Int)then bP 1 else⟨0,(0,0),⟨0,[]⟩,[],(oB (ju a b P) n 32).1,(oB (ju a b P) n 32).2⟩
section
variable {w w' w0 w1 w2:World} {p:Nat} {F E D:RK} {cls:Nat->Nat} {h:kp} {c:bN} {self:Int} {X:bg}
def CT(n:cP w F cls p h c self X):ba 89 #[LL p] w (Ok λP w'=>P= .iface 103 (LL h.bp)/\w=w'):=
 oT ⟨p,0,rfl,_,ae n.bC rfl,Ok.mk ⟨rfl,rfl⟩⟩
def Ud(x:bY w p F c self X):ba 55 #[LL p,WP e,WP l] w (Ok λy w'=>gN w (Wn c.decl X.S.l e l) y w'/\ai w w'):=by
 obtain⟨z,h,cls,o⟩:=x;refine qh (PA.mk λA b S B=>PC.ok (CT (cP.af o b)) ?_);rintro _ _ ⟨rfl,rfl⟩;have C:=cP.af o b;have n:dh A h.bp (λP=>F P/\cls P=4) c.decl c.every.toNat X.S.l:=C.at' 4;refine⟨_,rfl,_,_,MU,PC.ok (KT n) ?_⟩;rintro _ q ⟨g,i,j,G,rfl,k,r,d⟩;have E:=k.aF;have T:=d.size;refine⟨_,_,_,_,_,rfl,PA.mk λU H V I=>PS.mk I sM λW J Y K=>PS.mk K sM λL M Z m=>?_⟩;have a:ai q L:=H.new (J.then M) λP n=>.inr (by have n:P=q.heap.size:=n;omega);have s:=a.get (d.get B id) id;have b0:=a.size;have t:(((bZ c.decl X.S.l).state e l).getD HY).cells.length<=8:=Ex (Ij z.decl X.S.l).1 ⟨0,0,0,[],e,l,0,0,0,0⟩;unfold Wn
 cases N:(bZ c.decl X.S.l).state e l with
 |none=>
  refine al.tt rfl (aD (iP (bP 14) none 0 0 none 0 0 none 0 0) s rfl λb1 O b2 Q=>au (iP (bP 14) none 0 0 none 0 0 none 0 0) Q (Ok.mk ⟨gN.plain rfl rfl rfl,?_⟩));exact((b.then d).then a).new O λP n=>.inr (by have n:P=w.heap.size:=n;omega)
 |some f=>
  rw[N]at k t m;refine al.ff rfl ⟨_,_,_,_,ae m rfl,ae m rfl,aD (iP ⟨0,(0,0),f,[],[],false⟩ g i j none 0 0 none 0 0) s rfl λb3 u b4 R=>au (iP ⟨0,(0,0),f,[],[],false⟩ g i j none 0 0 none 0 0) R (Ok.mk ⟨?_,?_⟩)⟩
  ·refine⟨g,i,j,none,0,0,none,0,0,G,rfl,((k.af a).keep u λP n v=>by have v:P=w.heap.size:=v;have:=r P n;omega).row dC (by have:f.cells.length<=8:=t;show f.cells.length*32<=aR;unfold aR;omega),dA _ _,dA _ _,λP n=>⟨by have:=r P n;omega,by have:=E P n;omega⟩⟩
  ·exact((b.then d).then a).new u λP n=>.inr (by have n:P=w.heap.size:=n;omega)
def Qe(a:aT)(n:List ah)(b:Int):(ju a n b).length<=n.length:=by
 unfold ju;split
 ·simp
 split
 ·simp
 ·rename_i P c
  have e:=Nq a n P (QZ c);have d:=(yt (P.rows.map (·.2))).length_eq;rw[Q8]at d;show(P.rows.map (·.2)|>.foldr nn []).length<=_;omega
def OM(A:bY w p F c self X):ba 56 #[LL p,WP e,WP l] w (Ok λd w'=>gN w (Bt c.decl X.S.l e l) d w'/\ai w w'):=by
 obtain⟨R,h,cls,B⟩:=A;refine nV (PA.mk λf g S r=>?_);have a:=cP.af B g;have no:(e<0\/e>=(c.decl.projs.length:Int))->nw PP 53 (LL w.heap.size) (.agg (fS (bP 1) none 0 0 none 0 0 none 0 0).toArray) f λs=>jq PP 53 (LL w.heap.size) s λC=>Ok (λd w'=>gN w (Bt c.decl X.S.l e l) d w'/\ai w w') (.returned C) s:=λE=>by
  refine aD (iP (bP 1) none 0 0 none 0 0 none 0 0) r rfl λT H U I=>au (iP (bP 1) none 0 0 none 0 0 none 0 0) I (Ok.mk ⟨?_,g.new H λn P=>.inr (by have P:n=w.heap.size:=P;omega)⟩);unfold Bt;rw[Zx E];exact gN.plain rfl rfl rfl
 have V:=(show bu f (λn=>F n/\cls n=1) c.decl h.ta h.tn h.pa h.pn from a.at' 1).Gn.len;refine al.dec (λi=>no (.inl i)) (λi=>⟨p,0,rfl,_,_,_,ae a.bC rfl,al.dec (λt=>no (.inr oM)) (λt=>PC.ok (CT a) ?_)⟩);rintro _ _ ⟨rfl,rfl⟩;have P:dh f h.bp (λn=>F n/\cls n=4) c.decl c.every.toNat X.S.l:=a.at' 4;have W:X.S.l.length<=20000000:=P.1.2.2.2;have Y:=Qe c.decl X.S.l e;refine⟨_,rfl,_,_,Qd,PC.ok (Oz P) ?_⟩;rintro _ Z ⟨⟨a0,a1,cc,G,rfl,b,j,hG⟩,J⟩;have hn:=b.len dC;have K:=b.lz;refine⟨_,_,_,rfl,PC.ok (MO (b.row dC (by unfold aR;omega)) b.aF K J oM) ?_⟩;rintro _ L ⟨a2,rfl,k,m,o,M,rfl,u,q,v⟩;have N:=u.aF;have a9:=j.size;have b0:=q.size;have b1:(oB (ju c.decl X.S.l e) l 32).1.length<=32:=by unfold oB;rw[Qy];omega
 have O:ai w L:=(g.then j).then q;refine⟨_,_,_,_,rfl,aD (iP ⟨0,(0,0),⟨0,[]⟩,[],(oB (ju c.decl X.S.l e) l 32).1,(oB (ju c.decl X.S.l e) l 32).2⟩ none 0 0 none 0 0 k m o) (q.get (j.get r id) id) rfl λb2 x b3 Q=>au (iP ⟨0,(0,0),⟨0,[]⟩,[],(oB (ju c.decl X.S.l e) l 32).1,(oB (ju c.decl X.S.l e) l 32).2⟩ none 0 0 none 0 0 k m o) Q (Ok.mk ⟨?_,O.new x λn P=>.inr (by have P:n=w.heap.size:=P;omega)⟩)⟩;unfold Bt;rw[Zq (by rintro(y|y);exact i y;exact t oM)];refine⟨none,0,0,none,0,0,k,m,o,M,rfl,dA _ _,dA _ _,(u.keep x λn P z=>by have z:n=w.heap.size:=z;have:=v n P;omega).row dC (by show(oB (ju c.decl X.S.l e) l 32).1.length*24<=aR;unfold aR;omega),λn P=>⟨by have:=v n P;omega,by have:=N n P;omega⟩⟩
end
def Dt{a:Type}{b:a->Bool}:∀{L:List a} {j:Nat} {n:a},L[j]? =some n->b n=true->(L.filter b)[((L.take j).filter b).length]? =some n
 |[],j,n,P,_=>by simp at P
 |x::L,0,n,P,c=>by simp at P;subst P;simp[c]
 |x::L,j+1,n,P,c=>by
  have d:=Dt (L:=L) (j:=j) (by simpa using P) c;rw[Zw,List.filter_cons,List.filter_cons];split
  ·simpa using d
  ·exact d
variable{F h0:Nat×Nat}
section
variable {w w' wz A B w1:World} {D:RK} {a:am} {n c:Nat} {l:List cZ} {O R1 R2 f most:Nat} {own L:List (Bx cZ)} {pre:List (List Value)}
def V_(a n:Int)(P:cZ):Bool:=P.ev.aZ==a&&P.ev.agg==n
def Eu{e:cZ}{a:am}{n c:Nat}(i:Row aP 8 w D a n e.ev.aN)(t:∀P,D P->P<w.heap.size):
  ba 149 #[Gm e a n c] w (Ok λu w'=>∃a n c G,u=Gm e a n c/\Row aP 8 w' G a n e.ev.aN/\(∀P,G P->w.heap.size<=P/\P<w'.heap.size)/\ai w w'):=by
 have v:=i.fe;have x:=i.len;refine Ab (PA.mk λw1 m A f=>PA.mk λB g C j=>⟨_,_,_,ae (g.get f id) rfl,PC.ok (bT (i.af (m.then g)) λP b=>by have:=t P b;omega) ?_⟩);rintro _ E ⟨o,p,q,G,rfl,r,h,k⟩;have f:=h.get (g.get f id) id;have j:=h.get j id;have F:=h.size;refine⟨_,_,_,rfl,PS.mk f sM λH l I y=>?_⟩;refine au (cs:=ly e o p q) (mr _ _ _ _) y (aD (mr _ _ _ _) (l.get j (λd=>by have d:w1.heap.size=w.heap.size:=d;omega)) rfl λJ s K z=>au (mr _ _ _ _) z (Ok.mk ⟨o,p,q,G,rfl,?_,?_,?_⟩))
 ·refine(((r.keep l λP b d=>?_).keep s λP b d=>?_).row (bytes:=8) dC (by rw[<-x];exact v))
  ·have d:P=w.heap.size:=d;have:=k P b;omega
  ·have d:P=w1.heap.size:=d;have:=k P b;omega
 ·intro P b
  have:=k P b;have:=r.aF P b;omega
 ·exact((((m.then g).then h).new l λP b=>.inr (by have b:P=w.heap.size:=b;omega)).new s λP b=>.inr (by have b:P=w1.heap.size:=b;omega))
def QA{e:cZ}{f P:Int}{h i:Nat}(k:w.heap[h]? =some (.cells #[WP f] g F))(l:w.heap[i]? =some (.cells #[WP P] r h0)):
  ba 148 #[Gm e a n c,LL h,LL i] w (Ok λm w'=>m= .bool (V_ f P e)/\ai w w'):=by
 refine Aa (PA.mk λw1 b o j=>⟨_,ae j rfl,_,ae (b.get k id) rfl,al.mk (λd=>⟨_,ae j rfl,_,ae (b.get l id) rfl,Ok.mk ⟨?_,b⟩⟩) (λd=>Ok.mk ⟨?_,b⟩)⟩)
 ·unfold V_;rw[d];rfl
 ·unfold V_;rw[d];rfl
structure QO (wz:World) (O:Nat) (own:List (Bx cZ)) (f most:Nat) (pre:List (List Value)) (A:World):Prop where
 keep:aj (·=O) wz A
 fe:wz.heap.size+2<=A.heap.size
 nu:∃a n c G,A.heap[O]? =some (.cells #[.slice a n c] 50 (0,0))/\aU AU 133 G A a n c (((own.take pre.length).drop f).map (·.x))/\(∀b,G b->wz.heap.size+2<=b)/\n<=most
structure Xp (wz:World) (O R1 R2:Nat) (own:List (Bx cZ)) (f most:Nat) (A:World):Prop where
 keep:aj (λb=>b=O\/b=R1\/b=R2) wz A
 r2:A.heap[R2]? =some (.cells #[.bool true] 4 (0,0))
 more:most<(own.drop f).length
 nu:∃a n c G,A.heap[R1]? =some (.cells #[.slice a n c] 50 (0,0))/\aU AU 133 G A a n c (((own.drop f).take most).map (·.x))/\(∀b,G b->wz.heap.size+2<=b)
def QO.af(b:QO wz O own f most pre A)(P:ai A B):QO wz O own f most pre B:=by
 obtain⟨d,e,a,n,c,G,g,h,i⟩:=b;exact⟨d.af P,Xx e P.size,a,n,c,G,P.get g id,h.af P,i⟩
def QO.fg(o:O<wz.heap.size)(h:QO wz O own f most pre A)(i:qV (wz.heap.size+1) A B):QO wz O own f most pre B:=by
 obtain⟨j,p,a,n,c,G,k,l,g,m⟩:=h;obtain⟨e,q⟩:=i;exact⟨j.new e λb d=>.inr (by have d:b=wz.heap.size+1:=d;omega),oM,a,n,c,G,e.get k (λP=>by have P:O=wz.heap.size+1:=P;omega),l.keep e λb d P=>by have P:b=wz.heap.size+1:=P;have:=g b d;omega,g,m⟩
def Xp.fg(q:O<wz.heap.size/\R1<wz.heap.size/\R2<wz.heap.size)(h:Xp wz O R1 R2 own f most A){k:Nat}(r:wz.heap.size<=k/\k<=wz.heap.size+1)(i:qV k A B):Xp wz O R1 R2 own f most B:=by
 obtain⟨j,l,m,a,n,c,G,o,p,g⟩:=h;obtain⟨b,s⟩:=i;exact⟨j.new b λd e=>.inr (by have e:d=k:=e;omega),b.get l (λP=>by have P:R2=k:=P;omega),m,a,n,c,G,b.get o (λP=>by have P:R1=k:=P;omega),p.keep b λd e P=>by have P:d=k:=P;have:=g d e;omega,g⟩
def Vt{l e:Int}{q s t u:Nat}{R:ac}{Rx:ac}(hO:O<wz.heap.size)(Y:wz.heap[q]? =some (.cells #[WP l] g F))(Z:wz.heap[s]? =some (.cells #[WP e] r h0))(h1:q≠O)(h2:s≠O)(v:∃j f,wz.heap[t]? =some (.cells #[.slice a n c] j f))(h3:t≠O)(w:∃j f,wz.heap[u]? =some (.cells #[.func (.func 148) #[] #[LL q,LL s]] j f))(h4:u≠O)(I:Row Nl.kr 120 wz D a n L)(hD:∀P,D P->P<wz.heap.size/\P≠O)(J:own=L.filter λP=>V_ l e P.x)(b6:L.length<=20000000)(hR:∀A B,R A->aj (oN wz) A B->R B)(hy:∀pre m A,QO wz O own f most pre A->R A->ud [WP 0,Gm ⟨sL,false,(0,0)⟩ none 0 0] m->(∃P,own[pre.length]? =some P/\m=[WP (pre.length:Int),Gm P.x P.a P.n P.c])->ky PP (wz.heap.size+1) m A λP d=>(P=true/\QO wz O own f most (pre++[m]) d/\R d)\/(P=false/\Xp wz O R1 R2 own f most d/\Rx d))(K:QO wz O own f most [] w1)(a4:R w1):
  ba 214 #[.func (.yield (wz.heap.size+1)) #[] #[],LL t,LL u] w1 (λj d=>(∃a0,j= .returned a0)/\((R d/\∃k:List (List Value),QO wz O own f most k d/\k.length=own.length)\/(Xp wz O R1 R2 own f most d/\Rx d))):=by
 obtain⟨e3,f3,v⟩:=v;obtain⟨e4,f4,w⟩:=w;have hn:=I.len;refine vU ⟨_,_,_,ae (K.keep.get v h3) rfl,λM a1 x w'=>∃(b:Nat) (pre:List (List Value)),x=b/\b<=n/\M=n-b/\a1=(pre.length:Int)/\pre.length=((L.take b).filter λP=>V_ l e P.x).length/\QO wz O own f most pre w'/\R w',⟨_,0,[],rfl,Qj _,rfl,rfl,rfl,K,a4⟩,?_⟩;rintro M _ _ _ N ⟨b,pre,rfl,hj,rfl,rfl,i,o,Q⟩;refine al.dec (λb7=>?_) (λb8=>?_)
 ·obtain⟨P,h⟩:∃P,L[b]? =some P:=⟨_,Qq oM⟩
  obtain⟨a2,a3,es,ha,a5,a6,y,rfl,-⟩:=(I.keep o.keep λP h=>(hD P h).2).el b P h;have b3:pre.length<=20000000:=by
   rw[i];have h5:=List.length_filter_le (λP:Bx cZ=>V_ l e P.x) (L.take b);have h6:=List.length_take_le b L;omega
  refine⟨a2,a3,ha,oM,oM,cu (es:=ly P.x P.a P.n P.c) (k:=13) (mr _ _ _ _) rfl (λx ht=>by rw[Qx];exact y x ht) (PA.mk λb9 a7 c1 a8=>aD (mr P.x P.a P.n P.c) a8 rfl λa9 b0 c2 S=>?_)⟩;have T:ai N a9:=a7.new b0 λP h=>.inr (by have h:P=N.heap.size:=h;omega);have z:=o.af T;refine⟨_,ae (z.keep.get w h4) rfl,au (mr P.x P.a P.n P.c) S ⟨_,_,_,rfl,kR,PC.ok (QA (z.keep.get Y h1) (z.keep.get Z h2)) ?_⟩⟩;rintro _ b1 ⟨rfl,U⟩;have V:=T.then U;have W:=o.af V;have X:=hR _ _ Q (ai.keep V);refine⟨_,rfl,al.not (al.mk (λp=>?_) (λp=>⟨_,oM,b+1,pre,aq oM,oM,rfl,rfl,?_,W,X⟩))⟩
  rotate_left
  ·rw[Qw,h,List.filter_append,i];simp[p]
  refine au (mr P.x P.a P.n P.c) (U.get S id) ⟨_,rfl,(hy pre _ b1 W X ?_ ⟨P,?_,rfl⟩).mono ?_⟩
  ·exact λφ C=>C pre.length P.x.ev.origin P.x.ev.seq P.x.ev.aB P.a P.n P.c P.x.ev.aZ P.x.ev.agg P.x.ev.field P.x.ev.op P.x.ev.arg P.x.ev.key P.x.void P.x.Gk.1 P.x.Gk.2
  ·rw[J,i];exact Dt h p
  ·rintro b' d (⟨rfl,E,b5⟩|⟨rfl,H,b2⟩)
   ·refine al.ff rfl ⟨_,oM,b+1,pre++[_],aq oM,oM,rfl,?_,?_,E,b5⟩
    ·rw[aq oM];simp
    ·rw[Qw,h,List.filter_append,QX,QX,<-i];simp[p]
   ·exact al.tt rfl ⟨⟨_,rfl⟩,.inr ⟨H,b2⟩⟩
 ·rw[Qz oM]at i
  exact⟨⟨_,rfl⟩,.inl ⟨Q,pre,o,by rw[J];exact i⟩⟩
end
section
variable {w w' wz A B w1:World} {D:RK} {a:am} {n c:Nat} {l:List cZ}
def Ki{I i f:Int}{most:Nat}(J:Row AU 120 w D a n l)(hD:∀P,D P->P<w.heap.size)(hm:most<=1000)(hl:l.length<=20000000)(k2:aM f):
  ba 88 #[.slice a n c,WP I,WP i,WP f,WP (most:Int)] w (Ok λa6 w'=>∃O,a6= .tuple #[O,.bool (lq l I i f most).2]/\qI AU 133 w (lq l I i f most).1 O w'):=by
 obtain⟨V,c3,hL,e9⟩:=fh.boxes (N:=Nl) J;have l0:V.length=l.length:=by rw[<-c3,Q8]
 obtain⟨own,q⟩:∃own,own=V.filter λP=>V_ I i P.x:=⟨_,rfl⟩
 obtain⟨j,hf⟩:∃j:Nat,j=(max f 0).toNat:=⟨_,rfl⟩
 have c7:own.map (·.x)=l.filter λb=>b.ev.aZ==I&&b.ev.agg==i:=by rw[q,<-c3,List.filter_map];rfl
 have f2:lq l I i f most=(((own.drop j).take most).map (·.x),decide (most<(own.drop j).length)):=by
  unfold lq;rw[<-c7,<-hf];simp only[List.map_take,List.map_drop,XZ,Q8]
 rw[f2];have h3:own.length<=20000000:=by rw[q];have:=List.length_filter_le (λP:Bx cZ=>V_ I i P.x) V;omega
 refine Ec (PA.mk λw6 k6 s6 g6=>PA.mk λv k7 s7 g7=>PA.mk λw8 k8 s8 g8=>PA.mk λk k9 s9 g9=>PA.mk λm a0 l3 f5=>PA.mk λo W l4 f6=>PA.mk λf8 Q l5 g0=>?_);have a7:=(((k8.then k9).then a0).then W).then Q;have c8:=a7.get (show v.heap[w6.heap.size]? =_ from g7) id;have k5:(if 0>(if False then(0:Int)else f)then 0 else f)=(j:Int):=by simp;split<;>omega
 refine⟨_,ae ((((k9.then a0).then W).then Q).get g8 id) rfl,?_⟩;have g1:(if 0>f then(0:Int)else f)=(j:Int):=by rw[hf];split<;>omega
 rw[g1];refine PS.mk ((((k9.then a0).then W).then Q).get g8 id) sM λE K l6 g2=>?_;have c9:E.heap[v.heap.size]? =some (.cells #[WP (j:Int)] 3 (0,0)):=g2;have d0:ai w f8:=((k6.then k7).then a7)
 have d1:ai w E:=d0.new K λP d=>.inr (by have d:P=v.heap.size:=d;omega);have d2:=K.get ((k7.then a7).get g6 id) (λb=>by have b:w.heap.size=v.heap.size:=b;omega);have d3:=K.get c8 (λb=>by have b:w6.heap.size=v.heap.size:=b;omega);have d6:=K.get (((a0.then W).then Q).get g9 id) (λb=>by have b:w8.heap.size=v.heap.size:=b;omega);have d7:=K.get ((W.then Q).get f5 id) (λb=>by have b:k.heap.size=v.heap.size:=b;omega);have d9:=K.get (Q.get f6 id) (λb=>by have b:m.heap.size=v.heap.size:=b;omega);have e2:=K.get g0 (λb=>by have b:o.heap.size=v.heap.size:=b;omega);refine PC.ok (φ:=λa6 w'=>a6= .func (.func 214) #[] #[LL E.heap.size,.pointer (some ⟨E.heap.size+1,0,none⟩)]/\w'.heap[E.heap.size]? =some (.cells #[.slice a n c] 50 (0,0))/\(∃b ff,w'.heap[E.heap.size+1]? =some (.cells #[.func (.func 148) #[] #[LL w.heap.size,LL w6.heap.size]] b ff))/\ai E w'/\w'.heap.size=E.heap.size+2)
  (BG (PA.mk λw3 k3 s3 g3=>PA.mk λw4 k4 s4 g4=>Ok.mk ⟨by rw[s3],k4.get g3 id,⟨_,_,by rw[<-s3];exact g4⟩,k3.then k4,oM⟩)) ?_
 rintro _ wz ⟨rfl,g5,h0,y,sz⟩;have h:=d1.then y;have a8:=y.get d2 id;have a9:=y.get d3 id;have b0:=y.get d6 id;have b1:=y.get c9 id;have L:=y.get d7 id;have M:=y.get d9 id;have X:=y.get e2 id;have Y:o.heap.size<wz.heap.size:=aA X;have d4:k.heap.size<wz.heap.size:=aA L;have d5:m.heap.size<wz.heap.size:=aA M;have b2:∀P,D P->P<wz.heap.size/\P≠o.heap.size:=λP d=>⟨by have:=hD P d;have:=h.size;omega,λb=>by have:=hD P d;omega⟩
 have e3:∀P∈V,Nl.In wz D P:=λP d=>(e9 P d).keep h λ_ _ J=>J;have e4:∀{c0:Nat} {P:Bx cZ},own[c0]? =some P->P∈V:=λ{c0 P} d=>by
  have:=QZ d;rw[q]at this;exact(List.mem_filter.1 this).1
 refine⟨_,rfl,214,_,rfl,kR,Unit,(),λ_=>QO wz o.heap.size own j most,λO _ A=>O= .ret/\Xp wz o.heap.size k.heap.size m.heap.size own j most A,
  λe R=>∃P,own[e.length]? =some P/\R=[WP (e.length:Int),Gm P.x P.a P.n P.c],λz=>z.length=own.length,?_,λ_ e A B N t=>N.fg Y t,λO e A B hx t=>⟨hx.1,hx.2.fg ⟨Y,d4,d5⟩ ⟨oM,oM⟩ t⟩,?_,?_,?_,?_,trivial⟩
 ·intro w1 hk hs
  refine⟨ai.keep hk,oM,none,0,0,λ_=>False,hk.get X id,?_,λP d=>d.elim,Qj _⟩;simpa using aU.nil w1
 ·rintro _ e A N l7 l8 l9 m0 m1 ta tn tc m2 m3 m4 m5 m6 m7 m8 m9 n0 ⟨P,d,he⟩
  simp only[ly,aI,List.cons_append,List.nil_append,List.cons.injEq,Value.agg.injEq,Array.mk.injEq,Value.int.injEq,XX,Value.bool.injEq,and_true,true_and]at he;obtain⟨rfl,rfl,rfl,rfl,⟨rfl,rfl,rfl⟩,rfl,rfl,rfl,rfl,rfl,rfl,rfl,rfl,rfl⟩:=he;have n1:e.length<own.length:=(Qv.1 d).1;refine PA.mk λn3 h8 n4 h9=>aD (mr P.x P.a P.n P.c) h9 rfl λi0 i1 n8 i2=>?_;have c1:ai A i0:=h8.new i1 λP d=>.inr (by have d:P=A.heap.size:=d;omega);refine⟨ai.keep c1,λb3 t=>?_⟩;have c2:=(N.af c1).fg Y t;have i3:=t.1.get i2 (λb=>by have b:A.heap.size=wz.heap.size+1:=b;omega);have n9:=t.2;have Z:=c2.keep;have c4:∀R:List Value,(((own.take (e++[R]).length).drop j)=if e.length<j then []else((own.take e.length).drop j)++[P]):=λR=>by
   rw[QX,List.length_singleton,Qw,d];have i4:(own.take e.length).length=e.length:=by rw[Qy];omega
   split
   ·rename_i r
    exact List.drop_eq_nil_of_le (by rw[QX,i4];simp;omega)
   ·rename_i r
    rw[List.drop_append_of_le_length oM];rfl
  obtain⟨p,x,C,F,S,G,u,s,r,h6⟩:=c2;have a1:=s.len dC;rw[Q8,XZ,Qy,X2 oM]at a1;refine⟨_,ae (Z.get b1 (λb=>by have b:v.heap.size=o.heap.size:=b;omega)) rfl,al.dec (λo0=>⟨aj.refl _,?_⟩) (λo1=>⟨_,_,_,ae u rfl,_,ae (Z.get b0 (λb=>by have b:w8.heap.size=o.heap.size:=b;omega)) rfl,al.dec (λi5=>?_) (λi6=>λd8 i7=>?_)⟩)⟩
  ·refine⟨p,x,C,F,S,G,u,?_,r,h6⟩
   rw[c4,Zx oM];rw[List.drop_eq_nil_of_le (by rw[Qy];omega)]at s;exact s
  ·have e6:F=most:=oM
   have b4:=Z.get L (λb=>by have b:k.heap.size=o.heap.size:=b;omega);have b5:=Z.get M (λb=>by have b:m.heap.size=o.heap.size:=b;omega);refine⟨_,_,_,ae u rfl,PS.mk b4 sM λo2 e0 o3 i8=>PS.mk (e0.get b5 (λb=>by have b:m.heap.size=k.heap.size:=b;omega)) sM λi9 e1 o4 j0=>?_⟩;have T:aj (λP=>P=k.heap.size\/P=m.heap.size) b3 i9:=(e0.mono λP _ b=>.inl b).then (e1.mono λP _ b=>.inr b);have j1:(own.drop j).take most=(own.take e.length).drop j:=by
    rw[<-e6,a1,List.drop_take]
   refine⟨T.mono λP _ d=>⟨by rcases d with rfl|rfl<;>omega,by rcases d with rfl|rfl<;>omega⟩,.inl rfl,rfl,(p.mono λP _ b=>.inl b).then (T.mono λP _ b=>.inr b),j0,by rw[XZ];omega,C,F,S,G,e1.get i8 (λb=>by have b:k.heap.size=m.heap.size:=b;omega),?_,r⟩;rw[j1];exact s.keep T λP d b=>by have:=r P d;rcases b with rfl|rfl<;>omega
  ·have U:ai b3 d8:=i7.keep
   have c5:=(e3 P (e4 d)).keep Z λP d b=>(b2 P d).2 b;have e7:Row aP 8 d8 D P.a P.n P.x.ev.aN:=c5.1.af U;have e8:P.x.ev.Ok:=c5.2;refine⟨λ_=>False,id,_,_,_,ae (U.get u id) rfl,au (mr P.x P.a P.n P.c) (U.get i3 id) (PC.ok (Eu e7 λP d=>by have:=(b2 P d).1;have:=U.size;omega) ?_)⟩;rintro _ o5 ⟨f0,n2,f1,G2,rfl,j2,b6,b7⟩;have o6:=U.size;have o7:=b7.size;refine⟨_,_,_,_,_,_,_,_,_,_,_,_,_,_,_,rfl,b7,PA.mk λo8 b8 o9 j3=>⟨b8,?_⟩⟩;have a2:=(U.then b7).then b8;refine fJ (c:=AU) (x:=P.x) (s.af a2) Tz j3 (D:=G2) ⟨f0,n2,f1,rfl,j2.af b8,e8⟩ (λP d=>⟨by have:=b6 P d;omega,λb=>by have:=s.aF P (s.self P b);have:=b6 P d;omega⟩) (by rw[Q8,XZ,Qy];unfold aR;omega) (by rw[Q8,XZ,Qy];unfold maxLen;omega) λa' c' p0 F' f3 b9 j4=>⟨_,_,_,rfl,?_⟩
   have g:∀P,aG C=some P->wz.heap.size+2<=P:=λP d=>r P (s.self P d);have j5:¬aG C=some o.heap.size:=λb=>by have:=g _ b;omega
   have p1:=b9.size;have p2:=a2.size;have H:∀P,F' P->wz.heap.size+2<=P:=λP d=>by
    rcases j4 P d with h7|h7|h7
    ·exact r P h7
    ·have:=b6 P h7;omega
    ·omega
   refine PS.mk (b9.get (a2.get u id) j5) sM λj6 e5 p3 j7=>?_;have T:aj (λP=>aG C=some P\/P=o.heap.size) b3 j6:=((ai.keep a2).then (b9.mono λP _ b=>.inl b)).then (e5.mono λP _ b=>.inr b);refine⟨T.mono λP _ d=>⟨?_,?_⟩,⟨(p.new (T.mono λP _ b=>b) λP d=>d.elim (λb=>.inr (by have:=g P b;omega)) .inl),oM,a',F+1,c',F',j7,?_,H,oM⟩⟩
   ·rcases d with d|rfl
    ·have:=g P d;omega
    ·omega
   ·rcases d with d|rfl
    ·have:=g P d;omega
    ·omega
   ·rw[c4,Zq oM,Q3]
    exact f3.keep e5 λP d b=>by have b:P=o.heap.size:=b;have:=H P d;omega
 ·intro f4 Rx hR _ p4 hy w1 j8 f7
  refine Calls.mono (Vt (own:=own) (f:=j) (most:=most) (R:=f4) (Rx:=Rx .ret) (R1:=k.heap.size) (R2:=m.heap.size) Y a8 a9 oM oM ⟨_,_,y.size|>λ_=>g5⟩ oM h0 oM (hL.af h) b2 q oM hR (λe R A N j9 t hN=>(hy () e R A N j9 t hN).mono ?_) j8 f7) ?_
  ·rintro P A' (J|⟨p,O,⟨rfl,x⟩,u⟩)
   ·exact .inl J
   ·exact .inr ⟨p,x,u⟩
  ·rintro b A' ⟨hv,J⟩
   refine⟨hv,?_⟩;rcases J with⟨p,z,x,u⟩|⟨p,x⟩
   ·exact .inl ⟨p,(),z,x,u⟩
   ·exact .inr ⟨.ret,[],⟨rfl,p⟩,x⟩
 ·rintro _ z A N c6 hm
  obtain⟨p,x,C,F,S,G,u,s,r,h6⟩:=N;have a1:=s.len dC;rw[c6,List.take_length]at s;rw[c6,List.take_length,Q8,XZ]at a1;have b4:=p.get L (λb=>by have b:k.heap.size=o.heap.size:=b;omega);have b5:=p.get M (λb=>by have b:m.heap.size=o.heap.size:=b;omega);refine⟨_,_,_,ae u rfl,PS.mk b4 sM λp5 a3 p6 k0=>PS.mk (a3.get b5 (λb=>by have b:m.heap.size=k.heap.size:=b;omega)) sM λp7 a4 p8 k1=>?_⟩;refine⟨a4.get (a3.get hm (λb=>by have b:wz.heap.size=k.heap.size:=b;omega)) (λb=>by have b:wz.heap.size=m.heap.size:=b;omega),λp9 t=>?_⟩;have a5:=t.1;have f9:=a5.get (a4.get k0 (λb=>by have b:k.heap.size=m.heap.size:=b;omega)) (λb=>by have b:k.heap.size=wz.heap.size:=b;omega);have h1:=a5.get k1 (λb=>by have b:m.heap.size=wz.heap.size:=b;omega);refine⟨_,_,_,ae f9 rfl,_,ae h1 rfl,Ok.mk ⟨_,?_,C,F,S,G,rfl,?_,?_,λP d=>by have:=r P d;have:=h.size;omega⟩⟩
  ·rw[Xv (by rw[XZ];omega)]
  ·rw[Qz (by rw[XZ];omega)]
   exact((s.keep a3 λP d b=>by have b:P=k.heap.size:=b;have:=r P d;omega).keep a4 λP d b=>by have b:P=m.heap.size:=b;have:=r P d;omega).keep a5 λP d b=>by have b:P=wz.heap.size:=b;have:=r P d;omega
  ·refine(((h.new p λP d=>.inr (by have d:P=o.heap.size:=d;omega)).new a3 λP d=>.inr (by have d:P=k.heap.size:=d;omega)).new a4 λP d=>.inr (by have d:P=m.heap.size:=d;omega)).new a5 λP d=>.inr (by have d:P=wz.heap.size:=d;have:=h.size;omega)
 ·rintro e A ⟨-,hx⟩ hm
  refine⟨hm,λq0 t=>?_⟩;obtain⟨p,x,h2,C,F,S,G,u,s,r⟩:=hx.fg ⟨Y,d4,d5⟩ ⟨oM,oM⟩ t;refine⟨_,_,_,ae u rfl,_,ae x rfl,Ok.mk ⟨_,by rw[Zy h2],C,F,S,G,rfl,s,?_,λP d=>by have:=r P d;have:=h.size;omega⟩⟩;exact h.new p λP d=>.inr (by rcases d with d|d|d<;>omega)
end
def AE(P:aT)(a:List ah)(b c n:Int):iG:=⟨0,(0,0),⟨0,[]⟩,(lq (bZ P a).entries b c n 32).1,[],(lq (bZ P a).entries b c n 32).2⟩
section
variable {w w' w0 w1 w2:World} {p:Nat} {F E D:RK} {cls:Nat->Nat} {h:kp} {c:bN} {self:Int} {X:bg}
def Lt(s:bY w p F c self X)(t:aM B):ba 54 #[LL p,WP e,WP l,WP B] w (Ok λu w'=>gN w (AE c.decl X.S.l e l B) u w'/\ai w w'):=by
 obtain⟨J,h,cls,j⟩:=s;refine mX (PA.mk λv a K x=>PC.ok (CT (cP.af j a)) ?_);rintro _ _ ⟨rfl,rfl⟩;have y:=cP.af j a;have n:dh v h.bp (λP=>F P/\cls P=4) c.decl c.every.toNat X.S.l:=y.at' 4;have z:=(xi c.decl X.S.l n.1.2.2.2).1;refine⟨_,rfl,_,_,HK,PC.ok (Gq n) ?_⟩;rintro _ L ⟨M,N,O,G,rfl,k,b,Q⟩;refine⟨_,_,_,rfl,PC.ok (Ki (most:=32) (k.row dC (by unfold aR;omega)) k.aF oM z t) ?_⟩;rintro _ A ⟨R,rfl,d,f,g,C,rfl,m,i,o⟩;have E:=m.aF;have S:=b.size;have T:=i.size;have U:(lq (bZ c.decl X.S.l).entries e l B 32).1.length<=32:=by unfold lq;rw[Qy];omega
 have H:ai w A:=(a.then b).then i;refine⟨_,_,_,_,rfl,aD (iP (AE c.decl X.S.l e l B) none 0 0 d f g none 0 0) (i.get (b.get x id) id) rfl λV q W I=>au (iP (AE c.decl X.S.l e l B) none 0 0 d f g none 0 0) I (Ok.mk ⟨?_,H.new q λP n=>.inr (by have n:P=w.heap.size:=n;omega)⟩)⟩;refine⟨none,0,0,d,f,g,none,0,0,C,rfl,dA _ _,(m.keep q λP n r=>by have r:P=w.heap.size:=r;have:=o P n;omega).row dC (by show(lq (bZ c.decl X.S.l).entries e l B 32).1.length*120<=aR;unfold aR;omega),dA _ _,λP n=>⟨by have:=o P n;omega,by have:=E P n;omega⟩⟩

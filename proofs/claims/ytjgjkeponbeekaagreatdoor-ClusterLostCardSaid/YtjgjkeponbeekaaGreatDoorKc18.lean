import Derived.Test.YtjgjkeponbeekaaGreatDoorKc17
set_option linter.all false
set_option maxRecDepth 20000
namespace Go.Proofs.YtjgjkeponbeekaaGreatDoor
open Go.aq
variable{a7 h6:List PanicEntry->UV}{f:LL}{O m:ah}{B:aw}
section
variable {w w' w0:World} {p:Nat} {F E T:LL} {cls:Nat->Nat} {h:kj} {c:bS} {self:Int} {X:bk} {evs lB:List ah} {ea:ac} {en ec:Nat}
def Env.sub(P:Env w0 w F)(a:∀n,f n->F n):Env w0 w f:=⟨P.pU,P.laid,P.gr,λn b=>P.aE n (a n b)⟩
def Su(n:B.OK)(a:m∈B.l)(b:O∈B.l)(c:bd m=bd O):m=O:=by
 have P:=n.get a;have d:=n.get b;rw[c,d]at P;exact(XJ P).symm
def CH(v:bb w F cls (lX p (h.cells c self) h c X lB))(j:Env w0 w F)(R:∀(x:Nat) (l m:ah),lB[x]? =some l->X.S.l[x]? =some m->bd l=bd m->l=m)(y:X.S.l.length<=20000000){κ:L1}(o:∀w' f P,cP w' f P p h c self X->cu F w f w'->κ (ZT 0) w'):
  ∀pS,bC w pS->∃q:LL,(∃r z,(PP p:ac)=some ⟨r,z,none⟩/\(¬q r/\(∃(A:ac),pS.cell? ⟨r,z+14,none⟩=some (.pointer A)/\(∃B C,(PP p:ac)=some ⟨B,C,none⟩/\(∃(E:ac),pS.cell? ⟨B,C+13,none⟩=some (.pointer E)/\
   PC WP 59 #[.pointer E] pS (λS b=>∃(H:ac) (I:Nat) (J:Nat),S= .slice H I J/\(aj q pS b/\PC WP 75 #[.pointer A,.slice H I J] b (λT g=>∃(U:Int),T= ZT U/\(aj q b g/\κ (ZT 0) g)) a7)) h6))))):=by
 intro pS V;have s:ai w pS:=V.keep;have i:=bb.af v bY s;have K:=(i.at' 0).2;refine⟨λn=>F n/\cls n=4,p,0,rfl,λW=>?_,_,ae K rfl,p,0,rfl,_,ae K rfl,PC.ok (sg (show cI pS h.sp (λn=>F n/\cls n=3) X.S from(i.at' 3).1) y) ?_⟩
 ·have:=W.2
  have Y:=(show(F p/\cls p=0)/\_ from v.at' 0).1.2;rw[Y]at this;cases this
 rintro _ b ⟨a1,a2,cc,G,rfl,t,e,Z⟩;have b5:=e.size;have a6:=i.aE;have L:=bb.af i bY e;have a8:=t.lv;have a0:dd b h.bp (λn=>F n/\cls n=4) c.decl c.every.toNat lB:=L.at' 4;refine⟨_,_,_,rfl,ai.keep e,PC.ok (HL a0 j.pU ((j.gr.then s).then e) (λn d=>j.aE n d.1) (t.row dC (by unfold aT;omega)) a8 (λn d=>⟨t.aE n d,λhf=>by have:=a6 n hf.1;have:=Z n d;omega⟩) y R) ?_⟩;rintro _ g ⟨k,rfl,G4,M,N⟩;obtain⟨f,P,u,a,-,-⟩:=L.iz bY (k:=4) (G':=G4) (C2:=lX p (h.cells c self) h c X X.S.l) N M.aE M λO G hj hc=>by
  rcases O with _|_|_|_|_|_|_|O<;>first|exact hc|exact Zz rfl hj
 have Q:ai w b:=s.then e;exact⟨_,rfl,N.keep,o g f P u ⟨(ai.keep Q).then a.keep,λn d=>(a.new n d).imp id λh1=>by have:=Q.size;omega⟩⟩
def JF(x:cP w F cls p h c self X)(c1:jU c self)(y:Env w0 w F){V:dw}(b3:X.log=some V)(Y:Row kq 96 w E ea en evs)(Z:∀P,E P->P<w.heap.size/\¬(F P/\cls P=2))(hl:X.S.l.length+evs.length<=20000000):
  am 81 #[L2 p,.slice ea en ec] w (Ok λz w'=>z= ZT (dt c X evs).1/\∃A r d,cP w' r d p A c self (dt c X evs).2/\cu F w r w'/\A.wp=h.wp):=by
 obtain⟨b,D,c2,n,i⟩:=X;simp only at b3 hl;subst b3;obtain⟨hS,B,hn⟩:=(show cI w h.sp (λP=>F P/\cls P=3) b/\b.Cl/\b.n=c.aD.toNat from x.at' 3)
 have c3:=x.aE;obtain⟨e1,C,H,a0⟩:=DL.Pt (show DL w (λP=>F P/\cls P=2) h.dp h.lp D (some V)from x.at' 2) (y.sub λP a=>a.1) λP a=>c3 P a.1;have c4:=Ss Y;have a2:∀P,E P->P<w.heap.size:=λP a=>(Z P a).1;refine oP ⟨p,0,rfl,_,ae x.bw rfl,?_⟩;rw[C];refine PC.ok (Mi y.laid a0 H Y a2 oM) ?_;rintro _ w7 ⟨rfl,a1,k7⟩;have I:=Hq (D:=D) (l:=evs) H;have s:∀{a3},(if(aF V D evs).1≠0 then((aF V D evs).1,({S:=b,D:=(aF V D evs).2.2,log:=some (aF V D evs).2.1,waits:=n,gC:=i}:bk))else
   if((aF V D evs).2.2.sync (aF V D evs).2.1.last).1≠0 then(((aF V D evs).2.2.sync (aF V D evs).2.1.last).1,{S:=b,D:=((aF V D evs).2.2.sync (aF V D evs).2.1.last).2,log:=some (aF V D evs).2.1,waits:=n,gC:=i})else
   (0,{S:=eW c b evs,D:=((aF V D evs).2.2.sync (aF V D evs).2.1.last).2,log:=some (aF V D evs).2.1,waits:=n,gC:=i}))=a3->dt c ⟨b,D,some V,n,i⟩ evs=a3:=λ{a3} hq=>hq
 generalize e2:aF V D evs=ap at a1 I s;obtain⟨e3,t,D7⟩:=ap;simp only at a1 I s;obtain⟨G7,J,a4,a5,-⟩:=DL.Hn (Y:=λ_=>False) (a1.mono λP a=>a.elim id False.elim) k7 I;obtain⟨F7,k,K,e,-,-,c5⟩:=x.iz bY (k:=2) (G':=G7) (C2:=lX p (h.cells c self) h c ⟨b,D7,some t,n,i⟩ b.l) a4 a5 (by rw[<-C]at J;exact J) λl G L M=>by
  rcases l with _|_|_|_|_|_|_|l<;>first|exact M|exact Zz rfl L
 refine⟨_,rfl,al.eM (λa6=>Ok.mk ?_) (λh0=>?_)⟩
 ·rw[s (Zx a6)]
  exact⟨rfl,h,F7,k,K,e,rfl⟩
 simp only at h0;have c6:=y.iz e;obtain⟨q2,m,-,u⟩:=DL.Pt (show DL w7 (λP=>F7 P/\k P=2) h.dp h.lp D7 (some t)from K.at' 2) (c6.sub λP a=>a.1) λP a=>K.aE P a.1;refine⟨p,0,rfl,_,ae (K.at' 0).2 rfl,?_⟩;rw[m];refine PC.ok (Jr y.laid u I) ?_;rintro _ b4 ⟨rfl,a7,c7⟩;generalize e4:D7.sync t.last=sy at a7 s;obtain⟨s1,S⟩:=sy;simp only at a7 s;obtain⟨a8,o,g,N,-⟩:=DL.Hn (Y:=λ_=>False) (a7.mono λP a=>a.elim id False.elim) c7 I;obtain⟨O,v,f,j,-,a9,T⟩:=K.iz bY (k:=2) (G':=a8) (C2:=lX p (h.cells c self) h c ⟨b,S,some t,n,i⟩ b.l) g N (by rw[<-m]at o;exact o) λl G L M=>by
  rcases l with _|_|_|_|_|_|_|l<;>first|exact M|exact Zz rfl L
 have b0:=e.trans j;refine⟨_,rfl,al.eM (λa6=>Ok.mk ?_) (λh1=>?_)⟩
 ·rw[s ((Zq (by simpa using h0)).trans (Zx a6))]
  exact⟨rfl,h,O,v,f,b0,rfl⟩
 simp only at h1;have c8:=s ((Zq (by simpa using h0)).trans (Zq (by simpa using h1)));rw[c8];have c9:Row kq 96 b4 E ea en evs:=by
  refine(Y.keep a4.keep λP a=>(Z P a).2).keep g.keep λP a hf=>?_;rcases a4.new P (c5▸hf)with h5|h5
  ·exact(Z P a).2 h5
  ·have:=a2 P a;omega
 refine PC.ok (JO f c1 c9 (λP a=>by have:=a2 P a;have:=b0.keep.size;omega) hl) ?_;rintro _ d0 ⟨U,F2,rfl,b5,d1,d2⟩;have d3:(eW c b evs).n=c.aD.toNat:=aw.QI _ _;have b1:=vZ B hn evs;have b6:(eW c b evs).Cl:=by rw[b1];exact aw.Cl.ez B c4
 obtain⟨F3,Q,b7,q,d4,-⟩:=f.fg bY (k:=3) (w':=d0) (G':=F2) (C2:=lX p (h.cells c self) {h with sp:=U} c ⟨eW c b evs,S,some t,n,i⟩ b.l) (ai.keep d2) (λP a=>.inr (d1 P a)) b5.aE ⟨b5,b6,d3⟩ λl G L M=>by
  rcases l with _|_|_|_|_|_|_|l<;>first|exact M|exact Zz rfl L
 refine⟨_,rfl,p,0,rfl,PS.mk (b7.at' 0).2 sM λb8 b9 e5 d5=>?_⟩;have d6:bb b8 F3 Q (lX p (({h with sp:=U}:kj).cells c self) {h with sp:=U} c ⟨eW c b evs,S,some t,n,i⟩ b.l):=cP.store b7 b9 d5;have d7:cu O b4 F3 b8:=⟨q.keep.then (b9.mono λP _ R=>by have R:P=p:=R;rw[R];exact(f.at' 0).1.1),q.new⟩
 have c0:=b0.trans d7;have d8:∀W∈b.l,W∈(eW c b evs).l:=λW hx=>by rw[b1];exact aw.JN hx
 have d9:(eW c b evs).l.length<=20000000:=by rw[b1];exact Xx (aw.nx _ _) hl
 exact CH d6 (y.iz c0) (λe6 W e7 hx hy R=>Su b6.ok (d8 W (QZ hx)) (QZ hy) R) d9 (κ:=λz w'=>Ok (λz w'=>z= ZT 0/\∃A r d,cP w' r d p A c self ⟨eW c b evs,S,some t,n,i⟩/\cu F w r w'/\A.wp=h.wp) (.returned z) w')
  λw' r d b2 e0=>Ok.mk ⟨rfl,{h with sp:=U},r,d,b2,c0.trans e0,rfl⟩
end
def CF{D:ak}{size:Int}(n:(aR D size).no=0):(aR D size).V.a_≠[]:=by
 revert n
 unfold aR;generalize cO (told D) [] (dN D size) D=b;unfold f_;split
 ·rename_i a;intro n;exact Zz n a
 split
 ·intro n;exact tF n
 rename_i P;split
 ·intro _;exact P
 ·intro _;exact P
abbrev yk(n:kj)(P:bS)(a:Int)(b c d:ac):Array Value:= #[ZT P.aD,ZT P.uJ,ZT P.bh,ZT P.chunk,ZT P.buffer,ZT P.de,ZT P.every,ZT P.start,.slice n.ta n.tn n.tc,.slice n.pa n.pn n.pc,ZT a,
 L2 n.dp,.pointer b,.pointer c,.pointer d,L2 n.wp,L2 n.tp]
def recC(c:Nat)(d:Array Value)(P:kj)(b:bS)(a:bk)(e:Bool):Nat->World->(LL)->Prop
 |0=>λn G=>G c/\n.heap[c]? =some (.cells d 105 (0,0))
 |1=>λn G=>bt n G b.decl P.ta P.tn P.pa P.pn
 |2=>λn G=>DL n G P.dp P.lp a.D a.log
 |3=>λn G=>e=true->cI n P.sp G a.S/\a.S.Cl/\a.S.n=b.aD.toNat
 |5=>λn G=>OV n G P.wp b.buffer.toNat a.waits
 |6=>λn G=>ej n P.tp G a.gC
 |_=>λ_ _=>True
variable{o:Array Value}{J:Bool}
section
variable {w w' w0:World} {p:Nat} {F E T:LL} {cls:Nat->Nat} {h:kj} {c:bS} {self:Int} {X:bk} {evs lB:List ah} {ea:ac} {en ec:Nat}
def iw:lY (recC p o h c X J):=by
 intro k w w' G T n a P
 match k,n with
 |0,n=>exact⟨n.1,a.get n.2 (P p n.1)⟩
 |1,n=>exact bt.keep n a P
 |2,n=>exact DL.keep n a P
 |3,n=>exact λe=>⟨cI.keep (n e).1 a P,(n e).2⟩
 |4,n=>trivial
 |5,n=>obtain⟨i,D,j,f,g⟩:=n;exact⟨i,D,j.keep a (λb d=>P b (f b d)) λb d=>P b (g b d),f,g⟩
 |6,n=>exact ej.keep n a P
 |k+7,n=>trivial
def yV{z1 z2 z3:ac}(T:bb w F cls (recC p (yk h c self z1 z2 z3) h c X false))(L:jU c self)(A:Env w0 w F):
  am 46 #[L2 p] w (Ok λB w'=>B= ZT (fz c X).1/\(fz c X).2.S.l.length<=16777216/\∃U q d,cP w' q d p U c self (fz c X).2/\cu F w q w'):=by
 obtain⟨g0,d2,j5⟩:=L.aD;have g1:=T.aE;have V:F p/\cls p=0:=(T.at' 0).1;have j0:1<=c.every:=by
  have:=L.right;unfold fD at this;simp only[QK,Zk]at this;omega
 refine lT λw3 d3=>?_;have W:ai w w3:=d3.keep;have M:=bb.af T iw W;have N:=(M.at' 0).2;refine⟨λ_=>False,p,0,rfl,_,ae N rfl,p,0,rfl,id,_,_,_,_,_,_,ae N rfl,ae N rfl,p,0,rfl,id,_,ae N rfl,?_⟩;rw[g0];refine PC.ok (FY d2) ?_;rintro _ d4 ⟨e,F2,rfl,Y,d5,C⟩;have a9:=W.then C;have d6:=bb.af M iw C;refine⟨_,rfl,C,PC.ok (Ql L.decl L.every ((A.pU.af A.gr).af a9) (show bt d4 (λn=>F n/\cls n=1) c.decl h.ta h.tn h.pa h.pn from d6.at' 1) λn P=>d6.aE n P.1) ?_⟩;rintro _ g2 ⟨g,F4,rfl,Z,d7,b7⟩;have y3:=W.size;have j6:=C.size;have j7:=b7.size;rw[show(max 1 c.every).toNat=c.every.toNat by congr 1;omega]at Z;have j1:=Y.aE;obtain⟨Fa,d1,E,b0,g4,-⟩:=M.HK iw (k:=3) (w':=d4) (G':=F2) (C2:=recC p (yk h c self z1 z2 z3) {h with sp:=e} c {X with S:=⟨c.aD.toNat,[]⟩} true) (ai.keep C) (λn P l=>by have:=d5 n P;have:=g1 n l;omega) Y.aE (λ_=>⟨Y,aw.Cl.new d2,rfl⟩) λa G i j=>by
  rcases a with _|_|_|_|_|_|_|a<;>first|exact j|exact Zz rfl i
 obtain⟨u,r,b8,b1,g5,-⟩:=E.HK iw (k:=4) (w':=g2) (G':=F4) (C2:=lX p (yk h c self z1 z2 z3) {h with sp:=e,bp:=g} c {X with S:=⟨c.aD.toNat,[]⟩} []) (ai.keep b7) (λn P l=>by have:=d7 n P;have:=E.aE n l;omega) Z.aE Z λa G i j=>by
  rcases a with _|_|_|_|_|_|_|a<;>first|exact j|exact j rfl|exact Zz rfl i
 have d8:∀n,u n->F n\/w.heap.size<=n:=λn P=>by
  rcases g5 n P with k|k
  ·rcases g4 n k.1 with h6|h6
   ·exact .inl h6.1
   ·exact .inr (by have:=d5 n h6;omega)
  ·exact .inr (by have:=d7 n k;omega)
 refine⟨_,rfl,p,0,rfl,PS.mk (b8.at' 0).2 sM λj8 d9 j9 g6=>⟨p,0,rfl,PS.mk g6 sM λb9 e0 k0 g7=>λc1 g8=>?_⟩⟩;have j2:u p/\r p=0:=(b8.at' 0).1;have e1:ai b9 c1:=g8.keep;have g9:bb b9 u r (lX p (yk h c self z1 (PP e) (PP g)) {h with sp:=e,bp:=g} c {X with S:=⟨c.aD.toNat,[]⟩} []):=cP.store b8 (d9.then e0) g7;have b2:cu F w u b9:=⟨((ai.keep a9).af b7).then ((d9.then e0).mono λn _ f=>by have f:n=p:=f;rw[f];exact V.1),d8⟩
 have H:=bb.af g9 bY e1;have O:cu F w u c1:=⟨b2.keep.af e1,b2.new⟩
 have e2:=A.iz O;have e3:=(H.at' 0).2;have h4:=DL.uJ (show DL c1 (λn=>u n/\r n=2) h.dp h.lp X.D X.log from H.at' 2) (e2.sub λn P=>P.1);refine⟨p,0,rfl,_,ae e3 rfl,p,0,rfl,_,ae e3 rfl,PC.ok (IK A.laid h4) ?_⟩;have a0:∀{b},(if(aR X.D c.bh).no≠0 then((aR X.D c.bh).no,{X with D:=(aR X.D c.bh).D,log:=none,S:=⟨c.aD.toNat,[]⟩})
   else(0,{X with D:=(aR X.D c.bh).D,log:=some (aR X.D c.bh).V,S:=(⟨c.aD.toNat,[]⟩:aw).ez (aR X.D c.bh).out}))=b->fz c X=b:=λ{b} hq=>hq
 have b3:=CF (D:=X.D) (size:=c.bh);generalize aR X.D c.bh=b at a0 b3;rintro _ h7 (⟨I,rfl,e5,c3⟩|⟨I,s,e9,a1,cc,G,rfl,c4,h8,c3,hG,hq,j3⟩)
 ·obtain⟨G2,c5,a2,c6,-⟩:=DL.NG (Y:=λ_=>False) (e5.mono λn P=>P.elim id False.elim) c3
  obtain⟨t,Q,v,a3,-,-⟩:=H.iz bY (k:=2) (G':=G2) (C2:=lX p (yk h c self z1 (PP e) (PP g)) {h with sp:=e,bp:=g,lp:=none} c {X with S:=⟨c.aD.toNat,[]⟩,D:=b.D,log:=none} []) a2 c6 (by
    obtain⟨Fd,h1,h2,M⟩:=c5;exact⟨Fd,h1,h2,rfl⟩) λa G i j=>by
   rcases a with _|_|_|_|_|_|_|a<;>first|exact j|exact Zz rfl i
  refine⟨_,_,_,_,_,rfl,p,0,rfl,PS.mk (v.at' 0).2 sM λx y e4 c7=>al.eM (λ_=>Ok.mk ?_) (λh0=>Zz h0 I)⟩;rw[a0 (Zx I)];refine⟨rfl,Qj _,{h with sp:=e,bp:=g,lp:=none},t,Q,cP.store v y c7,?_⟩;have J:=O.trans a3;exact⟨J.keep.then (y.mono λn _ f=>by have f:n=p:=f;rw[f];exact V.1),J.new⟩
 ·obtain⟨G2,c5,a2,c6,hY⟩:=DL.Hn h8 c3 (b3 I)
  obtain⟨t,Q,v,a3,h9,-⟩:=H.iz bY (k:=2) (G':=G2) (C2:=lX p (yk h c self z1 (PP e) (PP g)) {h with sp:=e,bp:=g,lp:=PP s} c {X with S:=⟨c.aD.toNat,[]⟩,D:=b.D,log:=some b.V} []) a2 c6 c5 λa G i j=>by
   rcases a with _|_|_|_|_|_|_|a<;>first|exact j|exact Zz rfl i
  refine⟨_,_,_,_,_,rfl,p,0,rfl,PS.mk (v.at' 0).2 sM λx y e4 c7=>al.eM (λh0=>Zz rfl h0) (λ_=>?_)⟩;have f0:bb x t Q (lX p (({h with sp:=e,bp:=g,lp:=PP s}:kj).cells c self) {h with sp:=e,bp:=g,lp:=PP s} c {X with S:=⟨c.aD.toNat,[]⟩,D:=b.D,log:=some b.V} []):=cP.store v y c7;have J:=O.trans a3;have b4:cu F w t x:=⟨J.keep.then (y.mono λn _ f=>by have f:n=p:=f;rw[f];exact V.1),J.new⟩
  have j4:=O.keep.size;have c8:∀n,G n->¬t n:=λn P l=>by
   rcases h9 n l with k|k
   ·have:=H.aE n k.1;have:=hG n P;omega
   ·exact hY n k P
  have i0:∀n,G n->n≠p:=λn P f=>c8 n P (f▸(v.at' 0).1.1);have b5:=c4.aE;have k1:=c4.len dC;have b6:Row kq 96 x G e9 a1 b.out:=vS.row (((c4.keep y λn P f=>i0 n P f)).row dC (by unfold aT;omega));have k2:x.heap.size=h7.heap.size:=e4;rw[a0 (Zq (by simpa using I))];have f8:=Ss b6;refine⟨λc0 a4 w'=>∃(a:Nat) (R:LL) (e6:Nat->Nat),a4=a/\a<=a1/\c0=a1-a/\bb w' R e6 (lX p (({h with sp:=e,bp:=g,lp:=PP s}:kj).cells c self) {h with sp:=e,bp:=g,lp:=PP s} c {X with S:=(⟨c.aD.toNat,[]⟩:aw).ez (b.out.take a),D:=b.D,log:=some b.V} [])/\cu t x R w',
   ⟨_,0,t,Q,rfl,Qj _,rfl,f0,cu.refl _ _⟩,?_⟩
  rintro c0 _ _ e7 ⟨a,R,e6,rfl,i,rfl,c9,z⟩;have i1:∀n,G n->¬R n:=λn P l=>by
   rcases z.new n l with k|k
   ·exact c8 n P k
   ·have:=b5 n P;omega
  have d0:=aw.nx (b.out.take a) ⟨c.aD.toNat,[]⟩;rw[Qy]at d0;simp only[ZQ]at d0;refine al.dec (λk4=>?_) (λk5=>?_)
  ·obtain⟨m,S⟩:∃m,b.out[a]? =some m:=⟨_,Qq oM⟩
   obtain⟨n,f1,es,ha,k6,k7,i2,xa,xn,xc,rfl,i3,c2⟩:=(b6.keep z.keep c8).el a m S;refine⟨n,f1,ha,oM,oM,ck (es:=aH m xa xn xc) (k:=10) (bg _ _ _ _) rfl (λa4 ht=>by rw[Qx];exact i2 a4 ht) (PA.mk λk8 i4 k9 i5=>aC (bg m xa xn xc) i5 rfl λl0 i6 l3 i7=>λi8 e8=>?_)⟩;have K:ai e7 i8:=(i4.new i6 λn P=>.inr (by have P:n=e7.heap.size:=P;omega)).then e8.keep;have a5:=bb.af c9 bY K;have l4:=z.keep.size;obtain⟨f2,f4,f5⟩:=a5.at' 3;refine⟨p,0,rfl,_,ae (a5.at' 0).2 rfl,au (bg m xa xn xc) ((e8.keep (S:=λ_=>False)).get i7 id) (PC.ok (uX f2 (i3.af K) (λn P=>⟨by have:=b5 n P;have:=K.size;omega,λl=>i1 n P l.1⟩) c2 (by show((⟨c.aD.toNat,[]⟩:aw).ez (b.out.take a)).l.length<_;omega)) ?_)⟩;rintro _ l5 ⟨rfl,F8,f3,f6⟩;have i9:((⟨c.aD.toNat,[]⟩:aw).ez (b.out.take (a+1)))=(((⟨c.aD.toNat,[]⟩:aw).ez (b.out.take a)).add m).2:=by
    rw[Qw,S];exact aw.ny ..
   obtain⟨F9,a6,a7,o,-⟩:=a5.iz bY (k:=3) (G':=F8) (C2:=lX p (({h with sp:=e,bp:=g,lp:=PP s}:kj).cells c self) {h with sp:=e,bp:=g,lp:=PP s} c {X with S:=(⟨c.aD.toNat,[]⟩:aw).ez (b.out.take (a+1)),D:=b.D,log:=some b.V} []) f6 f3.aE (by rw[i9];exact⟨f3,f4.add c2,(aw.UQ _ _).trans f5⟩) λa G i j=>by
    rcases a with _|_|_|_|_|_|_|a<;>first|exact j|exact Zz rfl i
   exact⟨_,rfl,_,oM,a+1,F9,a6,an oM,oM,rfl,a7,z.trans ⟨(ai.keep K).then o.keep,λn P=>(o.new n P).imp id λh1=>by have:=K.size;omega⟩⟩
  ·rw[Qz oM]at c9 d0
   exact CH c9 (A.iz (b4.trans z)) (λf9 m g3 S=>by simp at S) (by show((⟨c.aD.toNat,[]⟩:aw).ez b.out).l.length<=_;omega) (κ:=λB w'=>Ok (λB w'=>B= ZT 0/\((⟨c.aD.toNat,[]⟩:aw).ez b.out).l.length<=16777216/\∃U q d,cP w' q d p U c self {X with S:=(⟨c.aD.toNat,[]⟩:aw).ez b.out,D:=b.D,log:=some b.V}/\cu F w q w') (.returned B) w')
    λw' q d a8 f7=>Ok.mk ⟨rfl,oM,_,q,d,a8,(b4.trans z).trans f7⟩
end
structure iB where
 code:Int
 id:Int×Int
 st:pw
 KK:List cX
 rows:List d_
 more:Bool
def fQ(n:iB)(P:ac)(a b:Nat)(c:ac)(d e:Nat)(f:ac)(g h:Nat):List Value:=
 [ZT n.code,ZT n.id.1,ZT n.id.2,ZT n.st.version,.slice P a b,.slice c d e,.slice f g h,.bool n.more]
def iK(n:iB)(P:ac)(a b:Nat)(c:ac)(d e:Nat)(f:ac)(g h:Nat):iH WP 53 (fQ n P a b c d e f g h)=true:=kR
def fR(h:World)(n:iB)(i:Value)(P:World):Prop:=∃(b:ac) (c j:Nat) (d:ac) (e k:Nat) (f:ac) (g l:Nat) (G:LL),i= .agg (fQ n b c j d e k f g l).toArray/\
 Row gw 32 P G b c n.st.cells/\Row AH 120 P G d e n.KK/\Row Kn 24 P G f g n.rows/\∀a,G a->h.heap.size<=a/\a<P.heap.size
abbrev bL(n:Int):iB:=⟨n,(0,0),⟨0,[]⟩,[],[],false⟩
abbrev Ix(id:Int×Int):iB:=⟨0,id,⟨0,[]⟩,[],[],false⟩
structure kY.Ok (x:kY):Prop where
 aZ:aM x.aZ
 agg:aM x.agg
 field:aM x.field
 op:aM x.op
 arg:aM x.arg
 key:aM x.key
variable{e l:Int}{t:List Int}{H:Nat×Nat}{M:Prop}{j:Type}{g:TypeId}{d1:kY}
section
variable {w w' w0:World} {p:Nat} {F E T:LL} {cls:Nat->Nat} {h:kj} {c:bS} {self:Int} {X:bk} {evs lB:List ah} {ea:ac} {en ec:Nat}
def fR.plain{n:iB}(P:n.st.cells=[])(a:n.KK=[])(b:n.rows=[]):fR w n (.agg (fQ n none 0 0 none 0 0 none 0 0).toArray) w':=
 ⟨none,0,0,none,0,0,none,0,0,λ_=>False,rfl,by rw[P];exact dy _ _,by rw[a];exact dy _ _,by rw[b];exact dy _ _,λd c=>c.elim⟩
def row_one{n:kr j}{bytes P:Nat}{w:World}{d:j}{D:LL}(e:w.heap[P]? =some (.cells o g H))(f:n.rep w D d o.toList)(h:bytes<=1000):Row n bytes w (λa=>a=P\/D a) (PP P) 1 [d]:=by
 have m:=n.len f;refine⟨rfl,by unfold aT;omega,λb p c=>?_⟩;obtain rfl:b=0:=by
  rcases b with _|b
  ·rfl
  ·simp at c
 simp at c;subst c;refine⟨P,0,o.toList,rfl,aA e,.inl rfl,λi k=>?_,n.mono f λa h=>.inr h⟩;have l:i<o.size:=by rw[<-m]at k;simpa using k
 rw[ae e (v:=o[i]) (by simp[l])];simp[l]
def Wj(i:B.OK){M:Int}(d:0<=M)(e:∀n∈B.l,n.aB<=M):B.top<=M:=by
 have:∀(a:List ah) (P:Int),P<=M->(∀n∈a,n.aB<=M)->a.foldl (λP n=>max P n.aB) P<=M:=by
  intro a
  induction a with
  |nil=>intro P b _;exact b
  |cons n a f=>
   intro P b c;refine f _ ?_ λg h=>c g (QJ _ h);have:=c n (QV ..);show max P n.aB<=M;omega
 exact this B.l 0 d e
def Mu[Decidable M]{n P:ah×Bool×Int}(a:n.1.Ok)(b:P.1.Ok):(if M then n else P).1.Ok:=by
 split
 ·exact a
 ·exact b
def JP(n:d1.Ok)(c:aM e)(f:aM l)(P:∀d∈t,aM d):(aX d1 e t l).2.Ok:=by
 have g:=CI P e;unfold aX;dsimp only
 by_cases a:e<0\/(t.length:Int)<=e\/l<0
 ·rw[Zx a];exact CK
 rw[Zq a]
 by_cases b:fS t e=9223372036854775807\/l=9223372036854775807
 ·rw[Zx b];exact CK
 rw[Zq b];refine⟨c,?_,?_,Fz P sM,n.aZ,n.agg,n.field,n.op,n.arg,n.key⟩
 ·show aM (fS t e+1);unfold aM at*;omega
 ·show aM (l+1);unfold aM at*;omega
def Uw(d:B.l.length<=20000000):∀P∈B.vec,aM P:=λP b=>by
 obtain⟨c,n,rfl⟩:=List.getElem_of_mem b;rw[B.cj]at n;have a:=B.pA n;rw[Qq (by rw[B.cj];exact n)]at a;rw[XJ a];have:=B.Sv c;unfold aM;omega
def NH(n:B.OK):aM B.top:=by
 have b:=Wj n (M:=9223372036854775807) oM λP a=>by have:=(n.ok P a).aB;unfold aM at this;omega
 have c:=B.Mv;unfold aM;omega
def Np{d:aS}{V:bf}(P:d1.Ok)(n:B.OK)(a:aM e)(h:aM l)(b:B.l.length<=20000000):(fu d B V e l d1).1.Ok:=by
 have c:aM (max B.top l):=by
  have i:=NH n;unfold aM at*;omega
 rw[yl];refine Mu CK ?_
 cases f:B.keyed d1.key with
 |some g=>exact n.ok g (List.mem_of_find?_eq_some f)
 |none=>exact Mu CK (Mu CK (JP P a c (Uw b)))
end
section
variable {w w' w0:World} {p:Nat} {F E T:LL} {cls:Nat->Nat} {h:kj} {c:bS} {self:Int} {X:bk}
def jU.Xs(n:jU c self):0<=self/\self<c.aD:=by
 have:=n.right;unfold fD within at this;simp only[QK,Zk]at this;omega
def Im(hr:bV w p F c self X)(J:Env w0 w F)(hx:d1.Ok)(hl:X.S.l.length+1<=20000000):
  am 50 #[L2 p,xh d1] w (Ok λa3 w'=>∃d,fR w (if(eK c self X d1).1≠0 then bL (eK c self X d1).1 else Ix (eK c self X d1).2.1) a3 w'/\bV w' p d c self (eK c self X d1).2.2/\cu F w d w'):=by
 have b8:=hr;obtain⟨q,h,cls,l⟩:=hr;have u:=l.aE;have e3:=(l.JE)
 have g7:=u p e3.1;have c0:aM self:=by have:=q.Xs;have:=q.aD;unfold aM;omega
 refine lS (PA.mk λC e4 g8 e5=>PA.mk λb2 c2 g9 d6=>?_);have a1:=e4.then c2;have e6:=cP.af l a1;have E:∀{f:World} {d:LL} {k:bk} {y:iB},y.st.cells=[]->y.KK=[]->y.rows=[]->(∃r,f.heap[C.heap.size]? =some (.cells r 53 (0,0))/\r.size=8)->bV f p d c self k->(∀n,d n->F n\/b2.heap.size<=n)->cu F w d f->(eK c self X d1).2.2=k->(if(eK c self X d1).1≠0 then bL (eK c self X d1).1 else Ix (eK c self X d1).2.1)=y->
   ni WP 53 (L2 C.heap.size) (.agg (fQ y none 0 0 none 0 0 none 0 0).toArray) f λc3=>js WP 53 (L2 C.heap.size) c3 λa=>Ok (λa3 w'=>∃d,fR w (if(eK c self X d1).1≠0 then bL (eK c self X d1).1 else Ix (eK c self X d1).2.1) a3 w'/\bV w' p d c self (eK c self X d1).2.2/\cu F w d w') (.returned a) c3:=λ{f d k y} y1 y2 y3 hz b3 b4 Q hX hy=>by
  obtain⟨r,hg,e7⟩:=hz;refine aC (iK y none 0 0 none 0 0 none 0 0) hg (by rw[e7];rfl) λc3 d7 h2 e8=>au (iK y none 0 0 none 0 0 none 0 0) e8 (Ok.mk ⟨d,by rw[hy];exact fR.plain y1 y2 y3,?_,Q.keep.new d7 λn P=>.inr (by have P:n=C.heap.size:=P;omega),Q.new⟩);rw[hX];refine b3.keep d7 λn P e=>?_;have e:n=C.heap.size:=e;rcases b4 n P with h1|h1
  ·have:=u n h1;omega
  ·omega
 refine⟨p,0,rfl,_,ae e6.bw rfl,gT Tryz.underlying101 ⟨_,rfl,?_⟩⟩;have d8:DL w (λn=>F n/\cls n=2) h.dp h.lp X.D X.log:=l.at' 2;obtain⟨hS,R,hn⟩:=(show cI w h.sp (λn=>F n/\cls n=3) X.S/\X.S.Cl/\X.S.n=c.aD.toNat from l.at' 3)
 cases S:X.log with
 |none=>
  obtain⟨Fd,-,-,h3⟩:=d8;rw[S]at h3;have h3:h.lp=none:=h3;rw[h3];refine al.tt rfl ?_;have m:eK c self X d1=(15,(0,0),X):=by unfold eK;rw[S]
  exact E (y:=bL 15) rfl rfl rfl ⟨_,d6,rfl⟩ (b8.af a1) (λn P=>.inl P) ⟨ai.keep a1,λn P=>.inl P⟩ (by rw[m]) (by rw[m];rfl)
 |some f1=>
 obtain⟨f5,a4,c4,-⟩:=DL.Pt (S▸d8) (J.sub λn P=>P.1) λn P=>u n P.1;rw[a4];refine al.ff rfl λe9 f2=>⟨λ_=>False,?_⟩
 have b5:ai b2 e9:=f2.keep;have a2:=a1.then b5;have c5:=cP.af l a2;refine⟨p,0,rfl,id,_,_,_,_,_,_,ae c5.bw rfl,ae c5.bw rfl,p,0,rfl,_,ae c5.bw rfl,PC.ok (sg (hS.af a2) oM) ?_⟩;rintro _ h4 ⟨la,ln,lc,G,rfl,c6,K,hG⟩;have h6:=c6.len dC;have f3:=c6.aE;have T:=a2.then K;have h7:=cP.af l T;have b9:∀{f:World},ai w f->bt f (λn=>F n/\cls n=1) c.decl h.ta h.tn h.pa h.pn:=λ{f} H=>(cP.af l H).at' 1;refine⟨_,_,_,rfl,K,PC.ok (HF q.decl (J.pU.af (J.gr.then T)) (b9 T) (λn P=>by have:=u n P.1;have:=T.size;omega) (c6.row dC (by unfold aT;omega)) (λn P=>f3 n P) oM) ?_⟩;rintro _ I ⟨vp,Fv,rfl,hv,h8,L⟩;have M:=T.then L;have c1:=((c2.then b5).then K).then L;obtain⟨g5,f4⟩:=HO q.decl X.S.l;obtain⟨a,c7⟩:∃a,a=fu c.decl X.S (bW c.decl X.S.l) self c.start d1:=⟨_,rfl⟩
 have h9:=a2.size;have i0:=K.size;have i1:=L.size;have v:∀{f:World},ai I f->am 80 #[.agg #[.slice h.ta h.tn h.tc,.slice h.pa h.pn h.pc],L2 h.sp,L2 vp,ZT self,ZT c.start,xh d1] f (Ok (wH f a)):=λ{f} H=>by
  rw[c7];exact Eb (J.pU.af ((J.gr.then M).then H)) (b9 (M.then H)) (λn P=>by have:=u n P.1;have:=(M.then H).size;omega) q.decl (hS.af (M.then H)) oM (hv.af H) f4
   (by have:=q.start;unfold aM at this;omega) (by have:=NH R.ok;unfold aM at this;omega)
 refine⟨_,rfl,L,λU eo o no w'=>eo=0/\∃g i j G,w'.heap[U]? =some (.cells (aH a.1 g i j).toArray 63 (0,0))/\Row aP 8 w' G g i a.1.aN/\(∀n,G n->I.heap.size<=n/\n<w'.heap.size)/\I.heap.size<=U/\o=a.2.1/\no=a.2.2/\ai I w',?_,?_⟩
 ·intro x d9
  have N:ai I x:=d9.keep;have i2:x.heap.size=I.heap.size:=by rw[d9.heap]
  have e0:=M.then N;have V:=cP.af l e0;have e1:=N.get (c1.get e5 id) id;have nS:¬x.heap.size<=p:=oM
  have f6:¬x.heap.size<=w.heap.size:=by have:=b5.size;have:=K.size;have:=L.size;omega
  refine⟨λn=>x.heap.size<=n,p,0,rfl,nS,_,_,_,_,_,_,ae V.bw rfl,ae V.bw rfl,p,0,rfl,nS,_,ae V.bw rfl,p,0,rfl,nS,_,ae V.bw rfl,p,0,rfl,nS,_,ae V.bw rfl,f6,au (yu d1) e1 ⟨PC.ok (v N) ?_,PA.mk λi3 c8 i4 f8=>⟨ai.keep c8,PC.ok (v (N.then c8)) ?_⟩⟩⟩
  ·rintro _ c9 ⟨g,i,j,G,rfl,W,s,d0⟩
   have i5:=d0.size;refine cx (sE a.1 g i j) ⟨_,_,rfl,ai.keep d0,PA.mk λi6 a5 i7 g0=>⟨ai.keep a5,aC (bg a.1 g i j) g0 rfl λi8 d2 i9 g1=>⟨d2.mono λn _ e=>by have e:n=c9.heap.size:=e;omega,rfl,g,i,j,G,g1,?_,λn P=>⟨by have:=s n P;omega,by have:=s n P;omega⟩,oM,rfl,rfl,?_⟩⟩⟩
   ·exact(W.af a5).keep d2 λn P e=>by have e:n=c9.heap.size:=e;have:=(s n P).2;omega
   ·exact((N.then d0).then a5).new d2 λn P=>.inr (by have P:n=c9.heap.size:=P;omega)
  ·rintro _ j0 ⟨g,i,j,G,rfl,W,s,b6⟩
   have j1:=b6.size;refine cx (sE a.1 g i j) ⟨_,_,rfl,ai.keep b6,aC (bg a.1 g i j) (b6.get f8 id) rfl λj2 d3 j3 g2=>⟨d3.mono λn _ e=>by have e:n=x.heap.size:=e;omega,rfl,g,i,j,G,g2,?_,λn P=>⟨by have:=s n P;omega,by have:=s n P;omega⟩,oM,rfl,rfl,?_⟩⟩
   ·exact W.keep d3 λn P e=>by have e:n=x.heap.size:=e;have:=(s n P).1;omega
   ·exact((N.then c8).then b6).new d3 λn P=>.inr (by have P:n=x.heap.size:=P;omega)
 rintro U _ o no _ O ⟨rfl,g,i,j,G2,b,W,s,j4,rfl,rfl,d4⟩;have Y:=M.then d4;have j5:=cP.af l Y;have g6:=c1.then d4;have b0:=d4.get (L.get (K.get (b5.get d6 id) id) id) id;have a6:a.1.Ok:=by rw[c7];exact Np hx R.ok c0 q.start oM
 have a7:∀{z:Int×(Int×Int)×bk},(if a.2.2≠0 then(a.2.2,(0,0),X)else if a.2.1 then(if(dt c X [a.1]).1≠0 then((dt c X [a.1]).1,(0,0),(dt c X [a.1]).2)else(0,bd a.1,(dt c X [a.1]).2))else(0,bd a.1,X))=z->eK c self X d1=z:=λ{z} ht=>by
  rw[<-ht,c7];unfold eK;rw[S]
 have j6:=Y.size;have d5:=aA b;refine⟨λz w'=>∃d k,bV w' p d c self k/\cu F w d w'/\(∀n,d n->F n\/b2.heap.size<=n)/\w'.heap[U]? =some (.cells (aH a.1 g i j).toArray 63 (0,0))/\(∃r,w'.heap[C.heap.size]? =some (.cells r 53 (0,0))/\r.size=8)/\eK c self X d1=(if z≠0 then(z,(0,0),k)else(0,bd a.1,k)),?_,?_⟩
 ·have A:eK c self X d1=(if a.2.2≠0 then(a.2.2,(0,0),X)else(0,bd a.1,X))->∃d k,bV O p d c self k/\cu F w d O/\(∀n,d n->F n\/b2.heap.size<=n)/\O.heap[U]? =some (.cells (aH a.1 g i j).toArray 63 (0,0))/\(∃r,O.heap[C.heap.size]? =some (.cells r 53 (0,0))/\r.size=8)/\eK c self X d1=(if a.2.2≠0 then(a.2.2,(0,0),k)else(0,bd a.1,k)):=λm=>
   ⟨F,X,b8.af Y,⟨ai.keep Y,λn P=>.inl P⟩,λn P=>.inl P,b,⟨_,b0,rfl⟩,m⟩
  refine al.eL (λB=>al.mk (λt=>?_) (λt=>A (a7 (by rw[Zq (by simpa using B),Zq (by simpa using t),Zq (by simpa using B)])))) (λB=>A (a7 (by rw[Zx B,Zx B])));refine⟨_,_,_,_,_,_,_,_,_,_,_,_,ae b rfl,ae b rfl,ae b rfl,ae b rfl,ae b rfl,ae b rfl,ae b rfl,ae b rfl,ae b rfl,ae b rfl,PA.mk λe2 b7 j7 g3=>?_⟩;have a9:=Y.then b7;have f0:Row kq 96 e2 (λn=>n=O.heap.size\/G2 n) (PP O.heap.size) 1 [a.1]:=row_one g3 ⟨g,i,j,rfl,W.af b7,a6⟩ dC;refine PC.ok (JF (cP.af l a9) q (J.af a9) S f0 (λn P=>?_) (by simpa using hl)) ?_
  ·have g4:I.heap.size<=n/\n<e2.heap.size:=P.elim (λe=>⟨oM,oM⟩) λh5=>by have:=s n h5;omega
   exact⟨g4.2,λt=>by have:=u n t.1;omega⟩
  rintro _ j8 ⟨rfl,h',d,Z,a8,a0,-⟩;refine⟨_,rfl,d,(dt c X [a.1]).2,⟨q,h',Z,a8⟩,⟨(ai.keep a9).then a0.keep,λn P=>(a0.new n P).imp id λh1=>oM⟩,λn P=>(a0.new n P).imp id λh1=>by have:=c2.size;omega,a0.keep.get (b7.get b id) λt=>by have:=u _ t;omega,⟨_,a0.keep.get (b7.get b0 id) λt=>by have:=u _ t;omega,rfl⟩,?_⟩;exact a7 (by rw[Zq (by simpa using B),Zx t])
 ·rintro z _ j9 ⟨d,k,b3,Q,b4,b1,hz,m⟩
  refine al.eM (λc4=>?_) (λB=>⟨_,_,ae b1 rfl,ae b1 rfl,?_⟩)
  ·rw[Zx c4]at m
   exact E (y:=bL z) rfl rfl rfl hz b3 b4 Q (by rw[m]) (by rw[m];exact Zx c4)
  ·rw[Zq (by simpa using B)]at m
   exact E (y:=Ix (bd a.1)) rfl rfl rfl hz b3 b4 Q (by rw[m]) (by rw[m];rfl)
end
def fI(c:World)(d:LL)(g:List bZ)(h:Value)(a:World):Prop:=
 ∃(P:ac) (e f:Nat) (b:List Ko) (D:LL),h= .slice P e f/\aV OO 127 (λn=>aG P=some n) a P e f b/\b.map (·.m)=g/\(∀n∈b,n.In a D)/\(∀n,D n->c.heap.size<=n/\n<a.heap.size/\aG P≠some n/\¬d n)/\∀n,aG P=some n->c.heap.size<=n/\¬d n
section
variable {w w' w0 w1:World} {p:Nat} {F E T Z:LL} {cls:Nat->Nat} {h:kj} {c:bS} {self:Int} {X:bk} {ms:List bZ} {v:Value}
def bl.out(e:bl w1 ms v w')(c:∀n,Z n->n<w1.heap.size)(o:w.heap.size<=w1.heap.size):fI w Z ms v w':=by
 obtain⟨f,g,h,i,D,j,k,l,m,a,d,p⟩:=e;exact⟨f,g,h,i,D,j,k,l,m,λn P=>⟨by have:=(a n P).1;omega,(a n P).2.1,(a n P).2.2,λb=>by have:=c n b;have:=(a n P).1;omega⟩,λn P=>⟨by have:=d n P;omega,λb=>by have:=c n b;have:=d n P;omega⟩⟩
def fI.nil(w0 w:World)(Z:LL):fI w0 Z [] (.slice none 0 0) w:=⟨none,0,0,[],λ_=>False,rfl,(aV.nil w).mono (λP n=>n.elim) (λP n=>(by cases n)),rfl,sM,λP n=>n.elim,λP n=>(by cases n)⟩
def bl.one{m:bZ}{va b:ac}{vn vc c d a:Nat}{D:LL}(f:w.heap[a]? =some (.cells (dZ m va vn vc b c d).toArray 127 (0,0)))(h:(⟨m,va,vn,vc,b,c,d⟩:Ko).In w D)(e:∀P,D P->w0.heap.size<=P/\P<w.heap.size/\P≠a)(j:w0.heap.size<=a)(i:ai w0 w):
  bl w0 [m] (.slice (PP a) 1 1) w:=by
 have k:=aA f;refine⟨PP a,1,1,[⟨m,va,vn,vc,b,c,d⟩],D,rfl,⟨⟨dZ m va vn vc b c d,λ_=>False,Own.AJ f rfl (by unfold maxLen;omega),bM.one ⟨rfl,trivial⟩,λP n=>n.elim⟩,λP n=>n,λP n=>?_⟩,rfl,λP n=>?_,λP n=>⟨(e P n).1,(e P n).2.1,λg=>?_⟩,λP n=>?_,i⟩
 ·simp only[aG,Q1]at n;omega
 ·simp at n;subst n;exact h
 ·simp only[aG,Q1]at g;exact(e P n).2.2 g.symm
 ·simp only[aG,Q1]at n;omega
def Gm(q:bV w p F c self X)(A:aM e):
  am 51 #[L2 p,ZT e,ZT l] w (Ok λv w'=>∃n,fI w n (fk c self X e l).1 v w'/\bV w' p n c self (fk c self X e l).2/\cu F w n w'):=by
 have B:=q;obtain⟨C,h,cls,b⟩:=q;have no:(e<0\/e>=c.aD\/e=self)->Ok (λv w'=>∃n,fI w n (fk c self X e l).1 v w'/\bV w' p n c self (fk c self X e l).2/\cu F w n w') (.returned (.slice none 0 0)) w:=λi=>by
  have:fk c self X e l=([],X):=by unfold fk;rw[Zx i]
  rw[this];exact Ok.mk ⟨F,fI.nil _ _ _,B,cu.refl _ _⟩
 refine lA (al.dec (λj=>no (.inl j)) (λj=>⟨p,0,rfl,_,ae b.bw rfl,al.dec (λk=>no (.inr (.inl k))) (λk=>⟨p,0,rfl,_,ae b.bw rfl,al.eL (λm=>no (.inr (.inr m))) (λm=>⟨p,0,rfl,_,ae b.bw rfl,?_⟩)⟩)⟩));have E:fk c self X e l=([lg X.S self e],{X with gC:={X.gC with asked:=aI X.gC.asked e l}}):=by unfold fk;rw[Zq (by rintro(h|h|h);exact j h;exact k h;exact m h)]
 refine PC.ok (JQ (b.at' 6) A) ?_;rintro _ r ⟨rfl,H,s⟩;have I:cP r F cls p h c self {X with gC:={X.gC with asked:=aI X.gC.asked e l}}:=bb.same b bY (k:=6) s H λt G J i=>by
  rcases t with _|_|_|_|_|_|_|t<;>first|exact i|exact Zz rfl J
 refine⟨rfl,λo K=>?_⟩;have u:ai r o:=K.keep;have a:=cP.af I u;refine⟨p,0,rfl,_,ae a.bw rfl,p,0,rfl,_,ae a.bw rfl,PC.ok (yP (a.at' 3).1) ?_⟩;rintro _ L ⟨R,S,T,G,rfl,x,M,f⟩;have y:=x.aE;have N:=f.size;refine⟨_,_,_,_,_,_,_,_,_,rfl,PA.mk λwT g U O=>?_⟩;rw[E];have Q:bl o [lg X.S self e] (.slice (PP L.heap.size) 1 1) wT:=bl.one (D:=G) O ⟨(x.af g).row dC (by show X.S.vec.length*8<=aT;rw[X.S.cj];have:=(a.at' 3).1.1.n;have:X.S.n<=64:=this;unfold aT;omega),dy _ _⟩ (λd P=>⟨M d P,by have:=y d P;omega,by have:=y d P;omega⟩) N (f.then g);have z:aj F w o:=(s.mono λd _ P=>P.1).af u;exact Ok.mk ⟨F,Q.out a.aE z.size,⟨C,h,cls,cP.af a (f.then g)⟩,(z.af f).af g,λd P=>.inl P⟩
def Ux(T:kp)(b:Int):∀n∈T.due b,n∈T.open:=by
 have:∀(c:List Int) (d:List Int×List (Int×Int)),∀n∈(c.foldl (gu T.de b) d).1,n∈d.1\/n∈c:=by
  intro c
  induction c with
  |nil=>intro d n P;exact .inl P
  |cons g c f=>
   intro d n P;rcases f _ n P with a|a
   ·unfold gu at a
    split at a
    ·rcases Q6.1 a with e|e
     ·exact .inl e
     ·simp at e;subst e;exact .inr (QV ..)
    ·exact .inl a
   ·exact .inr (QJ _ a)
 intro n P;unfold kp.due kp.jx at P;rw[List.take_length]at P;exact(this T.open ([],T.asked) n P).resolve_left sM
def Sw{T:kp}(a:∀n∈T.asked,aM n.1):∀P∈T.open,aM P:=λP b=>by
 have:P∈T.asked.map (·.1):=(List.mergeSort_perm _ _).mem_iff.1 b;obtain⟨n,c,rfl⟩:=Xk.1 this;exact a n c
def MZ(T:kp)(n:Int):(T.due n).length<=T.asked.length:=by
 have:∀(a:List Int) (P:List Int×List (Int×Int)),(a.foldl (gu T.de n) P).1.length<=P.1.length+a.length:=by
  intro a
  induction a with
  |nil=>intro P;simp
  |cons b a d=>
   intro P;have c:=d (gu T.de n P b);have e:(gu T.de n P b).1.length<=P.1.length+1:=by
    unfold gu;split
    ·simp
    ·omega
   simp only[List.foldl_cons,Xq];omega
 have c:=this T.open ([],T.asked);unfold kp.due kp.jx;rw[List.take_length];have e:T.open.length=T.asked.length:=by simp[kp.open,wI]
 simp only[ZQ]at c;omega
def QT(M:bV w p F c self X)(a:X.gC.asked.length<=1000):
  am 49 #[L2 p,ZT e] w (Ok λv w'=>∃l,fI w l (pH self X e).1 v w'/\bV w' p l c self (pH self X e).2/\cu F w l w'):=by
 obtain⟨N,h,cls,m⟩:=M;have u:ej w h.tp (λn=>F n/\cls n=6) X.gC:=m.at' 6;have O:∀b∈X.gC.due e,aM b:=λb f=>Sw u.tv b (Ux _ _ b f);have b0:=MZ X.gC e;refine oN ⟨p,0,rfl,_,ae m.bw rfl,PC.ok (PB u (by unfold aT;omega)) ?_⟩;rintro _ g ⟨Q,o,cc,rfl,x,R,q,hn⟩;have y:cP g F cls p h c self {X with gC:=X.gC.Sx e}:=bb.same m bY (k:=6) q R λP G z S=>by
  rcases P with _|_|_|_|_|_|_|P<;>first|exact S|exact Zz rfl z
 have T:=x.length;rw[jS,Nat.mul_one]at T;have U:Ints g Q o (X.gC.due e):=x.ints (by unfold aT;omega) O;have V:=y.aE;have W:=q.size;refine⟨_,_,_,rfl,λA B C E Y w'=>∃P:Nat,Y=P/\P<=o/\A=o-P/\bl g (((X.gC.due e).take P).map λd=>lg X.S self d) (.slice B C E) w',⟨_,0,rfl,Qj _,rfl,bl.nil g⟩,?_⟩;rintro A B C E _ _ Z ⟨P,rfl,z,rfl,i⟩;have r:=i;obtain⟨a3,n1,c1,a4,D,he,g2,g3,g4,g5,g6,j⟩:=r
 cases he
 have H:=cP.af y j;have b1:=j.size;refine al.dec (λb2=>?_) (λb3=>?_)
 ·obtain⟨n,s,b,rfl,b4,f,b5,a0⟩:=(U.af j).at (i:=(P:Int)) oM oM
  rw[Qx]at f;refine⟨n,s,rfl,oM,oM,b,a0,λa6 a7=>?_⟩;have t:ai Z a6:=a7.keep;have k:=cP.af H t;refine⟨p,0,rfl,_,ae k.bw rfl,p,0,rfl,_,ae k.bw rfl,PC.ok (yP (k.at' 3).1) ?_⟩;rintro _ b6 ⟨va,vn,vc,G,rfl,I,J,K⟩;have a8:=I.aE;have b7:=t.size;have b8:=K.size;refine⟨_,_,_,_,_,_,_,_,_,rfl,PA.mk λb9 L c2 a9=>?_⟩;refine bl.push (m:=lg X.S self b) (E:=G) (i.af ((t.then K).then L)) EI ⟨(I.af L).row dC (by show X.S.vec.length*8<=aT;rw[X.S.cj];have:X.S.n<=64:=(k.at' 3).1.1.n;unfold aT;omega),dy _ _⟩ (λn a=>⟨by have:=J n a;omega,by have:=a8 n a;omega,λa1=>by have:=g2.aE n a1;have:=J n a;omega⟩) a9 (by rw[Q8,Qy];omega) λa' c' c3 a2 c4=>⟨_,_,_,rfl,_,?_,P+1,an oM,oM,rfl,?_⟩
  ·omega
  ·rw[Qw,f,Q3];exact a2
 ·rw[Qz oM]at i
  exact Ok.mk ⟨F,i.out V W,⟨N,h,cls,H⟩,(q.mono λn _ a=>a.1).af j,λn a=>.inl a⟩
def KU(a:bV w p F c self X)(n:X.S.l.length<=20000000):am 22 #[L2 p] w (Ok (qD kq 63 w X.S.l)):=by
 obtain⟨f,h,cls,P⟩:=a;refine mP ⟨p,0,rfl,_,ae P.bw rfl,PC.ok (sg (P.at' 3).1 n) ?_⟩;rintro _ g ⟨b,d,e,G,rfl,n⟩;exact⟨_,_,_,rfl,Ok.mk ⟨b,d,e,G,rfl,n⟩⟩
end
def wJ{c:aw}:∀{P:List ah} {e:ah} {S':aw} {l':List ah},dK c P=some (e,S',l')->l'.length+1=P.length
 |[],e,S',l',n=>by simp[dK]at n
 |x::P,e,S',l',n=>by
  unfold dK at n;split at n
  ·simp only[Q1,Prod.mk.injEq]at n
   obtain⟨-,-,rfl⟩:=n;rfl
  ·cases a:dK c P with
   |none=>rw[a]at n;cases n
   |some b=>
    rw[a]at n;simp only[Option.map_some,Q1,Prod.mk.injEq]at n;obtain⟨rfl,rfl,rfl⟩:=n;have:=wJ (e:=b.1) (S':=b.2.1) (l':=b.2.2) a;simp only[Xq];omega
def wK:∀(k:Nat) (a:aw) (P n:List ah),(dj k a P n).1.length+(dj k a P n).2.length=n.length+P.length
 |0,a,P,n=>rfl
 |k+1,a,P,n=>by
  unfold dj
  cases e:dK a P with
  |none=>rfl
  |some f=>
   obtain⟨b,c,d⟩:=f;have h:=wJ e;have g:=wK k c d (n++[b]);show(dj k c d (n++[b])).1.length+(dj k c d (n++[b])).2.length=_;rw[g,QX,List.length_singleton];omega
def wL(P:aw)(n:List ah):(bG P n).1.length+(bG P n).2.length<=n.length:=by
 unfold bG;dsimp only;rw[wK];have:=List.length_filter_le (λa=>(P.get (bd a)).isNone) n;simp only[ZQ];omega
structure Hr (w:World) (wp most:Nat) (M0 D0 E:LL) (s:Nat) (S:aw) (b:List ah) (oa:ac) (on oc:Nat) (Lo:List (Bx ah)) (w1:World) (M Db Fs Do:LL):Prop where
 buf:il w1 wp M Db most b
 set:cI w1 s Fs S
 NZ:∀x∈Lo,ns.In w1 Do x
 out:aV ns.ko 63 (λb=>aG oa=some b) w1 oa on oc Lo
 nM:∀b,M b->(M0 b\/w.heap.size<=b)/\¬Fs b
 nD:∀b,Db b->(D0 b\/w.heap.size<=b)/\¬Fs b
 nF:∀b,Fs b->w.heap.size<=b
 nO:∀b,Do b->(E b\/D0 b\/w.heap.size<=b)/\b<w1.heap.size/\¬M b/\¬Fs b
 nA:∀b,aG oa=some b->w.heap.size<=b/\¬M b/\¬Fs b/\¬Do b/\¬Db b
 keep:aj M0 w w1
 cl:S.Cl
variable{a:Nat}{d:ac}{r:TypeId}{q u:L1}
section
variable {w w' w0 w1 w2:World} {p wp most s on oc:Nat} {F E T Z M0 D0 M Db Fs Do:LL} {cls:Nat->Nat} {h:kj} {c:bS} {self:Int} {X:bk} {S:aw} {b:List ah} {oa:ac} {Lo:List (Bx ah)}
def il.Pw(n:il w p M Db most b):∀b,M b->b<w.heap.size:=by obtain⟨-,a,d,c,e,P⟩:=n;exact P.dM
def il.JR(n:il w p M Db most b):∀b,Db b->b<w.heap.size/\¬M b:=by obtain⟨-,a,d,c,e,P⟩:=n;exact P.dD
def Hr.af(n:Hr w wp most M0 D0 E s S b oa on oc Lo w1 M Db Fs Do)(P:ai w1 w2):Hr w wp most M0 D0 E s S b oa on oc Lo w2 M Db Fs Do:=
 ⟨n.buf.af P,n.set.af P,λc d=>(n.NZ c d).keep P λ_ _ h=>h,n.out.af P,n.nM,n.nD,n.nF,λb a=>⟨(n.nO b a).1,by have:=(n.nO b a).2.1;have:=P.size;omega,(n.nO b a).2.2⟩,n.nA,n.keep.af P,n.cl⟩
def Hr.add(P:Hr w wp most M0 D0 E s S b oa on oc Lo w1 M Db Fs Do){h l:Nat}(o:Row aP 8 w1 f d h m.aN)(p:∀b,f b->b<w1.heap.size/\¬Fs b)(i:m.Ok)(y:S.l.length<=20000000):
  am 74 #[L2 s,kK m d h l] w1 (Ok λj w'=>j= ZT (S.add m).1/\∃e,Hr w wp most M0 D0 E s (S.add m).2 b oa on oc Lo w' M Db e Do/\aj Fs w1 w'/\∀b,e b->Fs b\/w1.heap.size<=b):=by
 refine(uX P.set o p i oM).mono ?_;rintro _ w2 ⟨j,rfl,rfl,k,q,a⟩;have r:=P.buf.Pw;have t:=P.buf.JR;have z:=P.keep.size;have c:∀b,b<w1.heap.size->¬Fs b->¬k b:=λb A u g=>(a.new b g).elim u oM;refine Ok.mk ⟨rfl,k,⟨P.buf.keep a.keep (λb n=>(P.nM b n).2) λb n=>(P.nD b n).2,q,λv x=>(P.NZ v x).keep a.keep λb n=>(P.nO b n).2.2.2,P.out.keep a.keep λb n=>(P.nA b n).2.2.1,λb n=>⟨(P.nM b n).1,c b (r b n) (P.nM b n).2⟩,λb n=>⟨(P.nD b n).1,c b (t b n).1 (P.nD b n).2⟩,
  λb n=>(a.new b n).elim (P.nF b) λY=>oM,λb n=>⟨(P.nO b n).1,by have:=(P.nO b n).2.1;have:=a.keep.size;omega,(P.nO b n).2.2.1,c b (P.nO b n).2.1 (P.nO b n).2.2.2⟩,λb n=>⟨(P.nA b n).1,(P.nA b n).2.1,c b (P.out.aE b n) (P.nA b n).2.2.1,(P.nA b n).2.2.2⟩,P.keep.new a.keep λb n=>.inr (P.nF b n),P.cl.add i⟩,a.keep,a.new⟩
def Hr.push{v:Program}(P:Hr w wp most M0 D0 E s S b oa on oc Lo w1 M Db Fs Do)(z:kM v g 63 ns.ko.k 96){c:Bx ah}(A:ns.In w1 f c)(d:∀b,f b->(E b\/D0 b\/w.heap.size<=b)/\b<w1.heap.size/\¬M b/\¬Fs b/\aG oa≠some b){B:Nat×Nat}(C:w1.heap[a]? =some (.cells (aH c.x c.a c.n c.c).toArray 63 B))(Q:Lo.length<=1000000)(p:∀k o w' t,Hr w wp most M0 D0 E s S b k (on+1) o (Lo++[c]) w' M Db Fs t->aj (λb=>aG oa=some b) w1 w'->(∀b,aG k=some b->aG oa=some b\/w1.heap.size<=b)->q (.slice k (on+1) o) w'):
  aJ v (Builtin.append_ #[g,g] r #[.slice oa on oc,.slice (PP a) 1 1]) w1 q u:=by
 refine fH (c:=ns.ko) (x:=c) (D:=λ_=>False) P.out z C ⟨rfl,trivial⟩ (λb n=>n.elim) (by unfold aT;omega) (by unfold maxLen;omega) λk o w2 R x e F=>?_;have I:=x.alone;have y:∀b,aG k=some b->aG oa=some b\/w1.heap.size<=b:=λb n=>(F b (x.self b n)).imp id λh=>h.resolve_left id;have T:=e.size;have z1:=P.keep.size;have J:=P.buf.Pw;have K:=P.buf.JR;have L:=P.set.aE;have nA:=P.nA;refine p k o w2 (λb=>Do b\/f b) ⟨P.buf.keep e (λb n i=>(nA b i).2.1 n) λb n i=>(nA b i).2.2.2.2 n,P.set.keep e λb n i=>(nA b i).2.2.1 n,λN l=>?_,I,P.nM,P.nD,P.nF,λb n=>?_,λb n=>?_,P.keep.new e λb n=>.inr (nA b n).1,P.cl⟩ e y
 ·rcases Q6.1 l with l|l
  ·exact((P.NZ N l).keep e λb n i=>(nA b i).2.2.2.1 n).mono λb n=>.inl n
  ·simp at l;subst l
   exact(A.keep e λb n=>(d b n).2.2.2.2).mono λb n=>.inr n
 ·rcases n with n|n
  ·exact⟨(P.nO b n).1,by have:=(P.nO b n).2.1;omega,(P.nO b n).2.2⟩
  ·exact⟨(d b n).1,by have:=(d b n).2.1;omega,(d b n).2.2.1,(d b n).2.2.2.1⟩
 ·rcases y b n with H|H
  ·exact⟨(nA b H).1,(nA b H).2.1,(nA b H).2.2.1,λm=>m.elim (nA b H).2.2.2.1 λO=>(d b O).2.2.2.2 H,(nA b H).2.2.2.2⟩
  ·exact⟨oM,λj=>by have:=J b j;omega,λj=>by have:=L b j;omega,λj=>j.elim (λm=>by have:=(P.nO b m).2.1;omega) λm=>by have:=(d b m).2.1;omega,λj=>by have:=(K b j).1;omega⟩
def Hr.wait(n:Hr w wp most M0 D0 E s S b oa on oc Lo w1 M Db Fs Do){j p:Nat}(q:Row aP 8 w1 f d j m.aN)(r:∀b,f b->b<w1.heap.size)(t:m.Ok):
  am 246 #[L2 wp,kK m d j p] w1 (Ok λk w'=>∃u,k= .bool u/\∃g h,Hr w wp most M0 D0 E s S (eQ most b m).2 oa on oc Lo w' g h Fs Do/\aj M w1 w'):=by
 refine(Kx n.buf q r t).mono ?_;rintro _ w2 ⟨k,rfl,rfl,g,v,x,e,i,l⟩;have o:=n.set.aE;have A:=n.keep.size;have B:=e.size;refine Ok.mk ⟨_,rfl,g,v,⟨x,n.set.keep e λb P c=>(n.nM b c).2 P,λy z=>(n.NZ y z).keep e λb P=>(n.nO b P).2.2.1,n.out.keep e λb P=>(n.nA b P).2.1,λb P=>?_,λb P=>?_,n.nF,λb P=>⟨(n.nO b P).1,by have:=(n.nO b P).2.1;omega,λc=>?_,(n.nO b P).2.2.2⟩,λb P=>⟨(n.nA b P).1,λc=>?_,(n.nA b P).2.2.1,(n.nA b P).2.2.2.1,λc=>?_⟩,?_,n.cl⟩,e⟩
 ·rcases i b P with a|a
  ·exact n.nM b a
  ·exact⟨.inr oM,λc=>by have:=o b c;omega⟩
 ·rcases l b P with a|a
  ·exact n.nD b a
  ·exact⟨.inr oM,λc=>by have:=o b c;omega⟩
 ·rcases i b c with a|a
  ·exact(n.nO b P).2.2.1 a
  ·have:=(n.nO b P).2.1;omega
 ·rcases i b c with a|a
  ·exact(n.nA b P).2.1 a
  ·have:=n.out.aE b P;omega
 ·rcases l b c with a|a
  ·exact(n.nA b P).2.2.2.2 a
  ·have:=n.out.aE b P;omega
 ·exact n.keep.new e λb P=>(n.nM b P).1
def Hr.ready(n:Hr w wp most M0 D0 E s S b oa on oc Lo w1 M Db Fs Do)(i:S.l.length<=19000000):
  am 247 #[L2 wp,L2 s] w1 (Ok λh w'=>∃a e f d,h= .slice a e f/\aV ns.ko 63 (λb=>aG a=some b) w' a e f d/\d.map (·.x)=(bG S b).1/\(∀g∈d,ns.In w' Db g)/\(∀b,aG a=some b->w1.heap.size<=b)/\
   Hr w wp most M0 D0 E s S (bG S b).2 oa on oc Lo w' M Db Fs Do/\aj M w1 w'):=by
 refine(FX n.buf n.set n.cl i).mono ?_;rintro _ w2 ⟨h,rfl,a,e,f,d,rfl,j,k,l,m,o,c⟩;have r:=c.size;exact Ok.mk ⟨a,e,f,d,rfl,j,k,l,m,⟨o,n.set.keep c λb P p=>(n.nM b p).2 P,λg q=>(n.NZ g q).keep c λb P=>(n.nO b P).2.2.1,n.out.keep c λb P=>(n.nA b P).2.1,n.nM,n.nD,n.nF,λb P=>⟨(n.nO b P).1,by have:=(n.nO b P).2.1;omega,(n.nO b P).2.2⟩,n.nA,n.keep.new c λb P=>(n.nM b P).1,n.cl⟩,c⟩
end
section
variable {w w' w0 w1 w2:World} {p wp most s on oc:Nat} {F E T Z M0 D0 M Db Fs Do:LL} {cls:Nat->Nat} {h:kj} {c:bS} {self:Int} {X:bk} {S:aw} {b:List ah} {oa:ac} {Lo:List (Bx ah)} {evs:List ah} {ea:ac} {en ec:Nat}
def CL(most:Nat)(n:List ah)(P:ah):(eQ most n P).2.length<=n.length+1:=by
 unfold eQ;split
 ·show n.length<=_;omega
 ·show(dJ P n).length<=_
  rw[(cN P n).length_eq];simp
def Pv(L:cP w F cls p h c self X)(e5:jU c self)(hr:Row kq 96 w E ea en evs)(A:∀b,E b->b<w.heap.size/\¬F b)(m4:evs.length<=1000)(hl:X.S.l.length<=18000000):
  am 190 #[L2 p,.slice ea en ec] w (Ok λf0 w'=>∃oa on oc Lo U o Do,f0= .slice oa on oc/\aV ns.ko 63 (λb=>aG oa=some b) w' oa on oc Lo/\Lo.map (·.x)=(iV c X evs).1/\(∀n∈Lo,ns.In w' Do n)/\
   cP w' U o p h c self {X with waits:=(iV c X evs).2}/\cu F w U w'/\(∀b,Do b->b<w'.heap.size/\aG oa≠some b/\¬(U b/\o b=2))/\(∀b,aG oa=some b->w.heap.size<=b/\¬U b)/\(iV c X evs).1.length<=evs.length+256):=by
 obtain⟨m9,n0,n1⟩:=e5.aD;have e6:=L.aE;have i7:=L.JE;obtain⟨hS,a0,hn⟩:=(show cI w h.sp (λb=>F b/\cls b=3) X.S/\X.S.Cl/\X.S.n=c.aD.toNat from L.at' 3)
 obtain⟨M0,D0,t,c3,a1⟩:=(show OV w (λb=>F b/\cls b=5) h.wp c.buffer.toNat X.waits from L.at' 5)
 have f1:X.waits.length<=256:=Xx t.1.2.le t.1.1;have n3:=hr.len;refine nT (PC.ok (JO (evs:=[]) L e5 (dy w (λ_=>False)) (λb a=>a.elim) (by simp;omega)) ?_);rintro _ w4 ⟨s,i8,rfl,i9,b1,k4⟩;have e7:eW c X.S []=X.S:=(vZ a0 hn []).trans rfl;have z4:=k4.size;have j0:(eW c X.S []).Cl:=by rw[e7];exact a0
 have j1:(eW c X.S []).l.length=X.S.l.length:=by rw[e7]
 have j2:Hr w h.wp c.buffer.toNat M0 D0 E s (eW c X.S []) X.waits none 0 0 [] w4 M0 D0 i8 (λ_=>False):=by
  have j3:=t.Pw;have e8:=t.JR;refine⟨t.af k4,i9,sM,(aV.nil w4).mono (λb a=>a.elim) (λb a=>(by cases a)),λb a=>⟨.inl a,λi=>by have:=j3 b a;have:=b1 b i;omega⟩,λb a=>⟨.inl a,λi=>by have:=(e8 b a).1;have:=b1 b i;omega⟩,b1,λb a=>a.elim,λb a=>(by cases a),ai.keep k4,j0⟩
 have B:∀{w1:World},aj M0 w w1->w1.heap[p]? =some (.cells (h.cells c self) 105 (0,0)):=λ{w1} hk=>hk.get L.bw λj=>by
  have:=(c3 p j).2;rw[i7.2]at this;cases this
 have e9:∀b,E b->¬M0 b:=λb a j=>(A b a).2 (c3 b j).1;obtain⟨C,f2⟩:∃C,C=gN c.buffer.toNat evs (eW c X.S []) [] X.waits:=⟨_,rfl⟩
 have r:iV c X evs=pK (C.2.2.length+1) C.1 C.2.1 C.2.2:=by rw[f2];rfl
 refine⟨_,rfl,λH oa on oc I w'=>∃(d:Nat) (S:aw) (b:List ah) (Lo:List (Bx ah)) (M Db Fs Do:LL),I=d/\d<=en/\H=en-d/\Hr w h.wp c.buffer.toNat M0 D0 E s S b oa on oc Lo w' M Db Fs Do/\gN c.buffer.toNat (evs.drop d) S (Lo.map (·.x)) b=C/\S.l.length<=X.S.l.length+Lo.length/\Lo.length<=d/\b.length<=256/\Lo.length+b.length<=X.waits.length+d,
  ⟨_,0,_,_,_,_,_,_,_,rfl,Qj _,rfl,j2,f2.symm,by simp[j1],sM,f1,sM⟩,?_⟩
 rintro H oa on oc _ _ f3 ⟨d,S,b,Lo,M,Db,Fs,Do,rfl,hj,rfl,i,u,V,f4,b3,f6⟩;have j4:=i.keep.size;have j5:=i.out.len dC;refine al.dec (λj6=>?_) (λj7=>?_)
 ·obtain⟨n,g⟩:∃n,evs[d]? =some n:=⟨_,Qq oM⟩
  have a8:evs.drop d=n::evs.drop (d+1):=by
   rw[X4 oM]
   congr 1
   exact(Qv.1 g).2
  rw[a8]at u;obtain⟨gb,go,es,ha,j8,n4,d3,xa,xn,xc,rfl,d4,b4⟩:=(hr.keep i.keep e9).el d n g;refine⟨gb,go,ha,oM,oM,ck (es:=aH n xa xn xc) (k:=10) (bg _ _ _ _) rfl (λI ht=>by rw[Qx];exact d3 I ht) (PA.mk λn8 j9 n9 k0=>aC (bg n xa xn xc) k0 rfl λk1 k2 o0 f8=>au (bg n xa xn xc) f8 ?_)⟩;have a2:ai f3 k1:=j9.new k2 λb a=>.inr (by have a:b=f3.heap.size:=a;omega);have o1:=a2.size;have d5:∀b,E b->¬Fs b:=λb a j=>by have:=i.nF b j;have:=(A b a).1;omega
  refine PC.ok ((i.af a2).add (d4.af a2) (λb a=>⟨by have:=(A b a).1;omega,d5 b a⟩) b4 oM) ?_;rintro _ k3 ⟨rfl,N,J,a5,m5⟩;have o2:=a5.size;have b5:=i.set.aE;have v:=a5.get f8 λj=>by have:=b5 _ j;omega
  have g0:=S.Al n;have f5:gN c.buffer.toNat (n::evs.drop (d+1)) S (Lo.map (·.x)) b=if(S.add n).1=0 then gN c.buffer.toNat (evs.drop (d+1)) (S.add n).2 (Lo.map (·.x)++[n]) b else if(S.add n).1=16 then gN c.buffer.toNat (evs.drop (d+1)) S (Lo.map (·.x)) b else gN c.buffer.toNat (evs.drop (d+1)) S (Lo.map (·.x)) (eQ c.buffer.toNat b n).2:=rfl
  rw[f5]at u;have a9:(S.add n).1≠0->(S.add n).2=S:=λW=>by
   rcases S.eR n with⟨-,e⟩|⟨e,-⟩
   ·exact e
   ·rw[e]at W;exact Zz rfl W
  refine⟨_,rfl,al.eL (λq=>?_) (λq=>al.eL (λd6=>?_) (λd6=>λk5 k6=>?_))⟩
  ·rw[Zx q]at u
   have c5:(S.add n).2.l.length<=S.l.length+1:=g0;refine⟨_,_,_,_,_,_,_,_,_,_,_,_,ae v rfl,ae v rfl,ae v rfl,ae v rfl,ae v rfl,ae v rfl,ae v rfl,ae v rfl,ae v rfl,ae v rfl,PA.mk λk7 d7 o3 k8=>?_⟩;have g1:ns.In k7 E ⟨n,xa,xn,xc⟩:=⟨((d4.af a2).keep a5 λb a=>d5 b a).af d7,b4⟩
   have g2:=J.af d7;refine g2.push tR g1 (λb a=>⟨.inl a,by have:=(A b a).1;have:=d7.size;omega,λj=>?_,λj=>by have:=J.nF b j;have:=(A b a).1;omega,λm=>by have:=(J.nA b m).1;have:=(A b a).1;omega⟩) k8 oM λa' c' o4 O g3 m6 _=>⟨_,_,_,rfl,_,oM,d+1,_,_,_,M,Db,N,O,an oM,oM,rfl,g3,?_,?_,?_,b3,?_⟩
   ·rcases(J.nM b j).1 with e|e
    ·exact e9 b a e
    ·have:=(A b a).1;omega
   ·rw[Q3];exact u
   ·rw[QX,List.length_singleton];omega
   ·rw[QX,List.length_singleton];omega
   ·rw[QX,List.length_singleton];omega
  ·rw[Zq q,Zx d6]at u
   rw[a9 q]at J;exact⟨_,oM,d+1,S,b,Lo,M,Db,N,Do,an oM,oM,rfl,J,u,V,oM,b3,oM⟩
  ·rw[Zq q,Zq d6]at u
   rw[a9 q]at J;have c6:ai k3 k5:=k6.keep;have c9:=J.af c6;refine⟨p,0,rfl,_,ae (B c9.keep) rfl,au (bg n xa xn xc) (c6.get v id) (PC.ok (c9.wait (((d4.af a2).keep a5 λb a=>d5 b a).af c6) (λb a=>by have:=(A b a).1;have:=c6.size;omega) b4) ?_)⟩;rintro _ o5 ⟨I,rfl,M',b6,b7,m7⟩;have d8:=CL c.buffer.toNat b n;have g4:(eQ c.buffer.toNat b n).2.length<=256:=Xx b7.buf.1.2.le b7.buf.1.1;exact⟨_,rfl,_,oM,d+1,S,_,Lo,M',b6,N,Do,an oM,oM,rfl,b7,u,V,oM,g4,oM⟩
 have o6:d=evs.length:=oM
 rw[List.drop_eq_nil_of_le oM]at u;have d0:C=(S,Lo.map (·.x),b):=u.symm;rw[d0]at r;have b8:Lo.length+b.length<=evs.length+256:=oM
 refine⟨λH oa on oc w'=>∃(S:aw) (b:List ah) (Lo:List (Bx ah)) (M Db Fs Do:LL) (k:Nat),H=b.length/\Hr w h.wp c.buffer.toNat M0 D0 E s S b oa on oc Lo w' M Db Fs Do/\b.length<=k/\pK (k+1) S (Lo.map (·.x)) b=iV c X evs/\S.l.length<=X.S.l.length+Lo.length/\Lo.length+b.length<=evs.length+256,
  ⟨_,S,b,Lo,M,Db,Fs,Do,b.length,rfl,i,Q4 _,r.symm,V,b8⟩,?_⟩
 clear i u V f4 b3 f6 b8 j5 j4 d0 r
 rintro H oa on oc _ o7 ⟨S,b,Lo,M,Db,Fs,Do,k,rfl,i,hk,r,V,f6⟩;have o8:=i.keep.size;refine⟨p,0,rfl,_,ae (B i.keep) rfl,PC.ok (i.ready oM) ?_⟩;rintro _ o9 ⟨Y,n2,f7,Z,rfl,g5,d9,k9,g6,l,g7⟩;have p0:=g5.len dC;have d8:=wL S b;have g8:Z.length=(bG S b).1.length:=by rw[<-d9,Q8]
 have l0:pK (k+1) S (Lo.map (·.x)) b=if(bG S b).1=[]then(Lo.map (·.x),(bG S b).2)else pK k (eC (bG S b).1 S (Lo.map (·.x))).1 (eC (bG S b).1 S (Lo.map (·.x))).2 (bG S b).2:=rfl
 rw[l0]at r;have p1:=g7.size;refine⟨_,_,_,rfl,al.eL (λq=>?_) (λq=>?_)⟩
 ·have g9:(bG S b).1=[]:=QW oM
  rw[Zx g9]at r;rw[<-r];have hM:=l.buf.Pw;have l3:=l.buf.JR;obtain⟨U,o,b9,a3,l4,c0,-⟩:=L.fg bY (k:=5) (G':=λb=>M b\/Db b) (C2:=lX p (h.cells c self) h c {X with waits:=(bG S b).2} X.S.l) (l.keep.mono λb _ a=>c3 b a)
   (λn g=>g.elim (λe=>(l.nM n e).1.imp (c3 n) id) λe=>(l.nD n e).1.imp (a1 n) id) (λn g=>g.elim (hM n) λe=>(l3 n e).1) ⟨M,Db,l.buf,λ_ h=>.inl h,λ_ h=>.inr h⟩ λd G hj hc=>by
    rcases d with _|_|_|_|_|_|_|d<;>first|exact hc|exact Zz rfl hj
  refine Ok.mk ⟨oa,on,oc,Lo,U,o,Do,rfl,l.out,rfl,l.NZ,b9,a3,λn g=>⟨(l.nO n g).2.1,λm=>(l.nA n m).2.2.2.1 g,λQ=>?_⟩,λn g=>⟨(l.nA n g).1,λQ=>?_⟩,by rw[Q8];omega⟩
  ·have e0:F n/\cls n=2:=by
    have:=congrFun (c0 2 dC) n;exact this▸Q
   rcases(l.nO n g).1 with e|e|e
   ·exact(A n e).2 e0.1
   ·have:=(a1 n e).2;rw[e0.2]at this;cases this
   ·have:=e6 n e0.1;omega
  ·rcases l4 n Q with e|e
   ·have:=e6 n e.1;have:=(l.nA n g).1;omega
   ·exact e.elim (l.nA n g).2.1 (l.nA n g).2.2.2.2
 ·have W:(bG S b).1≠[]:=λm=>by rw[m,ZQ]at g8;omega
  rw[Zq W]at r;obtain⟨k',rfl⟩:∃k',k=k'+1:=⟨k-1,by
   have:0<b.length:=by
    have:=List.length_pos_iff.2 W;omega
   omega⟩
  obtain⟨av,e1⟩:∃av,av=eC (bG S b).1 S (Lo.map (·.x)):=⟨_,rfl⟩
  rw[<-e1]at r;have h2:Lo.length+Z.length+(bG S b).2.length<=evs.length+256:=oM
  obtain⟨b2,b3⟩:∃b2,b2=(bG S b).2:=⟨_,rfl⟩
  rw[<-b3]at r l h2 d8;have e8:=l.buf.JR;obtain⟨x,hR⟩:∃x,x=(bG S b).1:=⟨_,rfl⟩
  rw[<-hR]at d9 g8 d8 e1;have f9:∀P,aG Y=some P->¬Fs P/\aG oa≠some P:=λP f=>by
   have e:=g6 P f;exact⟨λj=>by have:=i.set.aE P j;omega,λm=>by have:=i.out.aE P m;omega⟩
  have p2:∀P,aG Y=some P->¬Db P:=λP f j=>by
   have e:=g6 P f;have h6:=(i.buf.JR P j).1;omega
  refine⟨λH oa on oc I w'=>∃(d:Nat) (S:aw) (Lo:List (Bx ah)) (Fs Do:LL),I=d/\d<=n2/\H=n2-d/\Hr w h.wp c.buffer.toNat M0 D0 E s S b2 oa on oc Lo w' M Db Fs Do/\eC (x.drop d) S (Lo.map (·.x))=av/\S.l.length<=X.S.l.length+Lo.length/\Lo.length+(n2-d)+b2.length<=evs.length+256/\aV ns.ko 63 (λb=>aG Y=some b) w' Y n2 f7 Z/\(∀n∈Z,ns.In w' Db n)/\∀P,aG Y=some P->¬Fs P/\aG oa≠some P,
   ⟨_,0,S,Lo,Fs,Do,rfl,Qj _,rfl,l,e1.symm,V,oM,g5,k9,f9⟩,?_⟩
  rintro H c2 h0 h1 _ _ h3 ⟨d,y,b0,l5,h4,rfl,hj,rfl,K,R,l6,b8,c5,h7,e3⟩;have p3:=K.keep.size;have m8:=K.out.len dC;refine al.dec (λj6=>?_) (λj7=>?_)
  ·obtain⟨n,g⟩:∃n,Z[d]? =some n:=⟨_,Qq oM⟩
   have h8:x[d]? =some n.x:=by rw[<-d9,Q9,g];rfl
   have a8:x.drop d=n.x::x.drop (d+1):=by
    rw[X4 (Qv.1 h8).1]
    congr 1
    exact(Qv.1 h8).2
   have h9:eC (n.x::x.drop (d+1)) y (b0.map (·.x))=if(y.add n.x).1=0 then eC (x.drop (d+1)) (y.add n.x).2 (b0.map (·.x)++[n.x])else eC (x.drop (d+1)) (y.add n.x).2 (b0.map (·.x)):=rfl
   rw[a8,h9]at R;have d1:=h7 n (QZ g);obtain⟨gb,go,es,ha,j8,p4,d3,rfl,-⟩:=(c5.row (bytes:=96) dC (by unfold aT;omega)).el d n g;refine⟨gb,go,ha,oM,oM,ck (es:=aH n.x n.a n.n n.c) (k:=10) (bg _ _ _ _) rfl (λI ht=>by rw[Qx];exact d3 I ht) (PA.mk λp5 l7 p6 l8=>aC (bg n.x n.a n.n n.c) l8 rfl λl9 m0 p7 i0=>au (bg n.x n.a n.n n.c) i0 ?_)⟩;have a4:ai h3 l9:=l7.new m0 λb a=>.inr (by have a:b=h3.heap.size:=a;omega);have p8:=a4.size;have m1:=K.buf.JR;have i1:=c5.aE;refine PC.ok ((K.af a4).add (d1.keep a4 λ_ _ h=>h).1 (λP f=>⟨by have:=(m1 P f).1;omega,(K.nD P f).2⟩) d1.2 oM) ?_;rintro _ m2 ⟨rfl,e4,T,a6,i2⟩;have p9:=a6.size;have b5:=K.set.aE;have z:=a6.get i0 λj=>by have:=b5 _ j;omega
   have g0:=y.Al n.x;have c4:=(c5.af a4).keep a6 λP f=>(e3 P f).1;have c7:∀P∈Z,ns.In m2 Db P:=λP f=>((h7 P f).keep a4 λ_ _ h=>h).keep a6 λc8 Q=>(K.nD c8 Q).2;have a7:∀P,aG Y=some P->¬e4 P/\aG c2≠some P:=λP f=>⟨λj=>(i2 P j).elim (e3 P f).1 λe=>by have:=i1 P f;omega,(e3 P f).2⟩
   refine⟨_,rfl,al.eL (λq=>?_) (λq=>?_)⟩
   ·rw[Zx q]at R
    refine⟨_,_,_,_,_,_,_,_,_,_,_,_,ae z rfl,ae z rfl,ae z rfl,ae z rfl,ae z rfl,ae z rfl,ae z rfl,ae z rfl,ae z rfl,ae z rfl,PA.mk λq0 c1 q1 m3=>?_⟩;have i3:=T.af c1;have d2:=T.buf.JR;have q2:=c1.size;refine i3.push tR ((c7 n (QZ g)).keep c1 λ_ _ h=>h) (λP f=>⟨.inr (T.nD P f).1,by have:=(d2 P f).1;omega,(d2 P f).2,(T.nD P f).2,λm=>(T.nA P m).2.2.2.2 f⟩) m3 oM λa' c' q3 O i4 e2 i5=>⟨_,_,_,rfl,_,oM,d+1,_,_,e4,O,an oM,oM,rfl,i4,?_,?_,?_,(c4.af c1).keep e2 λP f m=>(a7 P f).2 m,λP f=>((c7 P f).keep c1 λ_ _ h=>h).keep e2 λc8 Q m=>(T.nA c8 m).2.2.2.2 Q,λP f=>⟨(a7 P f).1,λm=>?_⟩⟩
    ·rw[Q3];exact R
    ·rw[QX,List.length_singleton];omega
    ·rw[QX,List.length_singleton];omega
    ·rcases i5 P m with e|e
     ·exact(a7 P f).2 e
     ·have:=c4.aE P f;omega
   ·rw[Zq q]at R
    have a9:(y.add n.x).2.l.length<=y.l.length:=by
     rcases y.eR n.x with⟨-,e⟩|⟨e,-⟩
     ·rw[e];exact Q4 _
     ·rw[e]at q;exact Zz rfl q
    exact⟨_,oM,d+1,_,b0,e4,h4,an oM,oM,rfl,T,R,oM,oM,c4,c7,a7⟩
  ·rw[List.drop_eq_nil_of_le oM]at R
   have i6:av=(y,b0.map (·.x)):=R.symm;rw[i6]at r;have q4:0<x.length:=by have:=List.length_pos_iff.2 W;rw[<-hR]at this;exact this
   exact⟨b2.length,oM,y,b2,b0,M,Db,l5,h4,k',rfl,K,oM,r,l6,oM⟩
end
structure TB where
 kind:Int
 n:Int
 now:Int
 cmd:kY
 m:bZ
section
variable (c:bS) (self:Int)
def Re(P:bk)(n:TB):Int×bk:=
 if n.kind=0 then((eK c self P n.cmd).1,(eK c self P n.cmd).2.2)else
 if n.kind=1 then(0,(fk c self P n.n (pick n.now 4611686018427387904)).2)else
 if n.kind=2 then(cy c self P n.m).2 else
 if n.kind=3 then(0,(pH self P (pick n.now 4611686018427387904)).2)else
 if n.kind=4 then gV c P n.n else
 if n.kind=5 then(0,{P with D:=P.D.Gn n.n})else
 if n.kind=6 then dL c P else(0,P)
end
structure jV (X Y:bk):Prop where
 evs:Y.S.l.length<=X.S.l.length+300\/Y.S.l.length<=16777216
 asked:Y.gC.asked.length<=X.gC.asked.length+1
def jV.refl(n:bk):jV n n:=⟨.inl oM,oM⟩
def JS{n P:Type}[BEq n][LawfulBEq n](a:n)(b:P):∀(c:List (n×P)),(aI c a b).length<=c.length+1
 |[]=>by simp[aI]
 |(e,f)::d=>by
  unfold aI;split
  ·simp
  ·have:=JS a b d
   simp;omega
def FA{P c:Type}[BEq P][LawfulBEq P](n:P)(d:c):∀(b:List (P×c)),n∈b.map (·.1)->(aI b n d).map (·.1)=b.map (·.1)
 |[],h=>by simp at h
 |(f,i)::e,h=>by
  unfold aI
  by_cases a:(n==f)=true
  ·rw[Zx a]
   have:=eq_of_beq a;subst this;rfl
  ·rw[Zq a]
   have g:n∈e.map (·.1):=by
    rcases Q2.1 h with h|h
    ·exact Zz (by rw[h];simp) a
    ·exact h
   simp[FA n d e g]
def JT{n b:Type}[BEq n][LawfulBEq n](P:n):∀(a:List (n×b)),(bN a P).length<=a.length
 |[]=>by simp[bN]
 |(d,e)::c=>by
  unfold bN;split
  ·simp
  ·have:=JT P c
   simp;omega
def Hs(b n:Int)(P:List Int×List (Int×Int))(a:Int)(c:a∈P.2.map (·.1)):(gu b n P a).2.map (·.1)=P.2.map (·.1):=by
 unfold gu;split
 ·exact FA _ _ _ c
 ·rfl
def wM(b n:Int):∀(a:List Int) (P:List Int×List (Int×Int)),(∀x∈a,x∈P.2.map (·.1))->(a.foldl (gu b n) P).2.map (·.1)=P.2.map (·.1)
 |[],P,_=>rfl
 |x::a,P,c=>by
  have d:=Hs b n P x (c x (QV ..));rw[List.foldl_cons,wM b n a _ λe f=>by rw[d];exact c e (QJ _ f),d]
def kp.Rl(n:kp)(P:Int):(n.Sx P).asked.length=n.asked.length:=by
 have b:=wM n.de P (n.open.take n.open.length) ([],n.asked) λc a=>by
  have a:=List.mem_of_mem_take a;unfold kp.open at a;exact(List.mergeSort_perm _ _).mem_iff.1 a
 have:=Zj List.length b;rw[Q8,Q8]at this;exact this
def sx(n:Nat):∀(b:List ah) (c:aw) (P a:List ah),(gN n b c P a).2.1.length+(gN n b c P a).2.2.length<=P.length+a.length+b.length
 |[],c,P,a=>by simp[gN]
 |e::b,c,P,a=>by
  unfold gN;split
  ·have:=sx n b (c.add e).2 (P++[e]) a
   simp at this⊢;omega
  split
  ·have:=sx n b c P a
   simp;omega
  ·have:=sx n b c P (eQ n a e).2
   have:=CL n a e;simp;omega
def rY:∀(P:List ah) (a:aw) (n:List ah),(eC P a n).2.length<=n.length+P.length
 |[],a,n=>by simp[eC]
 |e::P,a,n=>by
  unfold eC;split
  ·have:=rY P (a.add e).2 (n++[e])
   simp at this⊢;omega
  ·have:=rY P (a.add e).2 n
   simp;omega
def FB:∀(k:Nat) (P:aw) (n a:List ah),(pK k P n a).1.length<=n.length+a.length
 |0,P,n,a=>by simp[pK]
 |k+1,P,n,a=>by
  unfold pK;have b:=wL P a;dsimp only;split
  ·simp
  ·have c:=rY (bG P a).1 P n
   have d:=FB k (eC (bG P a).1 P n).1 (eC (bG P a).1 P n).2 (bG P a).2;omega
def Ch(P:bS)(n:bk)(a:List ah):(iV P n a).1.length<=n.waits.length+a.length:=by
 have b:=sx P.buffer.toNat a (eW P n.S []) [] n.waits;have c:=FB ((gN P.buffer.toNat a (eW P n.S []) [] n.waits).2.2.length+1) (gN P.buffer.toNat a (eW P n.S []) [] n.waits).1 (gN P.buffer.toNat a (eW P n.S []) [] n.waits).2.1 (gN P.buffer.toNat a (eW P n.S []) [] n.waits).2.2;simp at b;unfold iV;dsimp only;omega
def PD(a:bS)(n:aw)(P:List ah):(eW a n P).l.length<=n.l.length+P.length:=by
 have:=aw.nx (n.l++P) ⟨a.aD.toNat,[]⟩;unfold eW;simp at this⊢;omega
def FC(a:bS)(n:bk)(P:List ah):(dt a n P).2.S.l.length<=n.S.l.length+P.length/\(dt a n P).2.gC=n.gC:=by
 unfold dt
 cases n.log with
 |none=>exact⟨by dsimp only;omega,rfl⟩
 |some b=>
  dsimp only;split
  ·exact⟨by dsimp only;omega,rfl⟩
  split
  ·exact⟨by dsimp only;omega,rfl⟩
  ·exact⟨PD a n.S P,rfl⟩
def KR(a:bS)(P:Int)(n:bk)(b:kY):jV n (eK a P n b).2.2:=by
 unfold eK
 cases n.log with
 |none=>exact jV.refl n
 |some c=>
  dsimp only;split
  ·exact jV.refl n
  split
  ·have:=FC a n [(fu a.decl n.S (bW a.decl n.S.l) P a.start b).1]
   simp at this;split
   ·exact⟨.inl (by dsimp only;omega),by dsimp only;rw[this.2];omega⟩
   ·exact⟨.inl (by dsimp only;omega),by dsimp only;rw[this.2];omega⟩
  ·exact jV.refl n
def Dr(b:bS)(c:Int)(n:bk)(P:bZ)(i:n.waits.length<=256)(j:b.chunk<=32):jV n (cy b c n P).2.2:=by
 unfold cy
 cases n.log with
 |none=>exact jV.refl n
 |some k=>
  dsimp only;split
  ·exact jV.refl n
  rename_i g;split
  ·exact jV.refl n
  split
  ·rename_i h
   have l:P.events.length<=32:=by
    rcases Nat.lt_or_ge 32 P.events.length with f|f
    ·exfalso
     apply g;unfold eX;rw[Zx h];intro a;split at a
     ·cases a
     ·unfold eY at a
      split at a
      ·cases a
      ·rw[Zx (.inr oM)]at a;cases a
    ·exact f
   unfold mK;have m:=Ch b n P.events;dsimp only;split
   ·exact⟨.inl (by dsimp only;omega),by dsimp only;omega⟩
   ·have d:=FC b {n with waits:=(iV b n P.events).2} (iV b n P.events).1
    dsimp only at d;split
    ·exact⟨.inl (by dsimp only;omega),by dsimp only;rw[d.2];omega⟩
    ·exact⟨.inl (by dsimp only;omega),by dsimp only;rw[d.2];omega⟩
  ·have e:(n.gC.Ag P.bO P.vec n.S.vec).asked.length<=n.gC.asked.length+1:=by
    unfold kp.Ag;dsimp only;split
    ·have:=JT P.bO n.gC.asked;omega
    ·omega
   split
   ·exact⟨.inl (by dsimp only;omega),e⟩
   split
   ·exact⟨.inl (by dsimp only;omega),e⟩
   ·exact⟨.inl (by dsimp only;omega),e⟩
def KQ(c:bS)(n:Int)(a:bk)(P b:Int):jV a (fk c n a P b).2:=by
 unfold fk;split
 ·exact jV.refl a
 ·exact⟨.inl (by dsimp only;omega),JS _ _ _⟩
def yv(P:bS)(n:bk):(fz P n).2.gC=n.gC:=by
 unfold fz;dsimp only;split<;>rfl
def Ds(P:bS)(n:bk):jV n (dL P n).2:=by
 unfold dL
 cases n.log with
 |none=>exact jV.refl n
 |some a=>
  dsimp only;split
  ·exact⟨.inl (by dsimp only;omega),by dsimp only;omega⟩
  ·exact⟨.inl (by dsimp only;omega),by dsimp only;omega⟩
section
variable {w w' w0 w1 w2:World} {p:Nat} {F E Dv:LL} {cls:Nat->Nat} {h:kj} {c:bS} {self:Int} {X:bk} {m:bZ} {va ea:ac} {vn vc en ec:Nat}
def Pu(hr:bV w p F c self X)(he:Env w0 w F){V:dw}(a6:X.log=some V)(c4:Row kq 96 w E ea en m.events)(N:∀n,E n->n<w.heap.size/\¬F n)(a7:m.events.length<=1000)(hl:X.S.l.length<=18000000):
  am 119 #[L2 p,iL m va vn vc ea en ec] w (Ok λa5 w'=>∃O d,a5= .tuple #[O,ZT (mK c self X m).2.1]/\fI w d (mK c self X m).1 O w'/\bV w' p d c self (mK c self X m).2.2/\cu F w d w'):=by
 obtain⟨f,h,cls,Q⟩:=hr;have R:=Q.aE;refine nR (PA.mk λS q s8 T=>?_);obtain⟨P,U⟩:∃P,P=iV c X m.events:=⟨_,rfl⟩
 have y:∀{z},(if P.1=[]then([Af X.S self m.bO],0,{X with waits:=P.2})else
   if(dt c {X with waits:=P.2} P.1).1≠0 then([],(dt c {X with waits:=P.2} P.1).1,{(dt c {X with waits:=P.2} P.1).2 with waits:=[]})else([Af (dt c {X with waits:=P.2} P.1).2.S self m.bO],0,(dt c {X with waits:=P.2} P.1).2))=z->mK c self X m=z:=λ{z} b=>by rw[<-b,U];rfl
 refine⟨λw'=>∃d e,bV w' p d c self e/\cu F w d w'/\(∀n,d n->F n\/S.heap.size<=n)/\w'.heap[w.heap.size]? =some (.cells (dZ m va vn vc ea en ec).toArray 127 (0,0))/\mK c self X m=([Af e.S self m.bO],0,e),?_,?_⟩
 ·refine⟨_,_,_,ae T rfl,PC.ok (Pv (cP.af Q q) f (c4.af q) (λn a=>⟨by have:=(N n a).1;omega,(N n a).2⟩) a7 hl) ?_⟩
  rw[<-U];rintro _ W ⟨Y,on,oc,Lo,A,b0,Do,rfl,B,Z,c5,b2,g,r,c6,e1⟩;have hn:=B.len dC;have c7:Lo.length=P.1.length:=by rw[<-Z,Q8]
  have b3:=fh.unbox B c5 λn a=>⟨(r n a).1,(r n a).2.1⟩
  rw[TQ,Z]at b3;have b4:Row kq 96 W (λn=>aG Y=some n\/Do n) Y on P.1:=b3.row dC (by unfold aT;omega);have C:cu F w A W:=⟨(ai.keep q).then g.keep,λn a=>(g.new n a).imp id λh1=>oM⟩
  have H:∀n,A n->F n\/S.heap.size<=n:=g.new;have b5:=g.keep.get T λb=>by have:=R _ b;omega
  have c8:=(he.af q).iz g;refine⟨_,_,_,rfl,al.dec (λe0=>?_) (λhz=>?_)⟩
  rotate_left
  ·have b6:P.1=[]:=QW oM
   exact⟨A,{X with waits:=P.2},⟨f,h,b0,b2⟩,C,H,b5,y (Zx b6)⟩
  have b7:P.1≠[]:=λs=>by rw[s,ZQ]at c7;omega
  refine PC.ok (JF b2 f c8 (V:=V) a6 b4 (λn a=>a.elim (λs=>⟨B.aE n s,λb=>(c6 n s).2 b.1⟩) λb=>⟨(r n b).1,(r n b).2.2⟩) (by show X.S.l.length+_<=_;omega)) ?_;rintro _ c9 ⟨rfl,j,F2,a1,t,I,-⟩;have a0:=C.trans I;have e2:=C.keep.size;refine⟨_,rfl,al.eM (λb8=>?_) (λh0=>?_)⟩
  ·obtain⟨a2,Db,a,hM,hD⟩:=(show OV c9 (λn=>F2 n/\a1 n=5) j.wp c.buffer.toNat (dt c {X with waits:=P.2} P.1).2.waits from t.at' 5)
   refine⟨p,0,rfl,_,ae (t.at' 0).2 rfl,PC.ok (uW a) ?_⟩;rintro _ e3 ⟨rfl,a3,d0⟩;obtain⟨F3,k,J,l,-⟩:=t.iz bY (k:=5) (G':=a2) (C2:=lX p (j.cells c self) j c {(dt c {X with waits:=P.2} P.1).2 with waits:=[]} (dt c {X with waits:=P.2} P.1).2.S.l) ⟨d0.mono λn _ a=>hM n a,λn a=>.inl (hM n a)⟩ a3.Pw ⟨a2,_,a3,λ_ h=>h,λn a=>a.elim⟩ λa4 G hj hc=>by
    rcases a4 with _|_|_|_|_|_|_|a4<;>first|exact hc|exact Zz rfl hj
   refine⟨rfl,Ok.mk ?_⟩;rw[y ((Zq b7).trans (Zx b8))];exact⟨_,F3,rfl,fI.nil _ _ _,⟨f,j,k,J⟩,a0.trans l⟩
  ·refine⟨F2,(dt c {X with waits:=P.2} P.1).2,⟨f,j,a1,t⟩,a0,λn a=>(I.new n a).elim (H n) λK=>.inr (by have:=g.keep.size;omega),I.keep.get b5 λb=>?_,y ((Zq b7).trans (Zq (by simpa using h0)))⟩
   rcases H _ b with K|K
   ·have:=R _ K;omega
   ·omega
 ·rintro _ d1 ⟨d,e,d2,L,e4,d3,d4⟩ b9 d5
  obtain⟨-,h',o,M⟩:=d2;have u:ai d1 b9:=d5.keep;have i:=cP.af M u;refine⟨p,0,rfl,_,ae i.bw rfl,p,0,rfl,_,ae i.bw rfl,_,ae (u.get d3 id) rfl,PC.ok (Jz (i.at' 3).1) ?_⟩;rintro _ d6 ⟨a8,n2,c2,G,rfl,c1,hG,v⟩;have c3:=c1.aE;have e5:=L.keep.size;have z2:=u.size;have d7:=v.size;refine⟨_,_,_,_,_,_,_,_,_,rfl,PA.mk λd8 x e6 d9=>?_⟩;have hm:bl b9 [Af e.S self m.bO] (.slice (PP d6.heap.size) 1 1) d8:=bl.one (D:=G) d9 ⟨(c1.af x).row dC (by show e.S.vec.length*8<=aT;rw[e.S.cj];have:e.S.n<=64:=(i.at' 3).1.1.n;unfold aT;omega),dy _ _⟩ (λn a=>⟨hG n a,by have:=c3 n a;omega,by have:=c3 n a;omega⟩) d7 (v.then x);rw[d4];exact Ok.mk ⟨_,d,rfl,hm.out i.aE oM,⟨f,h',o,cP.af i (v.then x)⟩,((L.keep.af u).af v).af x,L.new⟩
end
section
variable {w w' w0 w1 w2:World} {p:Nat} {F E Dv:LL} {cls:Nat->Nat} {h:kj} {c:bS} {self:Int} {X:bk} {m:bZ} {va ea:ac} {vn vc en ec:Nat}
def jU.KN(n:jU c self):1<=c.chunk/\c.chunk<=32:=by
 have:=n.right;unfold fD within at this;simp only[QK,Zk]at this;omega
def Ii(hr:bV w p F c self X)(he:Env w0 w F)(V:Row aP 8 w Dv va vn m.vec)(f3:∀n,Dv n->n<w.heap.size/\¬F n)(c8:Row kq 96 w E ea en m.events)(hE:∀n,E n->n<w.heap.size/\¬F n)(hl:X.S.l.length<=18000000):
  am 76 #[L2 p,iL m va vn vc ea en ec] w (Ok λW w'=>∃q e,W= .tuple #[q,ZT (cy c self X m).2.1]/\fI w e (cy c self X m).1 q w'/\bV w' p e c self (cy c self X m).2.2/\cu F w e w'):=by
 have b0:=hr;obtain⟨x,h,cls,f⟩:=hr;have I:=f.aE;obtain⟨f4,h9,i0⟩:=x.aD;have i1:=x.KN;refine lU (PA.mk λw8 Y s8 g8=>?_);have h8:=cP.af f Y;have no:∀{w1:World} {g:Int},ai w w1->cy c self X m=([],g,X)->Ok (λW w'=>∃q e,W= .tuple #[q,ZT (cy c self X m).2.1]/\fI w e (cy c self X m).1 q w'/\bV w' p e c self (cy c self X m).2.2/\cu F w e w') (.returned (.tuple #[.slice none 0 0,ZT g])) w1:=λ{w1 g} J Z=>by
  rw[Z];exact Ok.mk ⟨_,F,rfl,fI.nil _ _ _,b0.af J,ai.keep J,λn P=>.inl P⟩
 refine⟨p,0,rfl,_,ae h8.bw rfl,gT Tryz.underlying101 ⟨_,rfl,?_⟩⟩;have c9:DL w (λn=>F n/\cls n=2) h.dp h.lp X.D X.log:=f.at' 2
 cases y:X.log with
 |none=>
  obtain⟨Fd,-,-,i⟩:=c9;rw[y]at i;have i:h.lp=none:=i;rw[i];exact al.tt rfl (no Y (by unfold cy;rw[y]))
 |some a8=>
 obtain⟨a9,a0,a6,-⟩:=DL.Pt (y▸c9) (he.sub λn P=>P.1) λn P=>I n P.1;have K:∀{r},(if eX m c.aD.toNat c.chunk≠0 then([],eX m c.aD.toNat c.chunk,X)else if m.nj≠self then([],1,X)else if m.kind=3 then mK c self X m else
   if m.kind≠4 then(l_ X.S self m c.chunk,0,{X with gC:=X.gC.Ag m.bO m.vec X.S.vec})else
   if X.S.missing m.vec c.chunk=[]then([],0,{X with gC:=X.gC.Ag m.bO m.vec X.S.vec})else([⟨3,self,m.bO,[],X.S.missing m.vec c.chunk⟩],0,{X with gC:=X.gC.Ag m.bO m.vec X.S.vec}))=r->cy c self X m=r:=λ{r} k=>by rw[<-k];unfold cy;rw[y]
 rw[a0];refine al.ff rfl λf6 d0=>?_;have L:ai w f6:=Y.then d0.keep;have d1:=cP.af f L;have d2:=(d0.keep (S:=λ_=>False)).get g8 id;refine au (eS m va vn vc ea en ec) d2 ⟨p,0,rfl,_,ae d1.bw rfl,p,0,rfl,_,ae d1.bw rfl,?_⟩;rw[f4];refine PC.ok (Pl (V.af L) (c8.af L) oM) ?_;rintro _ i2 ⟨rfl,d3⟩;have a1:=L.then d3;have f8:=cP.af f a1;have d4:=d3.get d2 id;refine⟨_,rfl,al.eM (λs=>no a1 (K (Zx s))) (λs=>⟨_,ae d4 rfl,p,0,rfl,_,ae f8.bw rfl,λg0 d5=>?_⟩)⟩;have j:ai w g0:=a1.then d5.keep;have i3:=cP.af f j;have b8:=(d5.keep (S:=λ_=>False)).get d4 id;have b9:¬eX m c.aD.toNat c.chunk≠0:=by simpa using s
 refine al.eM (λM=>no j (K ((Zq b9).trans (Zx M)))) (λM=>⟨_,ae b8 rfl,al.eL (λi=>?_) (λi=>λd6 d7=>?_)⟩)
 ·have Z:=K (((Zq b9).trans (Zq (by simpa using M))).trans (Zx i))
  have d8:m.events.length<=1000:=by
   have b:=s;unfold eX at b;simp only at b;rw[Zx i]at b;split at b
   ·cases b
   ·unfold eY at b
    split at b
    ·cases b
    split at b
    ·cases b
    ·omega
  refine au (eS m va vn vc ea en ec) b8 (PC.ok (Pu (b0.af j) (he.af j) y (c8.af j) (λn P=>⟨by have:=(hE n P).1;have:=j.size;omega,(hE n P).2⟩) d8 hl) ?_);rintro _ i4 ⟨q,e,rfl,b1,g1,b2⟩;have g2:=b1;obtain⟨a2,n2,c2,a7,D,rfl,o2,o3,o4,o5,o6⟩:=b1;refine⟨_,_,_,_,rfl,Ok.mk ?_⟩;have c0:=j.size;rw[Z];exact⟨_,e,rfl,⟨a2,n2,c2,a7,D,rfl,o2,o3,o4,λn P=>⟨by have:=(o5 n P).1;omega,(o5 n P).2⟩,λn P=>⟨by have:=(o6 n P).1;omega,(o6 n P).2⟩⟩,g1,(ai.keep j).then b2.keep,λn P=>(b2.new n P).imp id λb=>oM⟩
 ·have c1:ai w d6:=j.then d7.keep
  have N:=cP.af f c1;have c4:=(d7.keep (S:=λ_=>False)).get b8 id;have d9:ej d6 h.tp (λn=>F n/\cls n=6) X.gC:=N.at' 6;have fL:=(N.at' 3).1;have nS:¬(F p/\cls p=6):=λg=>by have:=g.2;rw[f.JE.2]at this;cases this
  have e0:¬(F w.heap.size/\cls w.heap.size=6):=λg=>by have:=I _ g.1;omega
  refine⟨λn=>F n/\cls n=6,p,0,rfl,nS,_,ae N.bw rfl,e0,_,ae c4 rfl,e0,_,_,_,ae c4 rfl,p,0,rfl,_,ae N.bw rfl,PC.ok (oB fL) ?_⟩;rintro _ g3 ⟨a2,n2,c2,G,rfl,e1,z,hG⟩;have hN:X.S.n<=64:=fL.1.n;have g4:Row aP 8 g3 G a2 n2 X.S.vec:=e1.row dC (by rw[X.S.cj];unfold aT;omega);have i5:=c1.size;have i6:=z.size;have A:=c1.then z;refine⟨_,_,_,rfl,ai.keep z,PC.ok (JG (d9.af z) ((V.af A).tV) g4.tV λ_=>dx.2 λn P k=>?_) ?_⟩
  ·have:=hG n (e1.self n P);have:=I n k.1;omega
  rintro _ c5 ⟨G6,rfl,a3,b3⟩;obtain⟨O,d,B,a,-⟩:=(cP.af f A).iz bY (k:=6) (G':=G6) (C2:=lX p (h.cells c self) h c {X with gC:=X.gC.Ag m.bO m.vec X.S.vec} X.S.l) b3 a3.aE a3 λa4 G hj s=>by
   rcases a4 with _|_|_|_|_|_|_|a4<;>first|exact s|exact Zz rfl hj
  have l:cu F w O c5:=⟨(ai.keep A).then a.keep,λn P=>(a.new n P).imp id λb=>by have:=A.size;omega⟩
  have Q:=a.keep.get (z.get c4 id) λk=>by have:=I _ k;omega
  have b4:=(V.af A).keep a.keep λn P=>(f3 n P).2;have i7:=l.keep.size;have c6:=λ{r} k=>K (r:=r) (((Zq b9).trans (Zq (by simpa using M))).trans ((Zq i).trans k));refine⟨_,rfl,b3.keep,_,ae Q rfl,al.eM (λR=>λe2 g5=>?_) (λR=>λe3 g6=>?_)⟩
  ·have C:ai c5 e2:=g5.keep
   have t:=cP.af B C;have i8:=C.size;refine⟨p,0,rfl,_,ae t.bw rfl,p,0,rfl,_,ae t.bw rfl,au (eS m va vn vc ea en ec) (C.get Q id) ⟨p,0,rfl,_,ae t.bw rfl,PC.ok (JH (t.at' 3).1 (show X.S.l.length<=20000000 by omega) (b4.af C)) ?_⟩⟩;rintro _ g7 c7;obtain⟨a5,S,c3,rfl⟩:=c7.sl;have b5:ai e2 g7:=by obtain⟨_,_,_,_,_,_,_,_,_,_,_,J⟩:=c7;exact J
   refine⟨_,_,_,rfl,Ok.mk ?_⟩;rw[c6 (Zx R)];exact⟨_,O,rfl,c7.out t.aE oM,⟨x,h,d,cP.af t b5⟩,(l.keep.af C).af b5,l.new⟩
  ·have o:ai c5 e3:=g6.keep
   have H:=cP.af B o;have i9:=o.size;refine⟨p,0,rfl,_,ae H.bw rfl,_,_,_,ae (o.get Q id) rfl,p,0,rfl,_,ae H.bw rfl,PC.ok (yU (H.at' 3).1 (by show X.S.l.length<=_;omega) (b4.af o)) ?_⟩;rintro _ e4 ⟨a5,S,c3,G3,rfl,T,u,g9⟩;have e5:=T.len dC;have b6:=T.aE;have e6:=cP.af H u;have j0:=u.size;have d8:(X.S.missing m.vec c.chunk).length<=32:=by
    unfold aw.missing;rw[Qy];omega
   change aV kq 63 G3 e4 a5 S c3 (X.S.missing m.vec c.chunk)at T
   refine⟨_,_,_,rfl,al.dec (λh7=>λe7 h0=>?_) (λhz=>Ok.mk ?_)⟩
   ·have e8:X.S.missing m.vec c.chunk≠[]:=λg=>by
     have b7:S=(X.S.missing m.vec c.chunk).length:=e5;rw[g,ZQ]at b7;omega
    have v:ai e4 e7:=h0.keep;have e9:=cP.af e6 v;have j1:=v.size;refine⟨p,0,rfl,_,ae e9.bw rfl,_,ae (v.get (u.get (o.get Q id) id) id) rfl,PA.mk λh2 U j2 h6=>Ok.mk ?_⟩;have hm:bl e3 [⟨3,self,m.bO,[],X.S.missing m.vec c.chunk⟩] (.slice (PP e7.heap.size) 1 1) h2:=bl.one (m:=⟨3,self,m.bO,[],X.S.missing m.vec c.chunk⟩) (va:=none) (vn:=0) (vc:=0) (D:=G3) h6 ⟨dy _ _,((T.af v).af U).row dC (by unfold aT;omega)⟩ (λn P=>⟨g9 n P,by have:=b6 n P;omega,by have:=b6 n P;omega⟩) oM ((u.then v).then U);rw[c6 ((Zq (by simpa using R)).trans (Zq e8))];exact⟨_,O,rfl,hm.out H.aE oM,⟨x,h,d,cP.af e9 U⟩,(((l.keep.af o).af u).af v).af U,l.new⟩
   ·have f2:X.S.missing m.vec c.chunk=[]:=QW (by
     have b7:S=(X.S.missing m.vec c.chunk).length:=e5;omega)
    rw[c6 ((Zq (by simpa using R)).trans (Zx f2))];exact⟨_,O,rfl,fI.nil _ _ _,⟨x,h,d,e6⟩,(l.keep.af o).af u,l.new⟩
end
section
variable {w w' w0 w1 w2:World} {p:Nat} {F E Dv:LL} {cls:Nat->Nat} {h:kj} {c:bS} {self:Int} {X:bk}
def Oh(O:bV w p F c self X)(t:Env w0 w F)(Q:aM e):
  am 52 #[L2 p,ZT e] w (Ok λR w'=>∃r,R= ZT (gV c X e).1/\bV w' p r c self (gV c X e).2/\cu F w r w'/\(gV c X e).2.S.l.length<=16777216):=by
 obtain⟨B,h,cls,s⟩:=O;have b8:=s.aE;have b9:=s.JE;have u:bb w F cls (recC p (yk h c self h.lp (PP h.sp) (PP h.bp)) {h with lp:=none} c {X with log:=none} false):=
  ⟨λk=>by
   have d:=s.at' k;rcases k with _|_|_|_|_|_|_|k<;>first|exact d|trivial|(intro S;cases S)|(obtain⟨Fd,g,v,T⟩:=d;exact⟨Fd,g,v,rfl⟩),s.aE⟩
 obtain⟨Fd,U,m,-⟩:=(show DL w (λn=>F n/\cls n=2) h.dp none X.D none from u.at' 2)
 refine nP ⟨p,0,rfl,_,ae (u.at' 0).2 rfl,PC.ok (LK U Q) ?_⟩;rintro _ V ⟨C,rfl,E,H⟩;obtain⟨W,Y,x,o,-⟩:=u.iz iw (k:=2) (G':=C) (C2:=recC p (yk h c self h.lp (PP h.sp) (PP h.bp)) {h with lp:=none} c {X with log:=none,D:=X.D.ei e} false) ⟨H.keep.mono λn _ P=>m n P,λn P=>(H.new n P).imp (m n) id⟩ (λn P=>E.aE n P) ⟨C,E,λn P=>P,rfl⟩ λa G i d=>by
  rcases a with _|_|_|_|_|_|_|a<;>first|exact d|exact Zz rfl i
 obtain⟨I,Db,P,J,hD⟩:=(show OV V (λn=>W n/\Y n=5) h.wp c.buffer.toNat X.waits from x.at' 5)
 refine⟨rfl,p,0,rfl,_,ae (x.at' 0).2 rfl,PC.ok (uW P) ?_⟩;rintro _ c1 ⟨rfl,K,Z⟩;obtain⟨j,f,b,l,-⟩:=x.iz iw (k:=5) (G':=I) (C2:=recC p (yk h c self h.lp (PP h.sp) (PP h.bp)) {h with lp:=none} c {X with log:=none,D:=X.D.ei e,waits:=[]} false) ⟨Z.mono λn _ P=>J n P,λn P=>.inl (J n P)⟩ K.Pw ⟨I,_,K,λ_ h=>h,λn P=>P.elim⟩ λa G i d=>by
  rcases a with _|_|_|_|_|_|_|a<;>first|exact d|exact Zz rfl i
 refine⟨rfl,p,0,rfl,_,ae (b.at' 0).2 rfl,PC.ok (JI (b.at' 6)) ?_⟩;rintro _ y ⟨rfl,a3,L⟩;have z:bb y j f (recC p (yk h c self h.lp (PP h.sp) (PP h.bp)) {h with lp:=none} c {X with log:=none,D:=X.D.ei e,waits:=[],gC:=⟨X.gC.de,[],[]⟩} false):=b.same iw (k:=6) L a3 λa G i d=>by
  rcases a with _|_|_|_|_|_|_|a<;>first|exact d|exact Zz rfl i
 have M:cu F w j y:=by
  have g:=o.trans l;exact⟨g.keep.new (L.mono λn _ P=>P.1) λn P=>g.new n P,g.new⟩
 have a5:=t.iz M;have b3:=DL.uJ (show DL y (λn=>j n/\f n=2) h.dp none (X.D.ei e) none from z.at' 2) (a5.sub λn P=>P.1);refine⟨rfl,p,0,rfl,_,ae (z.at' 0).2 rfl,PC.ok (Ov t.laid b3) ?_⟩;rintro _ c2 ⟨rfl,a0,b4⟩;obtain⟨G2,b5,a6,b6,-⟩:=DL.NG (Y:=λ_=>False) (a0.mono λn P=>P.elim id False.elim) b4;obtain⟨c3,b7,a7,a1,-⟩:=z.iz iw (k:=2) (G':=G2) (C2:=recC p (yk h c self h.lp (PP h.sp) (PP h.bp)) {h with lp:=none} c {X with log:=none,D:=dq (X.D.ei e),waits:=[],gC:=⟨X.gC.de,[],[]⟩} false) a6 b6 (by
   obtain⟨Fd,g,v,T⟩:=b5;exact⟨Fd,g,v,rfl⟩) λa G i d=>by
  rcases a with _|_|_|_|_|_|_|a<;>first|exact d|exact Zz rfl i
 have N:=M.trans a1;refine⟨rfl,PC.ok (yV (h:={h with lp:=none}) (z1:=h.lp) (z2:=PP h.sp) (z3:=PP h.bp) a7 B (t.iz N)) ?_⟩;rintro _ c4 ⟨rfl,a8,h',r,q,A,a9⟩;exact⟨_,rfl,Ok.mk ⟨r,rfl,⟨B,h',q,A⟩,N.trans a9,a8⟩⟩
def QR(r:bV w p F c self X)(s:aM e):
  am 57 #[L2 p,ZT e] w (Ok λt w'=>∃k,t= .tuple #[]/\bV w' p k c self {X with D:=X.D.Gn e}/\cu F w k w'):=by
 obtain⟨u,h,cls,f⟩:=r;obtain⟨Fd,v,g,a⟩:=(show DL w (λn=>F n/\cls n=2) h.dp h.lp X.D X.log from f.at' 2)
 refine oO ⟨p,0,rfl,_,ae f.bw rfl,PC.ok (OJ s v) ?_⟩;rintro _ l ⟨rfl,x,i⟩;have y:cP l F cls p h c self {X with D:=X.D.Gn e}:=bb.same f bY (k:=2) (i.keep.mono λn _ P=>g n P) (by
  refine⟨Fd,x,g,?_⟩;show match X.log with
   |none=>h.lp=none
   |some j=>j.a_≠[]/\∃b d,h.lp=some ⟨b,0,none⟩/\ju l h.dp b d j/\∀n,d n->(F n/\cls n=2)/\¬Fd n
  cases m:X.log with
  |none=>rw[m]at a;exact a
  |some j=>
   rw[m]at a;obtain⟨z,b,d,A,B,o⟩:=a;exact⟨z,b,d,A,B.keep i.keep λn P=>(o n P).2,o⟩) λq G C E=>by
  rcases q with _|_|_|_|_|_|_|q<;>first|exact E|exact Zz rfl C
 exact⟨rfl,Ok.mk ⟨F,rfl,⟨u,h,cls,y⟩,i.keep.mono λn _ P=>(g n P).1,λn P=>.inl P⟩⟩
def D_{V:dw}{D:ak}{l:List ah}{size:Int}(P:(aQ V D l size).no=0):(aQ V D l size).V.a_≠[]:=by
 revert P
 unfold aQ;split
 ·rename_i n;intro h;exact Zz h n
 split
 ·rename_i n;intro h;exact Zz h n
 ·exact CF
def Io(R:bV w p F c self X)(A:Env w0 w F)(hl:X.S.l.length<=18000000):
  am 53 #[L2 p] w (Ok λa2 w'=>∃S,a2= ZT (dL c X).1/\bV w' p S c self (dL c X).2/\cu F w S w'):=by
 have a6:=R;obtain⟨T,h,cls,m⟩:=R;have a8:=m.aE;refine lV ⟨p,0,rfl,_,ae m.bw rfl,gT Tryz.underlying101 ⟨_,rfl,?_⟩⟩;have U:DL w (λn=>F n/\cls n=2) h.dp h.lp X.D X.log:=m.at' 2
 cases k:X.log with
 |none=>
  obtain⟨Fd,-,-,g⟩:=U;rw[k]at g;have g:h.lp=none:=g;rw[g];have o:dL c X=(15,X):=by unfold dL;rw[k]
  rw[o];exact al.tt rfl (Ok.mk ⟨F,rfl,a6,cu.refl _ _⟩)
 |some a=>
 obtain⟨y,d,B,-⟩:=DL.Pt (k▸U) (A.sub λn P=>P.1) λn P=>a8 n P.1;have C:∀{i},(if(aQ a X.D X.S.l c.bh).no≠0 then((aQ a X.D X.S.l c.bh).no,{X with D:=(aQ a X.D X.S.l c.bh).D})else(0,{X with D:=(aQ a X.D X.S.l c.bh).D,log:=some (aQ a X.D X.S.l c.bh).V}))=i->dL c X=i:=λ{i} E=>by rw[<-E];unfold dL;rw[k]
 rw[d];refine al.ff rfl λw9 d9=>?_;have V:ai w w9:=d9.keep;have l:=cP.af m V;have W:=m.JE;have H:¬(F p/\cls p=2):=λq=>by have:=q.2;rw[W.2]at this;cases this
 refine⟨λn=>F n/\cls n=2,p,0,rfl,H,_,ae l.bw rfl,p,0,rfl,H,_,ae l.bw rfl,p,0,rfl,_,ae l.bw rfl,p,0,rfl,H,_,ae l.bw rfl,PC.ok (sg (l.at' 3).1 oM) ?_⟩;rintro _ r ⟨b6,b7,cc,G,rfl,Y,I,hG⟩;have z:=cP.af l I;have s:=V.then I;have a9:=Y.aE;obtain⟨Z,f,-,J⟩:=DL.Pt (show DL r (λn=>F n/\cls n=2) h.dp h.lp X.D (some a)from k▸z.at' 2) ((A.af s).sub λn P=>P.1) λn P=>z.aE n P.1;have E:Z=y:=by rw[d]at f;cases f;rfl
 subst E;refine⟨_,_,_,rfl,ai.keep I,?_⟩;rw[d];refine PC.ok (II A.laid J (Y.row dC (by unfold aT;omega)) a9 oM) ?_;have a0:=D_ (V:=a) (D:=X.D) (l:=X.S.l) (size:=c.bh);generalize aQ a X.D X.S.l c.bh=i at C a0;rintro _ a3 ⟨K,a4,b0,a5,⟨t,rfl,b1⟩|⟨t,q3,rfl,b2⟩⟩
 ·obtain⟨Fd,h1,h2,g,h4⟩:=b1
  have L:∀n,¬(n<r.heap.size/\¬(F n/\cls n=2))->(F n/\cls n=2)\/r.heap.size<=n:=λn P=>by
   rcases Nat.lt_or_ge n r.heap.size with M|M
   ·exact .inl (Classical.byContradiction λh8=>P ⟨M,h8⟩)
   ·exact .inr M
  have a1:aj (λn=>F n/\cls n=2) r a3:=a5.mono λn b8 P=>(L n P).resolve_right oM;obtain⟨N,j,e,u,-⟩:=z.fg bY (k:=2) (G':=λn=>Fd n\/K n) (C2:=lX p (h.cells c self) h c {X with D:=i.D} X.S.l) a1 (λn P=>P.elim (λv=>L n λh6=>(g n v).2 (.inl h6)) λv=>L n (b0 n v).2) (λn P=>P.elim (h1.aE n) (a4.aE n)) (by
    refine⟨Fd,h1,λn P=>.inl P,?_⟩;show match X.log with
     |none=>h.lp=none
     |some a=>a.a_≠[]/\∃y Fl,h.lp=some ⟨y,0,none⟩/\ju a3 h.dp y Fl a/\∀n,Fl n->(Fd n\/K n)/\¬Fd n
    rw[k];exact⟨B,Z,K,d,a4,λn P=>⟨.inr P,λhd=>(g n hd).2 (.inr P)⟩⟩) λx G O o=>by
   rcases x with _|_|_|_|_|_|_|x<;>first|exact o|exact Zz rfl O
  refine⟨_,_,rfl,a1,al.eL (λQ=>Zz Q t) (λ_=>Ok.mk ?_)⟩;rw[C (Zx t)];exact⟨N,rfl,⟨T,h,j,e⟩,(ai.keep s).then u.keep,λn P=>(u.new n P).imp id λv=>by have:=s.size;omega⟩
 ·obtain⟨G2,b3,u,b4,hY⟩:=DL.Hn b2 a5 (a0 t)
  obtain⟨N,j,e,b,-⟩:=z.iz bY (k:=2) (G':=G2) (C2:=lX p (h.cells c self) {h with lp:=PP q3} c {X with D:=i.D,log:=some i.V} X.S.l) u b4 b3 λx G O o=>by
   rcases x with _|_|_|_|_|_|_|x<;>first|exact o|exact Zz rfl O
  refine⟨_,_,rfl,u.keep,al.eL (λ_=>⟨p,0,rfl,PS.mk (e.at' 0).2 sM λb9 a7 c0 b5=>Ok.mk ?_⟩) (λQ=>Zz rfl Q)⟩;rw[C (Zq (by simpa using t))];exact⟨N,rfl,⟨T,{h with lp:=PP q3},j,cP.store e a7 b5⟩,((ai.keep s).then b.keep).then (a7.mono λn _ q=>by have q:n=p:=q;rw[q];exact W.1),λn P=>(b.new n P).imp id λv=>by have:=s.size;omega⟩
end
variable{d0:List bu}{v:ac}{R:aS}
section
variable {w w' w0 w1 w2:World} {p:Nat} {F E D:LL} {c:bS} {self:Int}
def eT(c:bS)(n:ac)(tn P:Nat)(a:ac)(b d:Nat):List Value:=[ZT c.aD,ZT c.uJ,ZT c.bh,ZT c.chunk,ZT c.buffer,ZT c.de,ZT c.every,ZT c.start,.slice n tn P,.slice a b d]
abbrev xg(c:bS)(n:ac)(tn P:Nat)(a:ac)(b d:Nat):Value:=.agg (eT c n tn P a b d).toArray
def Iq(c:bS)(n:ac)(tn P:Nat)(a:ac)(b d:Nat):iH WP 27 (eT c n tn P a b d)=true:=kR
def px{n P a:Int}:am 69 #[ZT n,ZT P,ZT a] w (Ok λb w'=>b= .bool (within n P a)/\w=w'):=by
 refine vl (al.dec (λc=>Ok.mk ⟨?_,rfl⟩) (λc=>Ok.mk ⟨?_,rfl⟩))
 ·simp[within];omega
 ·simp[within];omega
def Px{tn z A B:Nat}:am 41 #[xg c d tn z v A B,ZT self] w (Ok λj w'=>j= .bool (fD c self)/\ai w w'):=by
 refine zD (PA.mk λw1 s I P=>?_);have J:∀{k l m:Int} {o:Bool->Prop} {t:List PanicEntry->UV},o (within k l m)->∃p u x,(Value.func (.func 69) #[] #[])= .func (.func p) u x/\enters WP p=true/\PC WP p (u++ #[ZT k,ZT l,ZT m]++x) w1 (λC E=>∃(y:Bool),C= .bool y/\E=w1/\o y) t:=λ{k l m o t} q=>by
  refine⟨_,_,_,rfl,kR,PC.ok px ?_⟩;rintro _ _ ⟨rfl,rfl⟩;exact⟨_,rfl,rfl,q⟩
 have no:fD c self=false->Ok (λj w'=>j= .bool (fD c self)/\ai w w') (.returned (.bool false)) w1:=λF=>Ok.mk ⟨by rw[F],s⟩;have a:fD c self=(within c.aD 1 64&&(within self 0 (c.aD-1)&&(within c.uJ 64 262144&&(decide (c.bh>=1)&&(decide (c.every>=1)&&(within c.chunk 1 32&&(within c.buffer 1 256&&(within c.de 1 1048576&&decide (c.start>=0))))))))):=by
  unfold fD;simp only[Bool.and_assoc]
 refine⟨_,ae P rfl,_,_,_,rfl,kR,PC.ok px ?_⟩;rintro _ _ ⟨rfl,rfl⟩;refine⟨_,rfl,al.mk (λn=>⟨_,ae P rfl,_,_,_,rfl,kR,PC.ok px ?_⟩) (λn=>no (by rw[a,n];rfl))⟩;have H:IntKind.wrap .i64 (c.aD-1)=c.aD-1:=wrap_i64 (by have:=bI.1 n;unfold aM;omega);rw[H];rintro _ _ ⟨rfl,rfl⟩;refine⟨_,rfl,al.mk (λb=>⟨_,ae P rfl,_,_,_,rfl,kR,PC.ok px ?_⟩) (λb=>no (by rw[a,n,b];rfl))⟩;rintro _ _ ⟨rfl,rfl⟩;refine⟨_,rfl,al.mk (λe=>⟨_,ae P rfl,al.mk (λf=>⟨_,ae P rfl,al.mk (λg=>⟨_,ae P rfl,_,_,_,rfl,kR,PC.ok px ?_⟩) (λg=>no (by rw[a,n,b,e,f,g];rfl))⟩) (λf=>no (by rw[a,n,b,e,f];rfl))⟩) (λe=>no (by rw[a,n,b,e];rfl))⟩;rintro _ _ ⟨rfl,rfl⟩;refine⟨_,rfl,al.mk (λh=>⟨_,ae P rfl,_,_,_,rfl,kR,PC.ok px ?_⟩) (λh=>no (by rw[a,n,b,e,f,g,h];rfl))⟩;rintro _ _ ⟨rfl,rfl⟩;refine⟨_,rfl,al.mk (λi=>⟨_,ae P rfl,_,_,_,rfl,kR,PC.ok px ?_⟩) (λi=>no (by rw[a,n,b,e,f,g,h,i];rfl))⟩;rintro _ _ ⟨rfl,rfl⟩;refine⟨_,rfl,al.mk (λr=>⟨_,ae P rfl,Ok.mk ⟨by rw[a,n,b,e,f,g,h,i,r];rfl,s⟩⟩) (λr=>no (by rw[a,n,b,e,f,g,h,i,r];rfl))⟩
def Sr{n P:Nat}(a:R.types[n]? =some d0)(c:P<d0.length):R.DZ (n:Int) (P:Int)=d0[P]? :=by
 have d:=(Qv.1 a).1;have b:R.at (n:Int)=d0:=by
  unfold aS.at;rw[Zx (bI.2 ⟨oM,oM⟩),Qx,QQ,a];rfl
 unfold aS.DZ;rw[b,Zx (by simp only[QK,bI];exact⟨⟨oM,oM⟩,oM,oM⟩),Qx]
end
section
variable {w w' w0 w1 w2:World} {p:Nat} {F E D:LL} {c:bS} {self:Int}
def Ms{tn tc L pc:Nat}(g:bt w D R d tn v L)(hD:∀n,D n->n<w.heap.size):
  am 43 #[.agg #[.slice d tn tc,.slice v L pc]] w (Ok λc4 w'=>∃t Nc a2 c u j G,c4= .agg #[.slice t Nc a2,.slice c u j]/\bt w' G R t Nc c u/\(∀n,G n->w.heap.size<=n/\n<w'.heap.size)/\ai w w'):=by
 have f4:=g.aZ.len;have b8:=g.aZ.fe;have f6:=g.FP.len;have f8:=g.FP.fe;refine xm (PA.mk λM k4 s4 g4=>PA.mk λw5 k5 s5 g5=>⟨_,_,_,ae (k5.get g4 id) rfl,?_⟩);have x:=k4.then k5;refine Au (aV.nil (c:=BX) (e:=138) w5) RA (g.FP.af x) (λn P=>⟨by have:=hD n P;omega,λa=>by cases a⟩) (by rw[ZQ];unfold aT at*;omega) (by rw[ZQ];unfold aT at*;unfold maxLen;omega) λc j e Fp d1 k8 j6 d2=>⟨_,_,_,rfl,PA.mk λj7 g0 j8 g1=>PS.mk g1 sM λj9 g2 k0 g3=>PS.mk g3 sM λr g6 k1 g7=>?_⟩
 rw[List.nil_append,Xz]at d1;have a9:=d1.alone;have b9:∀n,aG c=some n->w5.heap.size<=n/\n<e.heap.size:=λn P=>⟨(d2 n P).elim False.elim id,a9.aE n P⟩
 have z8:=k8.size;have y:ai w5 e:=k8.mono λn _ a=>by cases a
 have z:ai e r:=(g0.new g2 λn P=>.inr (by have P:n=e.heap.size:=P;omega)).new g6 λn P=>.inr (by have P:n=e.heap.size:=P;omega);have b0:ai w r:=(x.then y).then z;have gp:=z.get (y.get (k5.get g4 id) id) id;have gr:=z.get (y.get g5 id) id;have b1:r.heap[e.heap.size]? =some (.cells #[.slice none 0 0,.slice c (0+L) j] 25 (0,0)):=g7;rw[Xz]at b1;have k2:=z.size;refine⟨_,_,_,ae gp rfl,λA a3 w'=>∃h:Nat,a3=h/\h<=tn/\A=tn-h/\aj (·=e.heap.size) r w'/\∃N O oc Q,w'.heap[e.heap.size]? =some (.cells #[.slice N O oc,.slice c L j] 25 (0,0))/\aV nq 118 Q w' N O oc (R.types.take h)/\∀n,Q n->r.heap.size<=n,
  ⟨_,0,rfl,Qj _,rfl,aj.refl _,none,0,0,λ_=>False,b1,aV.nil _,λ_ g=>g.elim⟩,?_⟩
 rintro A _ _ S ⟨h,rfl,hj,rfl,s,N,O,oc,Q,T,l,B⟩;have U:ai w S:=b0.new s λn P=>.inr (by have P:n=e.heap.size:=P;have:=x.size;have:=y.size;omega);have zk:=s.size;have b2:=s.get gp λa=>by have a:w.heap.size=e.heap.size:=a;have:=k4.size;omega
 refine al.dec (λk3=>?_) (λk6=>?_)
 ·have g8:h<R.types.length:=oM
  have V:R.types[h]? =some R.types[h]:=Qq g8;generalize R.types[h]=m at V;obtain⟨n,d5,es,ha,P,k7,d6,fa,fn,fc,rfl,W⟩:=(g.aZ.af U).el h m V;have c0:=d6 0 dC;have g9:nq.k=1:=rfl;rw[g9,Nat.mul_one]at c0;have h0:=W.len;have c2:=W.fe;refine⟨n,d5,ha,oM,oM,fa,fn,fc,by rw[Qx];exact c0,PA.mk λk9 h3 l0 h4=>PS.mk h4 sM λi h6 l3 h7=>PA.mk λl4 d3 l5 h8=>PS.mk h8 sM λC d4 l6 h9=>?_⟩;have p:ai S C:=((h3.new h6 λn P=>.inr (by have P:n=S.heap.size:=P;omega)).then d3).new d4 λn P=>.inr (by have P:n=i.heap.size:=P;omega);have d7:=d4.get (d3.get h7 id) oM;have e3:=p.get b2 id;have l7:=p.size;have e4:=U.then p;refine⟨_,_,_,ae d7 rfl,λA a3 w'=>∃f:Nat,a3=f/\f<=fn/\A=fn-f/\aj (·=i.heap.size) C w'/\∃E F X Y,w'.heap[i.heap.size]? =some (.cells #[.slice E F X] 118 (0,0))/\aV sF 121 Y w' E F X (m.take f)/\∀n,Y n->C.heap.size<=n,
   ⟨_,0,rfl,Qj _,rfl,aj.refl _,none,0,0,λ_=>False,h9,aV.nil _,λ_ g=>g.elim⟩,?_⟩
  rintro A _ _ d8 ⟨f,rfl,hk,rfl,q,E,F,X,Y,gx,o,H⟩;have zx:=q.size;have b3:ai w d8:=e4.new q λn P=>.inr (by have P:n=i.heap.size:=P;have:=U.size;omega);have b4:=q.get e3 λa=>by have a:w.heap.size=i.heap.size:=a;have:=aA b2;omega
  refine al.dec (λj4=>?_) (λj5=>?_)
  ·have d9:f<m.length:=oM
   have I:m[f]? =some m[f]:=Qq d9;have a4:=Sr V d9;rw[I]at a4;obtain⟨fb,fo,e6,-,-,-,-,ya,yn,yc,rfl,-,b5⟩:=(W.af p).el f m[f] I;generalize m[f]=J at I a4 b5;refine⟨_,_,_,_,_,_,ae b4 rfl,ae b4 rfl,PC.ok (py (g.af b3) λn P=>by have:=hD n P;have:=b3.size;omega) ?_⟩;rw[a4];rintro _ e0 ⟨e1,Z,a0,cc,Fm,rfl,c3,e2⟩;have e8:=c3.aE;have l8:=e1.size;refine cx (JJ J Z a0 cc) ⟨_,rfl,PA.mk λl9 i0 m0 i1=>aC (gJ J Z a0 cc) i1 rfl λi2 i3 m1 a7=>?_⟩;have a5:ai e0 i2:=i0.new i3 λn P=>.inr (by have P:n=e0.heap.size:=P;omega);have b6:=e1.then a5;have e9:=b6.get gx id;refine⟨_,_,_,ae e9 rfl,_,_,_,_,_,_,ae a7 rfl,ae a7 rfl,ae a7 rfl,ae a7 rfl,PA.mk λi4 e5 m2 i5=>?_⟩;have a1:=b6.then e5;have f0:=(c3.af a5).af e5;have m3:=c3.len dC;have a8:Row jq 32 i4 Fm Z a0 J.bH:=f0.row dC (by
    obtain⟨_,_,_,_,_,_,_,_,_,_,hq,a8,_⟩:=(W.af p).el f J I;have h1:=a8.fe;have h2:=a8.len;rw[<-h2];exact h1)
   refine fH (c:=sF) (x:=J) (o.af a1) UU i5 (D:=Fm) ⟨Z,a0,cc,rfl,a8,b5⟩ (λn P=>⟨by have:=e8 n P;have:=a5.size;omega,λa=>by have:=o.aE n (o.self n a);have:=e2 n P;omega⟩) (by rw[Qy];unfold aT at*;omega) (by rw[Qy];unfold aT at c2;unfold maxLen;omega) λa' c' m4 K f1 c5 c6=>⟨_,_,_,rfl,?_⟩
   have i6:¬aG E=some i.heap.size:=λa=>by have:=H _ (o.self _ a);omega
   have m5:=a1.size;have m6:=c5.size;have b:∀n,K n->C.heap.size<=n:=λn P=>by
    rcases c6 n P with k|k|k
    ·exact H n k
    ·have:=e2 n k;omega
    ·omega
   refine PS.mk (c5.get (a1.get gx id) i6) sM λm7 e7 m8 i7=>⟨_,oM,f+1,an (by unfold aT at c2;omega),oM,rfl,((q.af a1).new c5 λn P=>.inr (H n (o.self n P))).then e7,a',F+1,c',K,i7,?_,b⟩
   rw[Qw,I];exact f1.keep e7 λn P a=>by have a:n=i.heap.size:=a;have:=b n P;omega
  ·rw[Qz oM]at o
   have i8:aj (·=i.heap.size) C d8:=q;have b7:=q.get (p.get T id) λa=>by have a:e.heap.size=i.heap.size:=a;have:=aA T;omega
   refine⟨_,_,_,ae b7 rfl,_,_,_,ae gx rfl,PA.mk λi9 c7 m9 j0=>?_⟩;have a6:ai S i9:=(p.new q λn P=>.inr (by have P:n=i.heap.size:=P;omega)).then c7;refine fH (c:=nq) (x:=m) (l.af a6) Qm j0 (D:=Y) ⟨E,F,X,rfl,(o.af c7).row dC (by rw[<-h0];exact c2)⟩ (λn P=>⟨by have:=o.aE n P;omega,λa=>by have:=l.aE n (l.self n a);have:=H n P;omega⟩) (by rw[Qy];unfold aT at*;omega) (by rw[Qy];unfold aT at b8;unfold maxLen;omega) λa' c' n0 K f2 c8 c6=>⟨_,_,_,rfl,?_⟩
   have j1:¬aG N=some e.heap.size:=λa=>by have:=B _ (l.self _ a);omega
   have n1:=a6.size;have n2:=c8.size;have b:∀n,K n->r.heap.size<=n:=λn P=>by
    rcases c6 n P with k|k|k
    ·exact B n k
    ·have:=H n k;omega
    ·omega
   refine PS.mk (c8.get (c7.get b7 id) j1) sM λn3 c1 n4 j2=>⟨_,oM,h+1,an (by unfold aT at b8;omega),oM,rfl,((s.af a6).new c8 λn P=>.inr (B n (l.self n P))).then c1,a',O+1,c',K,j2,?_,b⟩
   rw[Qw,V];exact f2.keep c1 λn P a=>by have a:n=e.heap.size:=a;have:=b n P;omega
 ·rw[Qz oM]at l
  have z5:=y.size;have f5:=s.get gr λa=>by have a:M.heap.size=e.heap.size:=a;omega
  have f7:=((a9.af z).keep s λn P a=>by have a:n=e.heap.size:=a;have:=b9 n P;omega)
  refine⟨_,_,_,_,_,_,ae T rfl,ae T rfl,PS.mk f5 sM λn8 c9 n9 j3=>PS.mk j3 sM λo0 d0 o1 f3=>⟨_,_,_,_,_,_,ae f3 rfl,ae f3 rfl,Ok.mk ⟨_,_,_,_,_,_,λn=>Q n\/aG c=some n,rfl,⟨?_,?_⟩,?_,?_⟩⟩⟩
  ·exact(((l.row (bytes:=24) dC (by rw[<-f4];exact b8)).keep (c9.then d0) λn P a=>by have a:n=M.heap.size:=a;have:=B n P;omega)).mono λn P=>.inl P
  ·exact(((f7.row (bytes:=40) dC (by rw[<-f6];exact f8)).keep (c9.then d0) λn P a=>by have a:n=M.heap.size:=a;have:=b9 n P;omega)).mono λn P=>.inr P
  ·rintro n (P|P)
   ·have:=B n P;have:=l.aE n P;have:=x.size;have:=b0.size;omega
   ·have:=b9 n P;have:=x.size;omega
  ·exact U.new (c9.then d0) λn P=>.inr (by have P:n=M.heap.size:=P;have:=k4.size;omega)
end
section
variable {w w':World} {D D' S:LL} {d:aS} {ta pa:ac} {tn tc pn pc:Nat}
def tJ(n:bu):Bool:=if n.kind==4 then !within n.bH.length 1 16 else decide (0<n.bH.length)
def CM(n:List bu):Bool:=!within n.length 1 8||n.any tJ
def JY{n:j->Bool}{P:List j}{b:j}(c:P[a]? =some b)(d:(P.take a).any n=false)(e:n b=false):(P.take (a+1)).any n=false:=by
 rw[Qw,c,List.any_append,d];simp[e]
def MB{P:j->Bool}{b:List j}{n:j}(c:b[a]? =some n)(d:P n=true):b.any P=true:=List.any_eq_true.2 ⟨n,QZ c,d⟩
def fW{e:Type}{f:e->Int}:∀{P:List e} {a:Nat} {b:e},P[a]? =some b->cJ f (P.take a)=0->cJ f (P.take (a+1))=f b
 |[],a,b,n,_=>by simp at n
 |y::P,0,b,n,_=>by simp at n;subst n;simp[cJ];intro n;exact n.symm
 |y::P,a+1,b,n,c=>by
  simp only[Zw,cJ]at c⊢;split at c
  ·rename_i d;simp at d;exact Zz c d
  ·rename_i d;rw[Zq d];exact fW (by simpa using n) c
def pC{a:Type}{P:a->Int}:∀{l:List a} {j:Nat},cJ P (l.take j)≠0->cJ P l=cJ P (l.take j)
 |[],j,n=>by simp at n⊢
 |y::l,0,n=>by simp[cJ]at n
 |y::l,j+1,n=>by
  simp only[Zw,cJ]at n⊢;split
  ·rfl
  ·rename_i b;rw[Zq b]at n;exact pC n
def JZ(b:bt w D d ta tn pa pn):am 66 #[.agg #[.slice ta tn tc,.slice pa pn pc]] w (Ok λc w'=>c= .bool (rX d)/\ai w w'):=by
 have r:=b.aZ.len;have s:=b.aZ.fe;have hp:=b.FP.len;unfold aT at s;refine DA (PA.mk λY t s1 u=>⟨_,_,_,ae u rfl,PC.ok cB ?_⟩);rintro _ _ ⟨rfl,rfl⟩;refine⟨_,rfl,al.not (al.mk (λg=>⟨_,_,_,ae u rfl,al.dec (λZ=>Ok.mk ⟨?_,t⟩) (λZ=>⟨_,_,_,ae u rfl,λh j w'=>∃P:Nat,j=P/\P<=tn/\h=tn-P/\(d.types.take P).any CM=false/\ai Y w',⟨_,0,rfl,Qj _,rfl,sM,aj.refl _⟩,?_⟩)⟩) (λg=>Ok.mk ⟨?_,t⟩))⟩
 ·unfold rX;rw[<-r,g,Zx (by simp;omega)]
 rotate_left
 ·unfold rX;rw[<-r,g];rfl
 have v:rX d=d.types.any CM:=by unfold rX CM tJ;rw[<-r,g,Zq (by simp;omega)]
 rintro h j _ w2 ⟨P,rfl,hj,rfl,x,K⟩;have k:=t.then K;refine al.dec (λa8=>?_) (λa9=>?_)
 rotate_left
 ·rw[Qz oM]at x
  exact Ok.mk ⟨by rw[v,x],k⟩
 obtain⟨y,z,A,es,rfl,_,_,B,e,a2,f,c1,rfl,C⟩:=((b.af k).aZ).Ie (i:=P) oM;have L:=C.len;have a0:=C.fe;unfold aT at a0;have M:=e 0 dC;simp only[nq,Nat.mul_one,Nat.add_zero]at M;refine⟨y,z,rfl,oM,oM,_,_,_,M,PA.mk λw3 k3 s3 g3=>PS.mk g3 sM λl k4 s4 N=>⟨_,_,_,ae N rfl,PC.ok cB ?_⟩⟩;rintro _ _ ⟨rfl,rfl⟩;have m:ai w2 l:=k3.new k4 λy s=>.inr oM;have E:CM A=true->Ok (λc w'=>c= .bool (rX d)/\ai w w') (.returned (.bool true)) l:=λn=>Ok.mk ⟨by rw[v,MB B n],k.then m⟩;refine⟨_,rfl,al.not (al.mk (λF=>⟨_,_,_,ae N rfl,λh j w'=>∃i:Nat,j=i/\i<=f/\h=f-i/\(A.take i).any tJ=false/\ai l w',⟨_,0,rfl,Qj _,rfl,sM,aj.refl _⟩,?_⟩) (λF=>E (by unfold CM;rw[<-L,F];rfl)))⟩;rintro m' t' _ w5 ⟨i,rfl,hi,rfl,H,o⟩;have a3:=(k.then m).then o;refine al.dec (λa6=>?_) (λa7=>?_)
 rotate_left
 ·rw[Qz oM]at H
  exact⟨_,oM,P+1,an oM,oM,rfl,JY B x (by unfold CM;rw[<-L,F,H];rfl),(K.then m).then o⟩
 obtain⟨b2,a1,p,b0,rfl,_,_,O,a4,Q,R,S,rfl,T,b1,b3⟩:=((C.af m).af o).Ie (i:=i) oM;have U:=T.len;have a5:=T.fe;unfold aT at a5;refine⟨b2,a1,rfl,oM,oM,ck (gJ p Q R S) rfl a4 (PA.mk λw6 k6 s6 g6=>aC (gJ p Q R S) g6 rfl λI k7 s7 J=>⟨_,ae J rfl,?_⟩)⟩;have V:ai w5 I:=k6.new k7 λy s=>.inr oM;have W:tJ p=true->Ok (λc w'=>c= .bool (rX d)/\ai w w') (.returned (.bool true)) I:=λn=>Ok.mk ⟨by rw[v,MB B (by unfold CM;rw[MB O n];simp)],a3.then V⟩;have next:tJ p=false->∃X,X<f-i/\∃q:Nat,IntKind.wrap .i64 ((i:Int)+1)=q/\q<=f/\X=f-q/\(A.take q).any tJ=false/\ai l I:=λn=>
  ⟨_,oM,i+1,an oM,oM,rfl,JY O H n,o.then V⟩
 refine al.eL (λa=>⟨_,_,_,ae J rfl,PC.ok cB ?_⟩) (λa=>al.not (al.eL (λe=>Zz e a) (λ_=>⟨_,_,_,ae J rfl,al.dec (λb=>W ?_) (λb=>next ?_)⟩)))
 ·rintro _ _ ⟨rfl,rfl⟩
  refine⟨_,rfl,al.not (al.mk (λn=>al.not (al.eL (λ_=>next ?_) (λe=>Zz a e))) (λn=>W ?_))⟩
  ·unfold tJ;rw[a,<-U,n];rfl
  ·unfold tJ;rw[a,<-U,n];rfl
 ·unfold tJ;rw[Zq (by simpa using a)];simp only[Zk];omega
 ·unfold tJ;rw[Zq (by simpa using a)];simp only[decide_eq_false_iff_not];omega
def Ho(hT:fr w)(f:bt w D d ta tn pa pn)(hD:∀P,D P->P<w.heap.size):
  am 40 #[.agg #[.slice ta tn tc,.slice pa pn pc]] w (Ok λB w'=>B= ZT (di d)/\ai w w'):=by
 have hl:=f.aZ.len;have e:=f.aZ.fe;have b1:=f.FP.len;have a6:=f.FP.fe;unfold aT at e a6;refine Bn (PA.mk λw1 U s1 C=>⟨_,_,_,_,_,_,ae C rfl,ae C rfl,PC.ok (JZ (f.af U)) ?_⟩);rintro _ w2 ⟨rfl,V⟩;have W:=U.then V;have X:=V.get C id;refine⟨_,rfl,al.mk (λt=>Ok.mk ⟨by unfold di;rw[t];rfl,W⟩) (λt=>⟨_,_,_,ae X rfl,λj a w'=>∃n:Nat,a=n/\n<=tn/\j=tn-n/\cJ (λa=>cJ (fG a) a) (d.types.take n)=0/\ai w2 w',⟨_,0,rfl,Qj _,rfl,rfl,aj.refl _⟩,?_⟩)⟩;rintro j a _ Y ⟨n,rfl,hj,rfl,u,E⟩;have v:=W.then E;have Z:=E.get X id;have F:∀{w':World},ai w w'->∀n b,d.types[n]? =some b->cJ (λa=>cJ (fG a) a) (d.types.take n)=0->∀x:Int,cJ (fG b) b=x->x≠0->Ok (λB w'=>B= ZT (di d)/\ai w w') (.returned (ZT x)) w':=by
  intro w' a2 n b y h0 x hr h;have k:=fW y h0;rw[hr]at k;have h2:=pC (l:=d.types) (j:=n+1) (by rw[k];exact h);refine Ok.mk ⟨?_,a2⟩;unfold di;rw[t,h2,k];simp[h]
 refine al.dec (λb2=>?_) (λb3=>⟨_,_,_,ae Z rfl,λj a w'=>∃i:Nat,a=i/\i<=pn/\j=pn-i/\cJ (mD d) (d.projs.take i)=0/\ai Y w',⟨_,0,rfl,Qj _,rfl,rfl,aj.refl _⟩,?_⟩)
 ·obtain⟨P,H,I,es,rfl,_,_,y,hc,b4,n1,c1,rfl,z⟩:=((f.af v).aZ).Ie (i:=n) oM
  have b5:=z.len;have a7:=z.fe;unfold aT at a7;have a0:=hc 0 dC;simp only[nq,Nat.mul_one,Nat.add_zero]at a0;refine⟨P,H,rfl,oM,oM,_,_,_,a0,PA.mk λw4 o s4 g4=>PS.mk g4 sM λJ K s5 A=>⟨_,_,_,ae A rfl,λj a w'=>∃i:Nat,a=i/\i<=n1/\j=n1-i/\cJ (fG I) (I.take i)=0/\ai J w',⟨_,0,rfl,Qj _,rfl,rfl,aj.refl _⟩,?_⟩⟩;have a8:ai Y J:=o.new K λP e=>.inr oM;rintro m' t' _ L ⟨i,rfl,hi,rfl,c,l⟩;have p:=a8.then l;refine al.dec (λa3=>?_) (λa9=>?_)
  ·obtain⟨M,N,b,b0,rfl,_,_,m,O,Q,R,S,rfl,hM,b6,b7⟩:=(z.af p).Ie (i:=i) oM
   refine⟨M,N,rfl,oM,oM,ck (gJ b Q R S) rfl O (PA.mk λw7 g s7 g7=>aC (gJ b Q R S) g7 rfl λw8 q s8 g8=>⟨_,_,_,ae (q.get (g.get (l.get A id) id) (by have:=l.size;omega)) rfl,au (gJ b Q R S) g8 (PC.ok (Hu (hT.af ?_) (z.af ?_) (hM.af ?_)) ?_)⟩)⟩
   ·exact(v.then p).then (g.new q λP e=>.inr oM)
   ·exact p.then (g.new q λP e=>.inr oM)
   ·exact g.new q λP e=>.inr oM
   ·rintro _ w9 ⟨rfl,k9⟩
    have a4:ai L w9:=aj.then (g.new q λP e=>.inr oM) k9;refine⟨_,rfl,al.eM (λh=>?_) (λT=>⟨_,oM,i+1,an oM,oM,rfl,by rw[fW m c];exact T,l.then a4⟩)⟩;have k:=fW m c;exact F ((v.then p).then a4) n I y u _ (by rw[pC (j:=i+1) (by rw[k];exact h),k]) h
  ·rw[Qz oM]at c
   refine⟨_,oM,n+1,an oM,oM,rfl,by rw[fW y u];exact c,E.then p⟩
 ·rw[Qz oM]at u
  rintro m' t' _ w4 ⟨i,rfl,hi,rfl,c,o⟩;have r:=v.then o;have a1:di d=cJ (mD d) d.projs:=by unfold di;rw[t,u];simp
  refine al.dec (λa3=>?_) (λa9=>?_)
  ·obtain⟨M,N,b,b0,rfl,_,_,m,O,rfl,_⟩:=((f.af r).FP).Ie (i:=i) oM
   refine⟨M,N,rfl,oM,oM,ck (qy b) rfl O (PA.mk λJ K s5 A=>aC (qy b) A rfl λL l s6 g6=>?_)⟩;have s:ai w4 L:=K.new l λP e=>.inr oM;have a5:=s.get (o.get Z id) id;refine⟨_,_,_,_,_,_,ae a5 rfl,ae a5 rfl,au (qy b) g6 (PC.ok (Hv (f.af (r.then s)) λP e=>by have:=hD P e;have:=(r.then s).size;omega) ?_)⟩;rintro _ w7 ⟨rfl,g⟩;refine⟨_,rfl,al.eM (λh=>Ok.mk ⟨?_,(r.then s).then g⟩) (λT=>⟨_,oM,i+1,an oM,oM,rfl,by rw[fW m c];exact T,(o.then s).then g⟩)⟩;rw[a1,pC (j:=i+1) (by rw[fW m c];exact h),fW m c]
  ·rw[Qz oM]at c
   exact Ok.mk ⟨by rw[a1,c],r⟩
end
def cz(n:bS)(P:Int):Int×bk:=
 if di n.decl≠0 then(di n.decl,(Cf n).2)else if fD n P=false then(1,(Cf n).2)else Cf n
def Wi(a:World)(P:bS)(n:Int)(b:Value)(c:World):Prop:=ai a c/\
 (((cz P n).1≠0/\b= .tuple #[.pointer none,ZT (cz P n).1])\/
  ((cz P n).1=0/\∃d e,b= .tuple #[L2 d,ZT 0]/\bV c d e P n (cz P n).2/\(∀f,e f->a.heap.size<=f)/\(cz P n).2.S.l.length<=16777216))
section
variable {w w' w0 w1 w2:World} {p:Nat} {F E D:LL} {c:bS} {self:Int}
def Tx(hT:fr w0)(hL:Laid w0)(A:ai w0 w){tn Q B R:Nat}(hd:bt w D c.decl d tn v B)(hD:∀n,D n->n<w.heap.size)(hs:aM c.bh)(d4:aM c.every)(d5:aM c.start):
  am 19 #[xg c d tn Q v B R,ZT self] w (Ok (Wi w c self)):=by
 refine Dx (PA.mk λf4 C f6 E=>⟨_,_,_,_,_,_,ae E rfl,ae E rfl,PC.ok (Ho (hT.af (A.then C)) (hd.af C) λn P=>by have:=hD n P;omega) ?_⟩);rintro _ d6 ⟨rfl,b8⟩;have a3:=C.then b8;have b9:d6.heap[w.heap.size]? =some (.cells (eT c d tn Q v B R).toArray 27 (0,0)):=b8.get E id;refine⟨_,rfl,al.eM (λj=>Ok.mk ⟨a3,.inl ?_⟩) (λS=>au (Iq c d tn Q v B R) b9 (PC.ok Px ?_))⟩
 ·have:cz c self=(di c.decl,(Cf c).2):=by unfold cz;rw[Zx j]
  rw[this];exact⟨j,rfl⟩
 rintro _ T ⟨rfl,c1⟩;have F:=a3.then c1;have U:=c1.get b9 id;refine⟨_,rfl,al.not (al.mk (λl=>?_) (λl=>Ok.mk ⟨F,.inl ?_⟩))⟩
 rotate_left
 ·have:cz c self=(1,(Cf c).2):=by unfold cz;rw[Zq (by simpa using S),Zx l]
  rw[this];exact⟨show(1:Int)≠0 by decide,rfl⟩
 have a4:cz c self=Cf c:=by unfold cz;rw[Zq (by simpa using S),Zq (by rw[l];simp)]
 have c2:jU c self:=⟨l,S,hs,d4,d5⟩
 have c3:=l;unfold fD within at c3;simp only[QK,Zk]at c3;refine⟨_,ae U rfl,PC.ok (tO (A.then F) oM oM) ?_⟩;rintro _ c4 ⟨dp,rfl,d7,V⟩;obtain⟨Fd,c5,-,d8,-⟩:=d7;have H:∀n,Fd n->T.heap.size<=n/\n<c4.heap.size:=λn P=>⟨Nat.le_of_not_lt (d8 n P).2,c5.aE n P⟩
 have W:=F.then V;have X:=V.get U id;refine⟨_,_,rfl,al.eM (λj=>Zz rfl j) (λ_=>⟨_,_,_,_,_,_,ae X rfl,ae X rfl,PC.ok (Ms (hd.af W) λn P=>by have:=hD n P;have:=W.size;omega) ?_⟩)⟩;rintro _ c6 ⟨m,Nc,o,p,q,r,I,rfl,d9,J,K⟩;have c7:=W.then K;have e0:=K.get X id;have f8:=C.size;have g1:=F.size;have g2:=V.size;have g3:=K.size;have g4:=aA E;have e9:w.heap.size<T.heap.size:=aA U;refine⟨_,_,_,_,_,_,rfl,PS.mk e0 (by simp[eT]) λg5 e1 g6 e2=>PS.mk e2 (by simp[eT]) λY e3 g7 e4=>λs c8=>?_⟩;have Z:aj (λn=>n=w.heap.size) c6 Y:=e1.then e3;have L:ai Y s:=c8.keep;have g8:s.heap.size=Y.heap.size:=by rw[c8.heap]
 have b:s.heap[w.heap.size]? =some (.cells (eT c m Nc o p q r).toArray 27 (0,0)):=L.get e4 id;have c9:ai w s:=(c7.new Z λn P=>.inr (by have P:n=w.heap.size:=P;omega)).then L;have g:∀{n:Nat},T.heap.size<=n->n≠w.heap.size:=λ{n} P=>by omega
 refine⟨λ_=>False,id,_,_,_,_,_,_,_,_,_,_,_,_,_,_,ae b rfl,ae b rfl,ae b rfl,ae b rfl,ae b rfl,ae b rfl,ae b rfl,ae b rfl,ae b rfl,ae b rfl,_,ae b rfl,id,_,ae b rfl,PC.ok (Kv oM) ?_⟩;rintro _ e5 ⟨h,rfl,d0,f2,f3,b4⟩;refine⟨_,rfl,b4,PC.ok JK ?_⟩;rintro _ f ⟨tp,M,rfl,a5,N,d1⟩;have g9:=b4.size;have h2:=N.size;have d2:=a5.aE;refine⟨_,rfl,N,PA.mk λb5 O h3 e6=>⟨O,?_⟩⟩
 let e:kj:=⟨m,Nc,o,p,q,r,dp,none,0,0,h,tp⟩
 let a2:bk:=⟨⟨c.aD.toNat,[]⟩,gO c.uJ.toNat,none,[],⟨c.de,[],[]⟩⟩
 have d3:b5.heap[f.heap.size]? =some (.cells (yk e c self none none none) 105 (0,0)):=e6;have a0:ai s b5:=(b4.then N).then O;have a1:=c9.then a0;have b6:∃t,bb b5 (λn=>∃k,(match k with|0=>n=f.heap.size|1=>I n|2=>Fd n|5=>n=h|6=>M n|_=>False:Prop)) t (recC f.heap.size (yk e c self none none none) e c a2 false):=by
  refine bb.join (G:=λk n=>match k with|0=>n=f.heap.size|1=>I n|2=>Fd n|5=>n=h|6=>M n|_=>False) (λk=>?_) (λi a9 n a hj=>?_) λk n P=>?_
  ·match k with
   |0=>exact⟨rfl,d3⟩
   |1=>exact(((d9.keep Z λn P u=>g (by have:=J n P;omega) u).af L).af a0)
   |2=>exact⟨Fd,((((c5.keep K λ_ _ e=>e).keep Z λn P u=>g (H n P).1 u).keep L λ_ _ e=>e).keep a0 λ_ _ e=>e),λn P=>P,rfl⟩
   |3=>intro u;cases u
   |4=>trivial
   |5=>exact⟨_,_,d0.af (N.then O),λ_ e=>e,λn P=>P.elim⟩
   |6=>exact a5.af O
   |k+7=>trivial
  ·have x:∀i:Nat,(match i with|0=>n=f.heap.size|1=>I n|2=>Fd n|5=>n=h|6=>M n|_=>False:Prop)->i=(if n<c4.heap.size then 2 else if n<c6.heap.size then 1 else if n<e5.heap.size then 5 else if n<f.heap.size then 6 else 0):=λi a=>by
    rcases i with _|_|_|_|_|_|_|i
    ·have a:n=f.heap.size:=a
     rw[Zq oM,Zq oM,Zq oM,Zq oM]
    ·have:=J n a;rw[Zq oM,Zx oM]
    ·have:=H n a;rw[Zx oM]
    ·exact a.elim
    ·exact a.elim
    ·have a:n=h:=a
     rw[Zq oM,Zq oM,Zx oM]
    ·have h5:=d1 n a;have h6:=d2 n a;rw[Zq oM,Zq oM,Zq oM,Zx oM]
    ·exact a.elim
   rw[x i a,<-x a9 hj]
  ·rcases k with _|_|_|_|_|_|_|k
   ·have P:n=f.heap.size:=P
    omega
   ·have:=J n P;omega
   ·have:=H n P;omega
   ·exact P.elim
   ·exact P.elim
   ·have P:n=h:=P
    omega
   ·have:=d2 n P;omega
   ·exact P.elim
 obtain⟨t,hp⟩:=b6;have b7:∀n,(∃k,(match k with|0=>n=f.heap.size|1=>I n|2=>Fd n|5=>n=h|6=>M n|_=>False:Prop))->w.heap.size<=n:=λn ⟨k,P⟩=>by
  rcases k with _|_|_|_|_|_|_|k
  ·have P:n=f.heap.size:=P
   omega
  ·have:=J n P;omega
  ·have:=H n P;omega
  ·exact P.elim
  ·exact P.elim
  ·have P:n=h:=P
   omega
  ·have:=d1 n P;omega
  ·exact P.elim
 refine PC.ok (yV (h:=e) (z1:=none) (z2:=none) (z3:=none) hp c2 ⟨hT,hL,A.then a1,λn P=>by have:=b7 n P;have:=A.size;omega⟩) ?_;rintro _ e7 ⟨rfl,a6,h',F',y,z,a7⟩;have e8:fz c a2=Cf c:=rfl;rw[e8]at z a6⊢;have a8:ai w e7:=a1.new a7.keep λn P=>.inr (b7 n P);refine⟨_,rfl,al.eM (λj=>Ok.mk ⟨a8,.inl ?_⟩) (λhz=>Ok.mk ⟨a8,.inr ?_⟩)⟩
 ·rw[a4];exact⟨j,rfl⟩
 ·rw[a4]
  exact⟨hz,_,F',rfl,⟨c2,h',y,z⟩,λn P=>(a7.new n P).elim (b7 n) λh5=>by have:=a1.size;omega,a6⟩
end
def Mt(n:World):(callMethod (.iface 103 (L2 a)) "State" #[ZT e,ZT l]).run WP n= .ok (.enter 402 #[L2 a,ZT e,ZT l]) n:=kR
def Hp(n:World):(callMethod (.iface 103 (L2 a)) "Entries" #[]).run WP n= .ok (.enter 400 #[L2 a]) n:=kR
def Py(n:World):(callMethod (.iface 103 (L2 a)) "Rows" #[ZT e]).run WP n= .ok (.enter 401 #[L2 a,ZT e]) n:=kR
def VE(n:aS)(P:List ah)(a b:Int):iB:=match(bW n P).state a b with
 |none=>bL 14
 |some c=>⟨0,(0,0),c,[],[],false⟩
def Bg(a:aS)(b:List ah)(P n:Int):iB:=if P<0\/P>=(a.projs.length:Int)then bL 1 else⟨0,(0,0),⟨0,[]⟩,[],(ox (jo a b P) n 32).1,(ox (jo a b P) n 32).2⟩
section
variable {w w' w0 w1 w2:World} {p:Nat} {F E D:LL} {cls:Nat->Nat} {h:kj} {c:bS} {self:Int} {X:bk}
def CG(n:cP w F cls p h c self X):am 89 #[L2 p] w (Ok λP w'=>P= .iface 103 (L2 h.bp)/\w=w'):=
 oQ ⟨p,0,rfl,_,ae n.bw rfl,Ok.mk ⟨rfl,rfl⟩⟩
def Tv(x:bV w p F c self X):am 55 #[L2 p,ZT e,ZT l] w (Ok λy w'=>fR w (VE c.decl X.S.l e l) y w'/\ai w w'):=by
 obtain⟨z,h,cls,o⟩:=x;refine qd (PA.mk λA b S B=>PC.ok (CG (cP.af o b)) ?_);rintro _ _ ⟨rfl,rfl⟩;have C:=cP.af o b;have n:dd A h.bp (λP=>F P/\cls P=4) c.decl c.every.toNat X.S.l:=C.at' 4;refine⟨_,rfl,_,_,Mt,PC.ok (Ku n) ?_⟩;rintro _ q ⟨g,i,j,G,rfl,k,r,d⟩;have E:=k.aE;have T:=d.size;refine⟨_,_,_,_,_,rfl,PA.mk λU H V I=>PS.mk I sM λW J Y K=>PS.mk K sM λL M Z m=>?_⟩;have a:ai q L:=H.new (J.then M) λP n=>.inr (by have n:P=q.heap.size:=n;omega);have s:=a.get (d.get B id) id;have b0:=a.size;have t:(((bW c.decl X.S.l).state e l).getD HD).cells.length<=8:=Ej (HO z.decl X.S.l).1 ⟨0,0,0,[],e,l,0,0,0,0⟩;unfold VE
 cases N:(bW c.decl X.S.l).state e l with
 |none=>
  refine al.tt rfl (aC (iK (bL 14) none 0 0 none 0 0 none 0 0) s rfl λb1 O b2 Q=>au (iK (bL 14) none 0 0 none 0 0 none 0 0) Q (Ok.mk ⟨fR.plain rfl rfl rfl,?_⟩));exact((b.then d).then a).new O λP n=>.inr (by have n:P=w.heap.size:=n;omega)
 |some f=>
  rw[N]at k t m;refine al.ff rfl ⟨_,_,_,_,ae m rfl,ae m rfl,aC (iK ⟨0,(0,0),f,[],[],false⟩ g i j none 0 0 none 0 0) s rfl λb3 u b4 R=>au (iK ⟨0,(0,0),f,[],[],false⟩ g i j none 0 0 none 0 0) R (Ok.mk ⟨?_,?_⟩)⟩
  ·refine⟨g,i,j,none,0,0,none,0,0,G,rfl,((k.af a).keep u λP n v=>by have v:P=w.heap.size:=v;have:=r P n;omega).row dC (by have:f.cells.length<=8:=t;show f.cells.length*32<=aT;unfold aT;omega),dy _ _,dy _ _,λP n=>⟨by have:=r P n;omega,by have:=E P n;omega⟩⟩
  ·exact((b.then d).then a).new u λP n=>.inr (by have n:P=w.heap.size:=n;omega)
def Pz(a:aS)(n:List ah)(b:Int):(jo a n b).length<=n.length:=by
 unfold jo;split
 ·simp
 split
 ·simp
 ·rename_i P c
  have e:=MO a n P (QZ c);have d:=(yj (P.rows.map (·.2))).length_eq;rw[Q8]at d;show(P.rows.map (·.2)|>.foldr nd []).length<=_;omega
def Oi(A:bV w p F c self X):am 56 #[L2 p,ZT e,ZT l] w (Ok λd w'=>fR w (Bg c.decl X.S.l e l) d w'/\ai w w'):=by
 obtain⟨R,h,cls,B⟩:=A;refine nQ (PA.mk λf g S r=>?_);have a:=cP.af B g;have no:(e<0\/e>=(c.decl.projs.length:Int))->ni WP 53 (L2 w.heap.size) (.agg (fQ (bL 1) none 0 0 none 0 0 none 0 0).toArray) f λs=>js WP 53 (L2 w.heap.size) s λC=>Ok (λd w'=>fR w (Bg c.decl X.S.l e l) d w'/\ai w w') (.returned C) s:=λE=>by
  refine aC (iK (bL 1) none 0 0 none 0 0 none 0 0) r rfl λT H U I=>au (iK (bL 1) none 0 0 none 0 0 none 0 0) I (Ok.mk ⟨?_,g.new H λn P=>.inr (by have P:n=w.heap.size:=P;omega)⟩);unfold Bg;rw[Zx E];exact fR.plain rfl rfl rfl
 have V:=(show bt f (λn=>F n/\cls n=1) c.decl h.ta h.tn h.pa h.pn from a.at' 1).FP.len;refine al.dec (λi=>no (.inl i)) (λi=>⟨p,0,rfl,_,_,_,ae a.bw rfl,al.dec (λt=>no (.inr oM)) (λt=>PC.ok (CG a) ?_)⟩);rintro _ _ ⟨rfl,rfl⟩;have P:dd f h.bp (λn=>F n/\cls n=4) c.decl c.every.toNat X.S.l:=a.at' 4;have W:X.S.l.length<=20000000:=P.1.2.2.2;have Y:=Pz c.decl X.S.l e;refine⟨_,rfl,_,_,Py,PC.ok (NW P) ?_⟩;rintro _ Z ⟨⟨a0,a1,cc,G,rfl,b,j,hG⟩,J⟩;have hn:=b.len dC;have K:=b.lv;refine⟨_,_,_,rfl,PC.ok (Mn (b.row dC (by unfold aT;omega)) b.aE K J oM) ?_⟩;rintro _ L ⟨a2,rfl,k,m,o,M,rfl,u,q,v⟩;have N:=u.aE;have a9:=j.size;have b0:=q.size;have b1:(ox (jo c.decl X.S.l e) l 32).1.length<=32:=by unfold ox;rw[Qy];omega
 have O:ai w L:=(g.then j).then q;refine⟨_,_,_,_,rfl,aC (iK ⟨0,(0,0),⟨0,[]⟩,[],(ox (jo c.decl X.S.l e) l 32).1,(ox (jo c.decl X.S.l e) l 32).2⟩ none 0 0 none 0 0 k m o) (q.get (j.get r id) id) rfl λb2 x b3 Q=>au (iK ⟨0,(0,0),⟨0,[]⟩,[],(ox (jo c.decl X.S.l e) l 32).1,(ox (jo c.decl X.S.l e) l 32).2⟩ none 0 0 none 0 0 k m o) Q (Ok.mk ⟨?_,O.new x λn P=>.inr (by have P:n=w.heap.size:=P;omega)⟩)⟩;unfold Bg;rw[Zq (by rintro(y|y);exact i y;exact t oM)];refine⟨none,0,0,none,0,0,k,m,o,M,rfl,dy _ _,dy _ _,(u.keep x λn P z=>by have z:n=w.heap.size:=z;have:=v n P;omega).row dC (by show(ox (jo c.decl X.S.l e) l 32).1.length*24<=aT;unfold aT;omega),λn P=>⟨by have:=v n P;omega,by have:=N n P;omega⟩⟩
end
def CZ{a:Type}{b:a->Bool}:∀{L:List a} {j:Nat} {n:a},L[j]? =some n->b n=true->(L.filter b)[((L.take j).filter b).length]? =some n
 |[],j,n,P,_=>by simp at P
 |x::L,0,n,P,c=>by simp at P;subst P;simp[c]
 |x::L,j+1,n,P,c=>by
  have d:=CZ (L:=L) (j:=j) (by simpa using P) c;rw[Zw,List.filter_cons,List.filter_cons];split
  ·simpa using d
  ·exact d
variable{g7:Nat×Nat}
section
variable {w w' wz A B w1:World} {D:LL} {a:ac} {n c:Nat} {l:List cX} {O R1 R2 f most:Nat} {own L:List (Bx cX)} {pre:List (List Value)}
def Vr(a n:Int)(P:cX):Bool:=P.ev.aZ==a&&P.ev.agg==n
def Eg{e:cX}{a:ac}{n c:Nat}(i:Row aP 8 w D a n e.ev.aN)(t:∀P,D P->P<w.heap.size):
  am 149 #[FO e a n c] w (Ok λu w'=>∃a n c G,u=FO e a n c/\Row aP 8 w' G a n e.ev.aN/\(∀P,G P->w.heap.size<=P/\P<w'.heap.size)/\ai w w'):=by
 have v:=i.fe;have x:=i.len;refine zN (PA.mk λw1 m A f=>PA.mk λB g C j=>⟨_,_,_,ae (g.get f id) rfl,PC.ok (bQ (i.af (m.then g)) λP b=>by have:=t P b;omega) ?_⟩);rintro _ E ⟨o,p,q,G,rfl,r,h,k⟩;have f:=h.get (g.get f id) id;have j:=h.get j id;have F:=h.size;refine⟨_,_,_,rfl,PS.mk f sM λH l I y=>?_⟩;refine au (cs:=lu e o p q) (lZ _ _ _ _) y (aC (lZ _ _ _ _) (l.get j (λd=>by have d:w1.heap.size=w.heap.size:=d;omega)) rfl λJ s K z=>au (lZ _ _ _ _) z (Ok.mk ⟨o,p,q,G,rfl,?_,?_,?_⟩))
 ·refine(((r.keep l λP b d=>?_).keep s λP b d=>?_).row (bytes:=8) dC (by rw[<-x];exact v))
  ·have d:P=w.heap.size:=d;have:=k P b;omega
  ·have d:P=w1.heap.size:=d;have:=k P b;omega
 ·intro P b
  have:=k P b;have:=r.aE P b;omega
 ·exact((((m.then g).then h).new l λP b=>.inr (by have b:P=w.heap.size:=b;omega)).new s λP b=>.inr (by have b:P=w1.heap.size:=b;omega))
def PQ{e:cX}{f P:Int}{h i:Nat}(k:w.heap[h]? =some (.cells #[ZT f] g H))(l:w.heap[i]? =some (.cells #[ZT P] r g7)):
  am 148 #[FO e a n c,L2 h,L2 i] w (Ok λm w'=>m= .bool (Vr f P e)/\ai w w'):=by
 refine zM (PA.mk λw1 b o j=>⟨_,ae j rfl,_,ae (b.get k id) rfl,al.mk (λd=>⟨_,ae j rfl,_,ae (b.get l id) rfl,Ok.mk ⟨?_,b⟩⟩) (λd=>Ok.mk ⟨?_,b⟩)⟩)
 ·unfold Vr;rw[d];rfl
 ·unfold Vr;rw[d];rfl
structure Qc (wz:World) (O:Nat) (own:List (Bx cX)) (f most:Nat) (pre:List (List Value)) (A:World):Prop where
 keep:aj (·=O) wz A
 fe:wz.heap.size+2<=A.heap.size
 nh:∃a n c G,A.heap[O]? =some (.cells #[.slice a n c] 50 (0,0))/\aV AH 133 G A a n c (((own.take pre.length).drop f).map (·.x))/\(∀b,G b->wz.heap.size+2<=b)/\n<=most
structure WB (wz:World) (O R1 R2:Nat) (own:List (Bx cX)) (f most:Nat) (A:World):Prop where
 keep:aj (λb=>b=O\/b=R1\/b=R2) wz A
 r2:A.heap[R2]? =some (.cells #[.bool true] 4 (0,0))
 more:most<(own.drop f).length
 nh:∃a n c G,A.heap[R1]? =some (.cells #[.slice a n c] 50 (0,0))/\aV AH 133 G A a n c (((own.drop f).take most).map (·.x))/\(∀b,G b->wz.heap.size+2<=b)
def Qc.af(b:Qc wz O own f most pre A)(P:ai A B):Qc wz O own f most pre B:=by
 obtain⟨d,e,a,n,c,G,g,h,i⟩:=b;exact⟨d.af P,Xx e P.size,a,n,c,G,P.get g id,h.af P,i⟩
def Qc.fg(o:O<wz.heap.size)(h:Qc wz O own f most pre A)(i:qR (wz.heap.size+1) A B):Qc wz O own f most pre B:=by
 obtain⟨j,p,a,n,c,G,k,l,g,m⟩:=h;obtain⟨e,q⟩:=i;exact⟨j.new e λb d=>.inr (by have d:b=wz.heap.size+1:=d;omega),oM,a,n,c,G,e.get k (λP=>by have P:O=wz.heap.size+1:=P;omega),l.keep e λb d P=>by have P:b=wz.heap.size+1:=P;have:=g b d;omega,g,m⟩
def WB.fg(q:O<wz.heap.size/\R1<wz.heap.size/\R2<wz.heap.size)(h:WB wz O R1 R2 own f most A){k:Nat}(r:wz.heap.size<=k/\k<=wz.heap.size+1)(i:qR k A B):WB wz O R1 R2 own f most B:=by
 obtain⟨j,l,m,a,n,c,G,o,p,g⟩:=h;obtain⟨b,s⟩:=i;exact⟨j.new b λd e=>.inr (by have e:d=k:=e;omega),b.get l (λP=>by have P:R2=k:=P;omega),m,a,n,c,G,b.get o (λP=>by have P:R1=k:=P;omega),p.keep b λd e P=>by have P:d=k:=P;have:=g d e;omega,g⟩
def UK{l e:Int}{q s t u:Nat}{R:UV}{Rx:UV}(hO:O<wz.heap.size)(Y:wz.heap[q]? =some (.cells #[ZT l] g H))(Z:wz.heap[s]? =some (.cells #[ZT e] r g7))(h1:q≠O)(h2:s≠O)(v:∃j f,wz.heap[t]? =some (.cells #[.slice a n c] j f))(h3:t≠O)(w:∃j f,wz.heap[u]? =some (.cells #[.func (.func 148) #[] #[L2 q,L2 s]] j f))(h4:u≠O)(I:Row MK.ko 120 wz D a n L)(hD:∀P,D P->P<wz.heap.size/\P≠O)(J:own=L.filter λP=>Vr l e P.x)(b6:L.length<=20000000)(hR:∀A B,R A->aj (oI wz) A B->R B)(hy:∀pre m A,Qc wz O own f most pre A->R A->tW [ZT 0,FO ⟨sG,false,(0,0)⟩ none 0 0] m->(∃P,own[pre.length]? =some P/\m=[ZT (pre.length:Int),FO P.x P.a P.n P.c])->ku WP (wz.heap.size+1) m A λP d=>(P=true/\Qc wz O own f most (pre++[m]) d/\R d)\/(P=false/\WB wz O R1 R2 own f most d/\Rx d))(K:Qc wz O own f most [] w1)(a4:R w1):
  am 214 #[.func (.yield (wz.heap.size+1)) #[] #[],L2 t,L2 u] w1 (λj d=>(∃a0,j= .returned a0)/\((R d/\∃k:List (List Value),Qc wz O own f most k d/\k.length=own.length)\/(WB wz O R1 R2 own f most d/\Rx d))):=by
 obtain⟨e3,f3,v⟩:=v;obtain⟨e4,f4,w⟩:=w;have hn:=I.len;refine vJ ⟨_,_,_,ae (K.keep.get v h3) rfl,λM a1 x w'=>∃(b:Nat) (pre:List (List Value)),x=b/\b<=n/\M=n-b/\a1=(pre.length:Int)/\pre.length=((L.take b).filter λP=>Vr l e P.x).length/\Qc wz O own f most pre w'/\R w',⟨_,0,[],rfl,Qj _,rfl,rfl,rfl,K,a4⟩,?_⟩;rintro M _ _ _ N ⟨b,pre,rfl,hj,rfl,rfl,i,o,Q⟩;refine al.dec (λb7=>?_) (λb8=>?_)
 ·obtain⟨P,h⟩:∃P,L[b]? =some P:=⟨_,Qq oM⟩
  obtain⟨a2,a3,es,ha,a5,a6,y,rfl,-⟩:=(I.keep o.keep λP h=>(hD P h).2).el b P h;have b3:pre.length<=20000000:=by
   rw[i];have h5:=List.length_filter_le (λP:Bx cX=>Vr l e P.x) (L.take b);have h6:=List.length_take_le b L;omega
  refine⟨a2,a3,ha,oM,oM,ck (es:=lu P.x P.a P.n P.c) (k:=13) (lZ _ _ _ _) rfl (λx ht=>by rw[Qx];exact y x ht) (PA.mk λb9 a7 c1 a8=>aC (lZ P.x P.a P.n P.c) a8 rfl λa9 b0 c2 S=>?_)⟩;have T:ai N a9:=a7.new b0 λP h=>.inr (by have h:P=N.heap.size:=h;omega);have z:=o.af T;refine⟨_,ae (z.keep.get w h4) rfl,au (lZ P.x P.a P.n P.c) S ⟨_,_,_,rfl,kR,PC.ok (PQ (z.keep.get Y h1) (z.keep.get Z h2)) ?_⟩⟩;rintro _ b1 ⟨rfl,U⟩;have V:=T.then U;have W:=o.af V;have X:=hR _ _ Q (ai.keep V);refine⟨_,rfl,al.not (al.mk (λp=>?_) (λp=>⟨_,oM,b+1,pre,an oM,oM,rfl,rfl,?_,W,X⟩))⟩
  rotate_left
  ·rw[Qw,h,List.filter_append,i];simp[p]
  refine au (lZ P.x P.a P.n P.c) (U.get S id) ⟨_,rfl,(hy pre _ b1 W X ?_ ⟨P,?_,rfl⟩).mono ?_⟩
  ·exact λφ C=>C pre.length P.x.ev.origin P.x.ev.seq P.x.ev.aB P.a P.n P.c P.x.ev.aZ P.x.ev.agg P.x.ev.field P.x.ev.op P.x.ev.arg P.x.ev.key P.x.void P.x.FN.1 P.x.FN.2
  ·rw[J,i];exact CZ h p
  ·rintro b' d (⟨rfl,E,b5⟩|⟨rfl,F,b2⟩)
   ·refine al.ff rfl ⟨_,oM,b+1,pre++[_],an oM,oM,rfl,?_,?_,E,b5⟩
    ·rw[an oM];simp
    ·rw[Qw,h,List.filter_append,QX,QX,<-i];simp[p]
   ·exact al.tt rfl ⟨⟨_,rfl⟩,.inr ⟨F,b2⟩⟩
 ·rw[Qz oM]at i
  exact⟨⟨_,rfl⟩,.inl ⟨Q,pre,o,by rw[J];exact i⟩⟩
end
section
variable {w w' wz A B w1:World} {D:LL} {a:ac} {n c:Nat} {l:List cX}
def JL{I i f:Int}{most:Nat}(J:Row AH 120 w D a n l)(hD:∀P,D P->P<w.heap.size)(hm:most<=1000)(hl:l.length<=20000000)(k2:aM f):
  am 88 #[.slice a n c,ZT I,ZT i,ZT f,ZT (most:Int)] w (Ok λa6 w'=>∃O,a6= .tuple #[O,.bool (lk l I i f most).2]/\qD AH 133 w (lk l I i f most).1 O w'):=by
 obtain⟨V,c3,hL,e9⟩:=fh.boxes (N:=MK) J;have l0:V.length=l.length:=by rw[<-c3,Q8]
 obtain⟨own,q⟩:∃own,own=V.filter λP=>Vr I i P.x:=⟨_,rfl⟩
 obtain⟨j,hf⟩:∃j:Nat,j=(max f 0).toNat:=⟨_,rfl⟩
 have c7:own.map (·.x)=l.filter λb=>b.ev.aZ==I&&b.ev.agg==i:=by rw[q,<-c3,List.filter_map];rfl
 have f2:lk l I i f most=(((own.drop j).take most).map (·.x),decide (most<(own.drop j).length)):=by
  unfold lk;rw[<-c7,<-hf];simp only[List.map_take,List.map_drop,XZ,Q8]
 rw[f2];have h3:own.length<=20000000:=by rw[q];have:=List.length_filter_le (λP:Bx cX=>Vr I i P.x) V;omega
 refine DO (PA.mk λw6 k6 s6 g6=>PA.mk λv k7 s7 g7=>PA.mk λw8 k8 s8 g8=>PA.mk λk k9 s9 g9=>PA.mk λm a0 l3 f4=>PA.mk λo W l4 f6=>PA.mk λf8 Q l5 g0=>?_);have a7:=(((k8.then k9).then a0).then W).then Q;have c8:=a7.get (show v.heap[w6.heap.size]? =_ from g7) id;have k5:(if 0>(if False then(0:Int)else f)then 0 else f)=(j:Int):=by simp;split<;>omega
 refine⟨_,ae ((((k9.then a0).then W).then Q).get g8 id) rfl,?_⟩;have g1:(if 0>f then(0:Int)else f)=(j:Int):=by rw[hf];split<;>omega
 rw[g1];refine PS.mk ((((k9.then a0).then W).then Q).get g8 id) sM λE K l6 g2=>?_;have c9:E.heap[v.heap.size]? =some (.cells #[ZT (j:Int)] 3 (0,0)):=g2;have d0:ai w f8:=((k6.then k7).then a7)
 have d1:ai w E:=d0.new K λP d=>.inr (by have d:P=v.heap.size:=d;omega);have d2:=K.get ((k7.then a7).get g6 id) (λb=>by have b:w.heap.size=v.heap.size:=b;omega);have d3:=K.get c8 (λb=>by have b:w6.heap.size=v.heap.size:=b;omega);have d6:=K.get (((a0.then W).then Q).get g9 id) (λb=>by have b:w8.heap.size=v.heap.size:=b;omega);have d7:=K.get ((W.then Q).get f4 id) (λb=>by have b:k.heap.size=v.heap.size:=b;omega);have d9:=K.get (Q.get f6 id) (λb=>by have b:m.heap.size=v.heap.size:=b;omega);have e2:=K.get g0 (λb=>by have b:o.heap.size=v.heap.size:=b;omega);refine PC.ok (φ:=λa6 w'=>a6= .func (.func 214) #[] #[L2 E.heap.size,.pointer (some ⟨E.heap.size+1,0,none⟩)]/\w'.heap[E.heap.size]? =some (.cells #[.slice a n c] 50 (0,0))/\(∃b ff,w'.heap[E.heap.size+1]? =some (.cells #[.func (.func 148) #[] #[L2 w.heap.size,L2 w6.heap.size]] b ff))/\ai E w'/\w'.heap.size=E.heap.size+2)
  (Br (PA.mk λw3 k3 s3 g3=>PA.mk λw4 k4 s4 g4=>Ok.mk ⟨by rw[s3],k4.get g3 id,⟨_,_,by rw[<-s3];exact g4⟩,k3.then k4,oM⟩)) ?_
 rintro _ wz ⟨rfl,g5,h0,y,sz⟩;have h:=d1.then y;have a8:=y.get d2 id;have a9:=y.get d3 id;have b0:=y.get d6 id;have b1:=y.get c9 id;have L:=y.get d7 id;have M:=y.get d9 id;have X:=y.get e2 id;have Y:o.heap.size<wz.heap.size:=aA X;have d4:k.heap.size<wz.heap.size:=aA L;have d5:m.heap.size<wz.heap.size:=aA M;have b2:∀P,D P->P<wz.heap.size/\P≠o.heap.size:=λP d=>⟨by have:=hD P d;have:=h.size;omega,λb=>by have:=hD P d;omega⟩
 have e3:∀P∈V,MK.In wz D P:=λP d=>(e9 P d).keep h λ_ _ J=>J;have e4:∀{c0:Nat} {P:Bx cX},own[c0]? =some P->P∈V:=λ{c0 P} d=>by
  have:=QZ d;rw[q]at this;exact(List.mem_filter.1 this).1
 refine⟨_,rfl,214,_,rfl,kR,Unit,(),λ_=>Qc wz o.heap.size own j most,λO _ A=>O= .ret/\WB wz o.heap.size k.heap.size m.heap.size own j most A,
  λe R=>∃P,own[e.length]? =some P/\R=[ZT (e.length:Int),FO P.x P.a P.n P.c],λz=>z.length=own.length,?_,λ_ e A B N t=>N.fg Y t,λO e A B hx t=>⟨hx.1,hx.2.fg ⟨Y,d4,d5⟩ ⟨oM,oM⟩ t⟩,?_,?_,?_,?_,trivial⟩
 ·intro w1 hk hs
  refine⟨ai.keep hk,oM,none,0,0,λ_=>False,hk.get X id,?_,λP d=>d.elim,Qj _⟩;simpa using aV.nil w1
 ·rintro _ e A N l7 l8 l9 m0 m1 ta tn tc m2 m3 m4 m5 m6 m7 m8 m9 n0 ⟨P,d,he⟩
  simp only[lu,aH,List.cons_append,List.nil_append,List.cons.injEq,Value.agg.injEq,Array.mk.injEq,Value.int.injEq,XX,Value.bool.injEq,and_true,true_and]at he;obtain⟨rfl,rfl,rfl,rfl,⟨rfl,rfl,rfl⟩,rfl,rfl,rfl,rfl,rfl,rfl,rfl,rfl,rfl⟩:=he;have n1:e.length<own.length:=(Qv.1 d).1;refine PA.mk λn3 h8 n4 h9=>aC (lZ P.x P.a P.n P.c) h9 rfl λi0 i1 n8 i2=>?_;have c1:ai A i0:=h8.new i1 λP d=>.inr (by have d:P=A.heap.size:=d;omega);refine⟨ai.keep c1,λb3 t=>?_⟩;have c2:=(N.af c1).fg Y t;have i3:=t.1.get i2 (λb=>by have b:A.heap.size=wz.heap.size+1:=b;omega);have n9:=t.2;have Z:=c2.keep;have c4:∀R:List Value,(((own.take (e++[R]).length).drop j)=if e.length<j then []else((own.take e.length).drop j)++[P]):=λR=>by
   rw[QX,List.length_singleton,Qw,d];have i4:(own.take e.length).length=e.length:=by rw[Qy];omega
   split
   ·rename_i r
    exact List.drop_eq_nil_of_le (by rw[QX,i4];simp;omega)
   ·rename_i r
    rw[List.drop_append_of_le_length oM];rfl
  obtain⟨p,x,C,F,S,G,u,s,r,h6⟩:=c2;have a1:=s.len dC;rw[Q8,XZ,Qy,X2 oM]at a1;refine⟨_,ae (Z.get b1 (λb=>by have b:v.heap.size=o.heap.size:=b;omega)) rfl,al.dec (λo0=>⟨aj.refl _,?_⟩) (λo1=>⟨_,_,_,ae u rfl,_,ae (Z.get b0 (λb=>by have b:w8.heap.size=o.heap.size:=b;omega)) rfl,al.dec (λi5=>?_) (λi6=>λd8 i7=>?_)⟩)⟩
  ·refine⟨p,x,C,F,S,G,u,?_,r,h6⟩
   rw[c4,Zx oM];rw[List.drop_eq_nil_of_le (by rw[Qy];omega)]at s;exact s
  ·have e6:F=most:=oM
   have b4:=Z.get L (λb=>by have b:k.heap.size=o.heap.size:=b;omega);have b5:=Z.get M (λb=>by have b:m.heap.size=o.heap.size:=b;omega);refine⟨_,_,_,ae u rfl,PS.mk b4 sM λo2 e0 o3 i8=>PS.mk (e0.get b5 (λb=>by have b:m.heap.size=k.heap.size:=b;omega)) sM λi9 e1 o4 j0=>?_⟩;have T:aj (λP=>P=k.heap.size\/P=m.heap.size) b3 i9:=(e0.mono λP _ b=>.inl b).then (e1.mono λP _ b=>.inr b);have j1:(own.drop j).take most=(own.take e.length).drop j:=by
    rw[<-e6,a1,List.drop_take]
   refine⟨T.mono λP _ d=>⟨by rcases d with rfl|rfl<;>omega,by rcases d with rfl|rfl<;>omega⟩,.inl rfl,rfl,(p.mono λP _ b=>.inl b).then (T.mono λP _ b=>.inr b),j0,by rw[XZ];omega,C,F,S,G,e1.get i8 (λb=>by have b:k.heap.size=m.heap.size:=b;omega),?_,r⟩;rw[j1];exact s.keep T λP d b=>by have:=r P d;rcases b with rfl|rfl<;>omega
  ·have U:ai b3 d8:=i7.keep
   have c5:=(e3 P (e4 d)).keep Z λP d b=>(b2 P d).2 b;have e7:Row aP 8 d8 D P.a P.n P.x.ev.aN:=c5.1.af U;have e8:P.x.ev.Ok:=c5.2;refine⟨λ_=>False,id,_,_,_,ae (U.get u id) rfl,au (lZ P.x P.a P.n P.c) (U.get i3 id) (PC.ok (Eg e7 λP d=>by have:=(b2 P d).1;have:=U.size;omega) ?_)⟩;rintro _ o5 ⟨f0,n2,f1,G2,rfl,j2,b6,b7⟩;have o6:=U.size;have o7:=b7.size;refine⟨_,_,_,_,_,_,_,_,_,_,_,_,_,_,_,rfl,b7,PA.mk λo8 b8 o9 j3=>⟨b8,?_⟩⟩;have a2:=(U.then b7).then b8;refine fH (c:=AH) (x:=P.x) (s.af a2) SP j3 (D:=G2) ⟨f0,n2,f1,rfl,j2.af b8,e8⟩ (λP d=>⟨by have:=b6 P d;omega,λb=>by have:=s.aE P (s.self P b);have:=b6 P d;omega⟩) (by rw[Q8,XZ,Qy];unfold aT;omega) (by rw[Q8,XZ,Qy];unfold maxLen;omega) λa' c' p0 F' f3 b9 j4=>⟨_,_,_,rfl,?_⟩
   have g:∀P,aG C=some P->wz.heap.size+2<=P:=λP d=>r P (s.self P d);have j5:¬aG C=some o.heap.size:=λb=>by have:=g _ b;omega
   have p1:=b9.size;have p2:=a2.size;have H:∀P,F' P->wz.heap.size+2<=P:=λP d=>by
    rcases j4 P d with h7|h7|h7
    ·exact r P h7
    ·have:=b6 P h7;omega
    ·omega
   refine PS.mk (b9.get (a2.get u id) j5) sM λj6 e5 p3 j7=>?_;have T:aj (λP=>aG C=some P\/P=o.heap.size) b3 j6:=((ai.keep a2).then (b9.mono λP _ b=>.inl b)).then (e5.mono λP _ b=>.inr b);refine⟨T.mono λP _ d=>⟨?_,?_⟩,⟨(p.new (T.mono λP _ b=>b) λP d=>d.elim (λb=>.inr (by have:=g P b;omega)) .inl),oM,a',F+1,c',F',j7,?_,H,oM⟩⟩
   ·rcases d with d|rfl
    ·have:=g P d;omega
    ·omega
   ·rcases d with d|rfl
    ·have:=g P d;omega
    ·omega
   ·rw[c4,Zq oM,Q3]
    exact f3.keep e5 λP d b=>by have b:P=o.heap.size:=b;have:=H P d;omega
 ·intro f5 Rx hR _ p4 hy w1 j8 f7
  refine Calls.mono (UK (own:=own) (f:=j) (most:=most) (R:=f5) (Rx:=Rx .ret) (R1:=k.heap.size) (R2:=m.heap.size) Y a8 a9 oM oM ⟨_,_,y.size|>λ_=>g5⟩ oM h0 oM (hL.af h) b2 q oM hR (λe R A N j9 t hN=>(hy () e R A N j9 t hN).mono ?_) j8 f7) ?_
  ·rintro P A' (J|⟨p,O,⟨rfl,x⟩,u⟩)
   ·exact .inl J
   ·exact .inr ⟨p,x,u⟩
  ·rintro b A' ⟨hv,J⟩
   refine⟨hv,?_⟩;rcases J with⟨p,z,x,u⟩|⟨p,x⟩
   ·exact .inl ⟨p,(),z,x,u⟩
   ·exact .inr ⟨.ret,[],⟨rfl,p⟩,x⟩
 ·rintro _ z A N c6 hm
  obtain⟨p,x,C,F,S,G,u,s,r,h6⟩:=N;have a1:=s.len dC;rw[c6,List.take_length]at s;rw[c6,List.take_length,Q8,XZ]at a1;have b4:=p.get L (λb=>by have b:k.heap.size=o.heap.size:=b;omega);have b5:=p.get M (λb=>by have b:m.heap.size=o.heap.size:=b;omega);refine⟨_,_,_,ae u rfl,PS.mk b4 sM λp5 a3 p6 k0=>PS.mk (a3.get b5 (λb=>by have b:m.heap.size=k.heap.size:=b;omega)) sM λp7 a4 p8 k1=>?_⟩;refine⟨a4.get (a3.get hm (λb=>by have b:wz.heap.size=k.heap.size:=b;omega)) (λb=>by have b:wz.heap.size=m.heap.size:=b;omega),λp9 t=>?_⟩;have a5:=t.1;have f9:=a5.get (a4.get k0 (λb=>by have b:k.heap.size=m.heap.size:=b;omega)) (λb=>by have b:k.heap.size=wz.heap.size:=b;omega);have h1:=a5.get k1 (λb=>by have b:m.heap.size=wz.heap.size:=b;omega);refine⟨_,_,_,ae f9 rfl,_,ae h1 rfl,Ok.mk ⟨_,?_,C,F,S,G,rfl,?_,?_,λP d=>by have:=r P d;have:=h.size;omega⟩⟩
  ·rw[Xv (by rw[XZ];omega)]
  ·rw[Qz (by rw[XZ];omega)]
   exact((s.keep a3 λP d b=>by have b:P=k.heap.size:=b;have:=r P d;omega).keep a4 λP d b=>by have b:P=m.heap.size:=b;have:=r P d;omega).keep a5 λP d b=>by have b:P=wz.heap.size:=b;have:=r P d;omega
  ·refine(((h.new p λP d=>.inr (by have d:P=o.heap.size:=d;omega)).new a3 λP d=>.inr (by have d:P=k.heap.size:=d;omega)).new a4 λP d=>.inr (by have d:P=m.heap.size:=d;omega)).new a5 λP d=>.inr (by have d:P=wz.heap.size:=d;have:=h.size;omega)
 ·rintro e A ⟨-,hx⟩ hm
  refine⟨hm,λq0 t=>?_⟩;obtain⟨p,x,h2,C,F,S,G,u,s,r⟩:=hx.fg ⟨Y,d4,d5⟩ ⟨oM,oM⟩ t;refine⟨_,_,_,ae u rfl,_,ae x rfl,Ok.mk ⟨_,by rw[Zy h2],C,F,S,G,rfl,s,?_,λP d=>by have:=r P d;have:=h.size;omega⟩⟩;exact h.new p λP d=>.inr (by rcases d with d|d|d<;>omega)
end
def Ap(P:aS)(a:List ah)(b c n:Int):iB:=⟨0,(0,0),⟨0,[]⟩,(lk (bW P a).entries b c n 32).1,[],(lk (bW P a).entries b c n 32).2⟩
section
variable {w w' w0 w1 w2:World} {p:Nat} {F E D:LL} {cls:Nat->Nat} {h:kj} {c:bS} {self:Int} {X:bk}
def KS(t:bV w p F c self X){b d n:Int}(u:aM n):am 54 #[L2 p,ZT b,ZT d,ZT n] w (Ok λv w'=>fR w (Ap c.decl X.S.l b d n) v w'/\ai w w'):=by
 obtain⟨J,h,cls,l⟩:=t;refine mQ (PA.mk λx e K y=>PC.ok (CG (cP.af l e)) ?_);rintro _ _ ⟨rfl,rfl⟩;have z:=cP.af l e;have P:dd x h.bp (λa=>F a/\cls a=4) c.decl c.every.toNat X.S.l:=z.at' 4;have A:=(wV c.decl X.S.l P.1.2.2.2).1;refine⟨_,rfl,_,_,Hp,PC.ok (FR P) ?_⟩;rintro _ L ⟨M,N,O,G,rfl,m,f,Q⟩;refine⟨_,_,_,rfl,PC.ok (JL (most:=32) (m.row dC (by unfold aT;omega)) m.aE oM A u) ?_⟩;rintro _ B ⟨R,rfl,g,i,j,C,rfl,o,k,q⟩;have E:=o.aE;have S:=f.size;have T:=k.size;have U:(lk (bW c.decl X.S.l).entries b d n 32).1.length<=32:=by unfold lk;rw[Qy];omega
 have H:ai w B:=(e.then f).then k;refine⟨_,_,_,_,rfl,aC (iK (Ap c.decl X.S.l b d n) none 0 0 g i j none 0 0) (k.get (f.get y id) id) rfl λV r W I=>au (iK (Ap c.decl X.S.l b d n) none 0 0 g i j none 0 0) I (Ok.mk ⟨?_,H.new r λa P=>.inr (by have P:a=w.heap.size:=P;omega)⟩)⟩;refine⟨none,0,0,g,i,j,none,0,0,C,rfl,dy _ _,(o.keep r λa P s=>by have s:a=w.heap.size:=s;have:=q a P;omega).row dC (by show(lk (bW c.decl X.S.l).entries b d n 32).1.length*120<=aT;unfold aT;omega),dy _ _,λa P=>⟨by have:=q a P;omega,by have:=E a P;omega⟩⟩

import Derived.Test.YthnilpgpacdmnaaGreatDoorK28
namespace Go.Proofs.YthnilpgpacdmnaaGreatDoor
open Go.au
set_option linter.unusedVariables false
set_option maxRecDepth 20000
variable{a4 g8:List PanicEntry->World->Prop}{f:Nat->Prop}{N m:aj}{B:aw}
section
variable {w w' w0:World} {p:Nat} {F E T:Nat->Prop} {cls:Nat->Nat} {h:iP} {c:cy} {self:Int} {X:bE} {evs lB:List aj} {ea:Option Addr} {en ec:Nat}
theorem Env.sub (b:Env w0 w F) (c:∀a,f a->F a):Env w0 w f:=⟨b.mN,b.laid,b.gr,λa d=>b.aC a (c a d)⟩
theorem OQ (a:B.OK) (c:m∈B.l) (d:N∈B.l) (e:aR m=aR N):m=N:=by
 have b:=a.get c;have f:=a.get d;rw [e,f]at b;exact(XJ b).symm
theorem AX (x:bt w F cls (km p (h.cells c self) h c X lB)) (m:Env w0 w F) (R:∀(y:Nat) (n o:aj),lB[y]? =some n->X.S.l[y]? =some o->aR n=aR o->n=o) (z:X.S.l.length<=20000000)
  {κ:Value->World->Prop} (q:∀w' i b,cu w' i b p h c self X->cz F w i w'->κ (.int .i64 0) w'):
  ∀nE,bd w nE->∃r:Nat->Prop,(∃s A,(some ⟨p,0,none⟩:Option Addr)=some ⟨s,A,none⟩/\(¬r s/\(∃(B:Option Addr),nE.cell? ⟨s,A+14,none⟩=some (.pointer B)/\(∃C E,(some ⟨p,0,none⟩:Option Addr)=some ⟨C,E,none⟩/\(∃(H:Option Addr),nE.cell? ⟨C,E+13,none⟩=some (.pointer H)/\
   PC Tryz.prog 37 #[.pointer H] nE (λS e=>∃(I:Option Addr) (J:Nat) (K:Nat),S= .slice I J K/\(ak r nE e/\PC Tryz.prog 58 #[.pointer B,.slice I J K] e (λT j=>∃(U:Int),T= .int .i64 U/\(ak r e j/\κ (.int .i64 0) j)) a4)) g8))))):=by
 intro nE V;have t:ai w nE:=V.af;have l:=bt.ah x bB t;have L:=(l.at' 0).2;refine⟨λa=>F a/\cls a=4,p,0,rfl,λW=>?_,_,ae L rfl,p,0,rfl,_,ae L rfl,PC.ok (qj (show cj nE h.sp (λa=>F a/\cls a=3) X.S from(l.at' 3).1) z) ?_⟩
 ·have:=W.2
  have Y:=(show(F p/\cls p=0)/\_ from x.at' 0).1.2;rw [Y]at this;cases this
 rintro _ e ⟨a1,a2,cc,G,rfl,u,g,Z⟩;have b5:=g.size;have a6:=l.aC;have M:=bt.ah l bB g;have a8:=u.jD;have a0:cJ e h.bp (λa=>F a/\cls a=4) c.decl c.every.toNat lB:=M.at' 4;refine⟨_,_,_,rfl,ai.af g,PC.ok (FQ a0 m.mN ((m.gr.then t).then g) (λa f=>m.aC a f.1) (u.row dC (by unfold aI;omega)) a8 (λa f=>⟨u.aC a f,λhf=>by have:=a6 a hf.1;have:=Z a f;omega⟩) z R) ?_⟩;rintro _ j ⟨k,rfl,G4,N,O⟩;obtain⟨i,b,v,d,-,-⟩:=M.Bq bB (k:=4) (G':=G4) (C2:=km p (h.cells c self) h c X X.S.l) O N.aC N λP G hj hc=>by
  rcases P with _|_|_|_|_|_|_|P<;>first|exact hc|exact absurd rfl hj
 have Q:ai w e:=t.then g;exact⟨_,rfl,O.af,q j i b v ⟨(ai.af Q).then d.af,λa f=>(d.new a f).imp id λh1=>by have:=Q.size;omega⟩⟩
theorem Hv (y:cu w F cls p h c self X) (c1:kH c self) (z:Env w0 w F) {V:dU} (b3:X.log=some V) (Y:Row f_ 96 w E ea en evs) (Z:∀b,E b->b<w.heap.size/\¬(F b/\cls b=2)) (hl:X.S.l.length+evs.length<=20000000):
  Calls Tryz.prog 41 #[.pointer (some ⟨p,0,none⟩),.slice ea en ec] w (Ok λA w'=>A= .int .i64 (cR c X evs).1/\∃B s f,cu w' s f p B c self (cR c X evs).2/\cz F w s w'/\B.wp=h.wp):=by
 obtain⟨e,D,c2,a,k⟩:=X;simp only at b3 hl;subst b3;obtain⟨hS,C,hn⟩:=(show cj w h.sp (λb=>F b/\cls b=3) e/\e.Cl/\e.n=c.bR.toNat from y.at' 3)
 have c3:=y.aC;obtain⟨e1,H,I,a0⟩:=DL.MB (show DL w (λb=>F b/\cls b=2) h.dp h.lp D (some V)from y.at' 2) (z.sub λb d=>d.1) λb d=>c3 b d.1;have c4:=OP Y;have a2:∀b,E b->b<w.heap.size:=λb d=>(Z b d).1;refine mQ ⟨p,0,rfl,_,ae y.bg rfl,?_⟩;rw [H];refine PC.ok (JC z.laid a0 I Y a2 oM) ?_;rintro _ w7 ⟨rfl,a1,k7⟩;have J:=Fh (D:=D) (l:=evs) I;have t:∀{a3},(if(bl V D evs).1≠0 then((bl V D evs).1,({S:=e,D:=(bl V D evs).2.2,log:=some (bl V D evs).2.1,waits:=a,fu:=k}:bE))else
   if((bl V D evs).2.2.sync (bl V D evs).2.1.last).1≠0 then(((bl V D evs).2.2.sync (bl V D evs).2.1.last).1,{S:=e,D:=((bl V D evs).2.2.sync (bl V D evs).2.1.last).2,log:=some (bl V D evs).2.1,waits:=a,fu:=k})else
   (0,{S:=ef c e evs,D:=((bl V D evs).2.2.sync (bl V D evs).2.1.last).2,log:=some (bl V D evs).2.1,waits:=a,fu:=k}))=a3->cR c ⟨e,D,some V,a,k⟩ evs=a3:=λ{a3} hq=>hq
 generalize e2:bl V D evs=ap at a1 J t;obtain⟨e3,u,D7⟩:=ap;simp only at a1 J t;obtain⟨G7,K,a4,a5,-⟩:=DL.Fc (Y:=λ_=>False) (a1.mono λb d=>d.elim id False.elim) k7 J;obtain⟨F7,m,L,g,-,-,c5⟩:=y.Bq bB (k:=2) (G':=G7) (C2:=km p (h.cells c self) h c ⟨e,D7,some u,a,k⟩ e.l) a4 a5 (by rw [<-H]at K;exact K) λn G M N=>by
  rcases n with _|_|_|_|_|_|_|n<;>first|exact N|exact absurd rfl M
 refine⟨_,rfl,al.df (λa6=>Ok.mk ?_) (λh0=>?_)⟩
 ·rw [t (if_pos a6)]
  exact⟨rfl,h,F7,m,L,g,rfl⟩
 simp only at h0;have c6:=z.Bq g;obtain⟨q2,o,-,v⟩:=DL.MB (show DL w7 (λb=>F7 b/\m b=2) h.dp h.lp D7 (some u)from L.at' 2) (c6.sub λb d=>d.1) λb d=>L.aC b d.1;refine⟨p,0,rfl,_,ae (L.at' 0).2 rfl,?_⟩;rw [o];refine PC.ok (Hj z.laid v J) ?_;rintro _ b4 ⟨rfl,a7,c7⟩;generalize e4:D7.sync u.last=sy at a7 t;obtain⟨s1,S⟩:=sy;simp only at a7 t;obtain⟨a8,q,j,O,-⟩:=DL.Fc (Y:=λ_=>False) (a7.mono λb d=>d.elim id False.elim) c7 J;obtain⟨P,x,i,l,-,a9,T⟩:=L.Bq bB (k:=2) (G':=a8) (C2:=km p (h.cells c self) h c ⟨e,S,some u,a,k⟩ e.l) j O (by rw [<-o]at q;exact q) λn G M N=>by
  rcases n with _|_|_|_|_|_|_|n<;>first|exact N|exact absurd rfl M
 have b0:=g.trans l;refine⟨_,rfl,al.df (λa6=>Ok.mk ?_) (λh1=>?_)⟩
 ·rw [t ((if_neg (by simpa using h0)).trans (if_pos a6))]
  exact⟨rfl,h,P,x,i,b0,rfl⟩
 simp only at h1;have c8:=t ((if_neg (by simpa using h0)).trans (if_neg (by simpa using h1)));rw [c8];have c9:Row f_ 96 b4 E ea en evs:=by
  refine(Y.af a4.af λb d=>(Z b d).2).af j.af λb d hf=>?_;rcases a4.new b (c5▸hf)with h5|h5
  ·exact(Z b d).2 h5
  ·have:=a2 b d;omega
 refine PC.ok (HE i c1 c9 (λb d=>by have:=a2 b d;have:=b0.af.size;omega) hl) ?_;rintro _ d0 ⟨U,F2,rfl,b5,d1,d2⟩;have d3:(ef c e evs).n=c.bR.toNat:=aw.ND _ _;have b1:=Am C hn evs;have b6:(ef c e evs).Cl:=by rw [b1];exact aw.Cl.fe C c4
 obtain⟨F3,Q,b7,r,d4,-⟩:=i.dZ bB (k:=3) (w':=d0) (G':=F2) (C2:=km p (h.cells c self) {h with sp:=U} c ⟨ef c e evs,S,some u,a,k⟩ e.l) (ai.af d2) (λb d=>.inr (d1 b d)) b5.aC ⟨b5,b6,d3⟩ λn G M N=>by
  rcases n with _|_|_|_|_|_|_|n<;>first|exact N|exact absurd rfl M
 refine⟨_,rfl,p,0,rfl,PS.mk (b7.at' 0).2 sM λb8 b9 e5 d5=>?_⟩;have d6:bt b8 F3 Q (km p (({h with sp:=U}:iP).cells c self) {h with sp:=U} c ⟨ef c e evs,S,some u,a,k⟩ e.l):=cu.store b7 b9 d5;have d7:cz P b4 F3 b8:=⟨r.af.then (b9.mono λb _ R=>by have R:b=p:=R;rw [R];exact(i.at' 0).1.1),r.new⟩
 have c0:=b0.trans d7;have d8:∀W∈e.l,W∈(ef c e evs).l:=λW hx=>by rw [b1];exact aw.HD hx
 have d9:(ef c e evs).l.length<=20000000:=by rw [b1];exact Xx (aw.lH _ _) hl
 exact AX d6 (z.Bq c0) (λe6 W e7 hx hy R=>OQ b6.ok (d8 W (QZ hx)) (QZ hy) R) d9 (κ:=λA w'=>Ok (λA w'=>A= .int .i64 0/\∃B s f,cu w' s f p B c self ⟨ef c e evs,S,some u,a,k⟩/\cz F w s w'/\B.wp=h.wp) (.returned A) w')
  λw' s f b2 e0=>Ok.mk ⟨rfl,{h with sp:=U},s,f,b2,c0.trans e0,rfl⟩
end
theorem AU {D:an} {size:Int} (a:(eh D size).no=0):(eh D size).V.bC≠[]:=by
 revert a
 unfold eh;generalize jf (told D) [] (uC D size) D=d;unfold nm;split
 ·rename_i c;intro a;exact absurd a c
 split
 ·intro a;exact rE a
 rename_i b;split
 ·intro _;exact b
 ·intro _;exact b
abbrev wq (a:iP) (b:cy) (c:Int) (d e f:Option Addr):Array Value:= #[.int .i64 b.bR,.int .i64 b.ug,.int .i64 b.bN,.int .i64 b.chunk,.int .i64 b.buffer,.int .i64 b.cQ,.int .i64 b.every,.int .i64 b.start,.slice a.ta a.tn a.tc,.slice a.pa a.pn a.pc,.int .i64 c,
 .pointer (some ⟨a.dp,0,none⟩),.pointer d,.pointer e,.pointer f,.pointer (some ⟨a.wp,0,none⟩),.pointer (some ⟨a.tp,0,none⟩)]
def recC (e:Nat) (f:Array Value) (b:iP) (d:cy) (c:bE) (g:Bool):Nat->World->(Nat->Prop)->Prop
 |0=>λa G=>G e/\a.heap[e]? =some (.cells f 85 (0,0))
 |1=>λa G=>aW a G d.decl b.ta b.tn b.pa b.pn
 |2=>λa G=>DL a G b.dp b.lp c.D c.log
 |3=>λa G=>g=true->cj a b.sp G c.S/\c.S.Cl/\c.S.n=d.bR.toNat
 |5=>λa G=>Mh a G b.wp d.buffer.toNat c.waits
 |6=>λa G=>dA a b.tp G c.fu
 |_=>λ_ _=>True
variable{r:Array Value}{K:Bool}
section
variable {w w' w0:World} {p:Nat} {F E T:Nat->Prop} {cls:Nat->Nat} {h:iP} {c:cy} {self:Int} {X:bE} {evs lB:List aj} {ea:Option Addr} {en ec:Nat}
theorem fR :te (recC p r h c X K):=by
 intro k w w' G T a d b
 match k,a with
 |0,a=>exact⟨a.1,d.get a.2 (b p a.1)⟩
 |1,a=>exact aW.af a d b
 |2,a=>exact DL.af a d b
 |3,a=>exact λg=>⟨cj.af (a g).1 d b,(a g).2⟩
 |4,a=>trivial
 |5,a=>obtain⟨l,D,m,i,j⟩:=a;exact⟨l,D,m.af d (λe f=>b e (i e f)) λe f=>b e (j e f),i,j⟩
 |6,a=>exact dA.af a d b
 |k+7,a=>trivial
theorem xh {z1 z2 z3:Option Addr} (T:bt w F cls (recC p (wq h c self z1 z2 z3) h c X false)) (M:kH c self) (B:Env w0 w F):
  Calls Tryz.prog 27 #[.pointer (some ⟨p,0,none⟩)] w (Ok λC w'=>C= .int .i64 (gK c X).1/\(gK c X).2.S.l.length<=16777216/\∃U r f,cu w' r f p U c self (gK c X).2/\cz F w r w'):=by
 obtain⟨g4,d1,j8⟩:=M.bR;have g5:=T.aC;have V:F p/\cls p=0:=(T.at' 0).1;have j3:1<=c.every:=by
  have:=M.right;unfold jh at this;simp only [QK,decide_eq_true_eq]at this;omega
 refine ke λw3 d3=>?_;have W:ai w w3:=d3.af;have N:=bt.ah T fR W;have O:=(N.at' 0).2;refine⟨λ_=>False,p,0,rfl,_,ae O rfl,p,0,rfl,id,_,_,_,_,_,_,ae O rfl,ae O rfl,p,0,rfl,id,_,ae O rfl,?_⟩;rw [g4];refine PC.ok (DP d1) ?_;rintro _ d2 ⟨g,F2,rfl,Y,d4,E⟩;have a9:=W.then E;have d5:=bt.ah N fR E;refine⟨_,rfl,E,PC.ok (Nl M.decl M.every ((B.mN.ah B.gr).ah a9) (show aW d2 (λa=>F a/\cls a=1) c.decl h.ta h.tn h.pa h.pn from d5.at' 1) λa b=>d5.aC a b.1) ?_⟩;rintro _ g6 ⟨j,F4,rfl,Z,d6,b7⟩;have y3:=W.size;have j9:=E.size;have k0:=b7.size;rw [show(max 1 c.every).toNat=c.every.toNat by congr 1;omega]at Z;have j4:=Y.aC;obtain⟨Fa,d7,H,b0,g7,-⟩:=N.FP fR (k:=3) (w':=d2) (G':=F2) (C2:=recC p (wq h c self z1 z2 z3) {h with sp:=g} c {X with S:=⟨c.bR.toNat,[]⟩} true) (ai.af E) (λa b n=>by have:=d4 a b;have:=g5 a n;omega) Y.aC (λ_=>⟨Y,aw.Cl.new d1,rfl⟩) λd G k l=>by
  rcases d with _|_|_|_|_|_|_|d<;>first|exact l|exact absurd rfl k
 obtain⟨v,s,b8,b1,g8,-⟩:=H.FP fR (k:=4) (w':=g6) (G':=F4) (C2:=km p (wq h c self z1 z2 z3) {h with sp:=g,bp:=j} c {X with S:=⟨c.bR.toNat,[]⟩} []) (ai.af b7) (λa b n=>by have:=d6 a b;have:=H.aC a n;omega) Z.aC Z λd G k l=>by
  rcases d with _|_|_|_|_|_|_|d<;>first|exact l|exact l rfl|exact absurd rfl k
 have e1:∀a,v a->F a\/w.heap.size<=a:=λa b=>by
  rcases g8 a b with m|m
  ·rcases g7 a m.1 with h6|h6
   ·exact .inl h6.1
   ·exact .inr (by have:=d4 a h6;omega)
  ·exact .inr (by have:=d6 a m;omega)
 refine⟨_,rfl,p,0,rfl,PS.mk (b8.at' 0).2 sM λk1 d8 k2 g9=>⟨p,0,rfl,PS.mk g9 sM λb9 d9 k4 h4=>λc0 h7=>?_⟩⟩;have j5:v p/\s p=0:=(b8.at' 0).1;have e0:ai b9 c0:=h7.af;have h8:bt b9 v s (km p (wq h c self z1 (some ⟨g,0,none⟩) (some ⟨j,0,none⟩)) {h with sp:=g,bp:=j} c {X with S:=⟨c.bR.toNat,[]⟩} []):=cu.store b8 (d8.then d9) h4;have b2:cz F w v b9:=⟨((ai.af a9).ah b7).then ((d8.then d9).mono λa _ i=>by have i:a=p:=i;rw [i];exact V.1),e1⟩
 have I:=bt.ah h8 bB e0;have P:cz F w v c0:=⟨b2.af.ah e0,b2.new⟩
 have e4:=B.Bq P;have e2:=(I.at' 0).2;have h9:=DL.ug (show DL c0 (λa=>v a/\s a=2) h.dp h.lp X.D X.log from I.at' 2) (e4.sub λa b=>b.1);refine⟨p,0,rfl,_,ae e2 rfl,p,0,rfl,_,ae e2 rfl,PC.ok (GB B.laid h9) ?_⟩;have a0:∀{e},(if(eh X.D c.bN).no≠0 then((eh X.D c.bN).no,{X with D:=(eh X.D c.bN).D,log:=none,S:=⟨c.bR.toNat,[]⟩})
   else(0,{X with D:=(eh X.D c.bN).D,log:=some (eh X.D c.bN).V,S:=(⟨c.bR.toNat,[]⟩:aw).fe (eh X.D c.bN).out}))=e->gK c X=e:=λ{e} hq=>hq
 have b3:=AU (D:=X.D) (size:=c.bN);generalize eh X.D c.bN=e at a0 b3;rintro _ i0 (⟨J,rfl,e8,c2⟩|⟨J,t,e9,a1,cc,G,rfl,c3,i1,c2,hG,hq,j6⟩)
 ·obtain⟨G2,c4,a2,c5,-⟩:=DL.KZ (Y:=λ_=>False) (e8.mono λa b=>b.elim id False.elim) c2
  obtain⟨u,Q,x,a3,-,-⟩:=I.Bq bB (k:=2) (G':=G2) (C2:=km p (wq h c self z1 (some ⟨g,0,none⟩) (some ⟨j,0,none⟩)) {h with sp:=g,bp:=j,lp:=none} c {X with S:=⟨c.bR.toNat,[]⟩,D:=e.D,log:=none} []) a2 c5 (by
    obtain⟨Fd,h1,h2,N⟩:=c4;exact⟨Fd,h1,h2,rfl⟩) λd G k l=>by
   rcases d with _|_|_|_|_|_|_|d<;>first|exact l|exact absurd rfl k
  refine⟨_,_,_,_,_,rfl,p,0,rfl,PS.mk (x.at' 0).2 sM λy z e3 c6=>al.df (λ_=>Ok.mk ?_) (λh0=>absurd h0 J)⟩;rw [a0 (if_pos J)];refine⟨rfl,Qj _,{h with sp:=g,bp:=j,lp:=none},u,Q,cu.store x z c6,?_⟩;have K:=P.trans a3;exact⟨K.af.then (z.mono λa _ i=>by have i:a=p:=i;rw [i];exact V.1),K.new⟩
 ·obtain⟨G2,c4,a2,c5,hY⟩:=DL.Fc i1 c2 (b3 J)
  obtain⟨u,Q,x,a3,i2,-⟩:=I.Bq bB (k:=2) (G':=G2) (C2:=km p (wq h c self z1 (some ⟨g,0,none⟩) (some ⟨j,0,none⟩)) {h with sp:=g,bp:=j,lp:=some ⟨t,0,none⟩} c {X with S:=⟨c.bR.toNat,[]⟩,D:=e.D,log:=some e.V} []) a2 c5 c4 λd G k l=>by
   rcases d with _|_|_|_|_|_|_|d<;>first|exact l|exact absurd rfl k
  refine⟨_,_,_,_,_,rfl,p,0,rfl,PS.mk (x.at' 0).2 sM λy z e3 c6=>al.df (λh0=>absurd rfl h0) (λ_=>?_)⟩;have f0:bt y u Q (km p (({h with sp:=g,bp:=j,lp:=some ⟨t,0,none⟩}:iP).cells c self) {h with sp:=g,bp:=j,lp:=some ⟨t,0,none⟩} c {X with S:=⟨c.bR.toNat,[]⟩,D:=e.D,log:=some e.V} []):=cu.store x z c6;have K:=P.trans a3;have b4:cz F w u y:=⟨K.af.then (z.mono λa _ i=>by have i:a=p:=i;rw [i];exact V.1),K.new⟩
  have j7:=P.af.size;have c7:∀a,G a->¬u a:=λa b n=>by
   rcases i2 a n with m|m
   ·have:=I.aC a m.1;have:=hG a b;omega
   ·exact hY a m b
  have i3:∀a,G a->a≠p:=λa b i=>c7 a b (i▸(x.at' 0).1.1);have b5:=c3.aC;have k5:=c3.len dC;have b6:Row f_ 96 y G e9 a1 e.out:=pw.row (((c3.af z λa b i=>i3 a b i)).row dC (by unfold aI;omega));have k6:y.heap.size=i0.heap.size:=e3;rw [a0 (if_neg (by simpa using J))];have g2:=OP b6;refine⟨λc1 a4 w'=>∃(d:Nat) (R:Nat->Prop) (e5:Nat->Nat),a4=d/\d<=a1/\c1=a1-d/\bt w' R e5 (km p (({h with sp:=g,bp:=j,lp:=some ⟨t,0,none⟩}:iP).cells c self) {h with sp:=g,bp:=j,lp:=some ⟨t,0,none⟩} c {X with S:=(⟨c.bR.toNat,[]⟩:aw).fe (e.out.take d),D:=e.D,log:=some e.V} [])/\cz u y R w',
   ⟨_,0,u,Q,rfl,Qj _,rfl,f0,cz.refl _ _⟩,?_⟩
  rintro c1 _ _ e6 ⟨d,R,e5,rfl,k,rfl,c8,A⟩;have i4:∀a,G a->¬R a:=λa b n=>by
   rcases A.new a n with m|m
   ·exact c7 a b m
   ·have:=b5 a b;omega
  have c9:=aw.lH (e.out.take d) ⟨c.bR.toNat,[]⟩;rw [Qy]at c9;simp only [List.length_nil]at c9;refine al.dec (λk7=>?_) (λk8=>?_)
  ·obtain⟨o,S⟩:∃o,e.out[d]? =some o:=⟨_,Qq oM⟩
   obtain⟨a,f1,es,ha,k9,l0,i5,xa,xn,xc,rfl,i6,d0⟩:=(b6.af A.af c7).el d o S;refine⟨a,f1,ha,oM,oM,bq (es:=aB o xa xn xc) (k:=10) (aV _ _ _ _) rfl (λa4 ht=>by rw [Qx];exact i5 a4 ht) (PA.mk λl3 i7 l4 i8=>az (aV o xa xn xc) i8 rfl λl5 i9 l6 j0=>λj1 e7=>?_)⟩;have L:ai e6 j1:=(i7.new i9 λa b=>.inr (by have b:a=e6.heap.size:=b;omega)).then e7.af;have a5:=bt.ah c8 bB L;have l7:=A.af.size;obtain⟨f3,f4,f5⟩:=a5.at' 3;refine⟨p,0,rfl,_,ae (a5.at' 0).2 rfl,ar (aV o xa xn xc) ((e7.af (S:=λ_=>False)).get j0 id) (PC.ok (tk f3 (i6.ah L) (λa b=>⟨by have:=b5 a b;have:=L.size;omega,λn=>i4 a b n.1⟩) d0 (by show((⟨c.bR.toNat,[]⟩:aw).fe (e.out.take d)).l.length<_;omega)) ?_)⟩;rintro _ l8 ⟨rfl,F8,f2,g0⟩;have j2:((⟨c.bR.toNat,[]⟩:aw).fe (e.out.take (d+1)))=(((⟨c.bR.toNat,[]⟩:aw).fe (e.out.take d)).add o).2:=by
    rw [Qw,S];exact aw.qk ..
   obtain⟨F9,a6,a7,q,-⟩:=a5.Bq bB (k:=3) (G':=F8) (C2:=km p (({h with sp:=g,bp:=j,lp:=some ⟨t,0,none⟩}:iP).cells c self) {h with sp:=g,bp:=j,lp:=some ⟨t,0,none⟩} c {X with S:=(⟨c.bR.toNat,[]⟩:aw).fe (e.out.take (d+1)),D:=e.D,log:=some e.V} []) g0 f2.aC (by rw [j2];exact⟨f2,f4.add d0,(aw.Ro _ _).trans f5⟩) λd G k l=>by
    rcases d with _|_|_|_|_|_|_|d<;>first|exact l|exact absurd rfl k
   exact⟨_,rfl,_,oM,d+1,F9,a6,aq oM,oM,rfl,a7,A.trans ⟨(ai.af L).then q.af,λa b=>(q.new a b).imp id λh1=>by have:=L.size;omega⟩⟩
  ·rw [Qz oM]at c8 c9
   exact AX c8 (B.Bq (b4.trans A)) (λf6 o f7 S=>by simp at S) (by show((⟨c.bR.toNat,[]⟩:aw).fe e.out).l.length<=_;omega) (κ:=λC w'=>Ok (λC w'=>C= .int .i64 0/\((⟨c.bR.toNat,[]⟩:aw).fe e.out).l.length<=16777216/\∃U r f,cu w' r f p U c self {X with S:=(⟨c.bR.toNat,[]⟩:aw).fe e.out,D:=e.D,log:=some e.V}/\cz F w r w') (.returned C) w')
    λw' r f a8 g1=>Ok.mk ⟨rfl,oM,_,r,f,a8,(b4.trans A).trans g1⟩
end
structure pH where
 code:Int
 id:Int×Int
 st:lr
 SP:List cC
 rows:List du
 more:Bool
def mj (a:pH) (b:Option Addr) (c d:Nat) (e:Option Addr) (f g:Nat) (h:Option Addr) (i j:Nat):List Value:=
 [.int .i64 a.code,.int .i64 a.id.1,.int .i64 a.id.2,.int .i64 a.st.version,.slice b c d,.slice e f g,.slice h i j,.bool a.more]
theorem iQ (a:pH) (b:Option Addr) (c d:Nat) (e:Option Addr) (f g:Nat) (h:Option Addr) (i j:Nat):gP Tryz.prog 55 (mj a b c d e f g h i j)=true:=kR
def g_ (j:World) (a:pH) (k:Value) (b:World):Prop:=∃(d:Option Addr) (e l:Nat) (f:Option Addr) (g m:Nat) (h:Option Addr) (i n:Nat) (G:Nat->Prop),k= .agg (mj a d e l f g m h i n).toArray/\
 Row eP 32 b G d e a.st.cells/\Row xt 120 b G f g a.SP/\Row FV 24 b G h i a.rows/\∀c,G c->j.heap.size<=c/\c<b.heap.size
abbrev kQ (a:Int):pH:=⟨a,(0,0),⟨0,[]⟩,[],[],false⟩
abbrev AY (id:Int×Int):pH:=⟨0,id,⟨0,[]⟩,[],[],false⟩
structure iU.Ok (x:iU):Prop where
 aT:aK x.aT
 agg:aK x.agg
 field:aK x.field
 op:aK x.op
 arg:aK x.arg
 key:aK x.key
variable{e n:Int}{u:List Int}{M:Prop}{j:Type}{g:TypeId}{J:aM}{d3:aU}{g9 h0:aj×Bool×Int}{d4:iU}{f1:pH}
section
variable {w w' w0:World} {p:Nat} {F E T:Nat->Prop} {cls:Nat->Nat} {h:iP} {c:cy} {self:Int} {X:bE} {evs lB:List aj} {ea:Option Addr} {en ec:Nat}
theorem g_.plain (a:f1.st.cells=[]) (b:f1.SP=[]) (c:f1.rows=[]):g_ w f1 (.agg (mj f1 none 0 0 none 0 0 none 0 0).toArray) w':=
 ⟨none,0,0,none,0,0,none,0,0,λ_=>False,rfl,by rw [a];exact dy _ _,by rw [b];exact dy _ _,by rw [c];exact dy _ _,λe d=>d.elim⟩
theorem row_one {a:jk j} {bytes b:Nat} {w:World} {o:Nat×Nat} {f:j} {D:Nat->Prop} (h:w.heap[b]? =some (.cells r g o)) (i:a.rep w D f r.toList) (k:bytes<=1000):Row a bytes w (λc=>c=b\/D c) (some ⟨b,0,none⟩) 1 [f]:=by
 have p:=a.len i;refine⟨rfl,by unfold aI;omega,λd q e=>?_⟩;obtain rfl:d=0:=by
  rcases d with _|d
  ·rfl
  ·simp at e
 simp at e;subst e;refine⟨b,0,r.toList,rfl,ay h,.inl rfl,λl m=>?_,a.mono i λc k=>.inr k⟩;have n:l<r.size:=by rw [<-p]at m;simpa using m
 rw [ae h (v:=r[l]) (by simp [n])];simp [n]
theorem SQ (k:B.OK) {M:Int} (f:0<=M) (g:∀a∈B.l,a.ax<=M):B.top<=M:=by
 have:∀(c:List aj) (b:Int),b<=M->(∀a∈c,a.ax<=M)->c.foldl (λb a=>max b a.ax) b<=M:=by
  intro c
  induction c with
  |nil=>intro b d _;exact d
  |cons a c h=>
   intro b d e;refine h _ ?_ λi j=>e i (QJ _ j);have:=e a (QV ..);show max b a.ax<=M;omega
 exact this B.l 0 f g
theorem JS [Decidable M] (a:g9.1.Ok) (b:h0.1.Ok):(if M then g9 else h0).1.Ok:=by
 split
 ·exact a
 ·exact b
theorem HF (a:d4.Ok) (f:aK e) (h:aK n) (b:∀g∈u,aK g):(aQ d4 e u n).2.Ok:=by
 have i:=AZ b e;unfold aQ;dsimp only
 by_cases c:e<0\/(u.length:Int)<=e\/n<0
 ·rw [if_pos c];exact A_
 rw [if_neg c]
 by_cases d:eJ u e=9223372036854775807\/n=9223372036854775807
 ·rw [if_pos d];exact A_
 rw [if_neg d];refine⟨f,?_,?_,Dq b sM,a.aT,a.agg,a.field,a.op,a.arg,a.key⟩
 ·show aK (eJ u e+1);unfold aK at*;omega
 ·show aK (n+1);unfold aK at*;omega
theorem QH (f:B.l.length<=20000000):∀b∈B.vec,aK b:=λb d=>by
 obtain⟨e,a,rfl⟩:=List.getElem_of_mem d;rw [B.br]at a;have c:=B.jv a;rw [Qq (by rw [B.br];exact a)]at c;rw [XJ c];have:=B.EG e;unfold aK;omega
theorem K_ (a:B.OK):aK B.top:=by
 have d:=SQ a (M:=9223372036854775807) oM λb c=>by have:=(a.ok b c).ax;unfold aK at this;omega
 have e:=B.Al;unfold aK;omega
theorem QI (b:d4.Ok) (a:B.OK) (c:aK e) (i:aK n) (d:B.l.length<=20000000):(mg J B d3 e n d4).1.Ok:=by
 have f:aK (max B.top n):=by
  have j:=K_ a;unfold aK at*;omega
 rw [mh];refine JS A_ ?_
 cases g:B.keyed d4.key with
 |some h=>exact a.ok h (List.mem_of_find?_eq_some g)
 |none=>exact JS A_ (JS A_ (HF b c f (QH d)))
end
section
variable {w w' w0:World} {p:Nat} {F E T:Nat->Prop} {cls:Nat->Nat} {h:iP} {c:cy} {self:Int} {X:bE}
theorem kH.Oi (a:kH c self):0<=self/\self<c.bR:=by
 have:=a.right;unfold jh within at this;simp only [QK,decide_eq_true_eq]at this;omega
theorem kJ (hr:bz w p F c self X) (K:Env w0 w F) (hx:d4.Ok) (hl:X.S.l.length+1<=20000000):
  Calls Tryz.prog 11 #[.pointer (some ⟨p,0,none⟩),oQ d4] w (Ok λa3 w'=>∃f,g_ w (if(bI c self X d4).1≠0 then kQ (bI c self X d4).1 else AY (bI c self X d4).2.1) a3 w'/\bz w' p f c self (bI c self X d4).2.2/\cz F w f w'):=by
 have b8:=hr;obtain⟨r,h,cls,n⟩:=hr;have v:=n.aC;have e2:=(n.Hu)
 have h2:=v p e2.1;have b1:aK self:=by have:=r.Oi;have:=r.bR;unfold aK;omega
 refine j_ (PA.mk λE e3 h4 e4=>PA.mk λb2 c1 h6 d5=>?_);have a1:=e3.then c1;have e5:=cu.ah n a1;have H:∀{i:World} {f:Nat->Prop} {m:bE} {y:pH},y.st.cells=[]->y.SP=[]->y.rows=[]->(∃s,i.heap[E.heap.size]? =some (.cells s 55 (0,0))/\s.size=8)->bz i p f c self m->(∀a,f a->F a\/b2.heap.size<=a)->cz F w f i->(bI c self X d4).2.2=m->(if(bI c self X d4).1≠0 then kQ (bI c self X d4).1 else AY (bI c self X d4).2.1)=y->
   xu Tryz.prog 55 (.pointer (some ⟨E.heap.size,0,none⟩)) (.agg (mj y none 0 0 none 0 0 none 0 0).toArray) i λc2=>nR Tryz.prog 55 (.pointer (some ⟨E.heap.size,0,none⟩)) c2 λd=>Ok (λa3 w'=>∃f,g_ w (if(bI c self X d4).1≠0 then kQ (bI c self X d4).1 else AY (bI c self X d4).2.1) a3 w'/\bz w' p f c self (bI c self X d4).2.2/\cz F w f w') (.returned d) c2:=λ{i f m y} y1 y2 y3 hz b3 b4 Q hX hy=>by
  obtain⟨s,hg,e6⟩:=hz;refine az (iQ y none 0 0 none 0 0 none 0 0) hg (by rw [e6];rfl) λc2 d6 h7 e7=>ar (iQ y none 0 0 none 0 0 none 0 0) e7 (Ok.mk ⟨f,by rw [hy];exact g_.plain y1 y2 y3,?_,Q.af.new d6 λa b=>.inr (by have b:a=E.heap.size:=b;omega),Q.new⟩);rw [hX];refine b3.af d6 λa b g=>?_;have g:a=E.heap.size:=g;rcases b4 a b with h1|h1
  ·have:=v a h1;omega
  ·omega
 refine⟨p,0,rfl,_,ae e5.bg rfl,fG Tryz.underlying81 ⟨_,rfl,?_⟩⟩;have d7:DL w (λa=>F a/\cls a=2) h.dp h.lp X.D X.log:=n.at' 2;obtain⟨hS,R,hn⟩:=(show cj w h.sp (λa=>F a/\cls a=3) X.S/\X.S.Cl/\X.S.n=c.bR.toNat from n.at' 3)
 cases S:X.log with
 |none=>
  obtain⟨Fd,-,-,h3⟩:=d7;rw [S]at h3;have h3:h.lp=none:=h3;rw [h3];refine al.tt rfl ?_;have o:bI c self X d4=(15,(0,0),X):=by unfold bI;rw [S]
  exact H (y:=kQ 15) rfl rfl rfl ⟨_,d5,rfl⟩ (b8.ah a1) (λa b=>.inl b) ⟨ai.af a1,λa b=>.inl b⟩ (by rw [o]) (by rw [o];rfl)
 |some f3=>
 obtain⟨f4,a4,c3,-⟩:=DL.MB (S▸d7) (K.sub λa b=>b.1) λa b=>v a b.1;rw [a4];refine al.ff rfl λe8 e9=>⟨λ_=>False,?_⟩
 have b5:ai b2 e8:=e9.af;have a2:=a1.then b5;have c4:=cu.ah n a2;refine⟨p,0,rfl,id,_,_,_,_,_,_,ae c4.bg rfl,ae c4.bg rfl,p,0,rfl,_,ae c4.bg rfl,PC.ok (qj (hS.ah a2) oM) ?_⟩;rintro _ h8 ⟨la,ln,lc,G,rfl,c5,L,hG⟩;have h9:=c5.len dC;have f2:=c5.aC;have T:=a2.then L;have i0:=cu.ah n T;have b9:∀{i:World},ai w i->aW i (λa=>F a/\cls a=1) c.decl h.ta h.tn h.pa h.pn:=λ{i} I=>(cu.ah n I).at' 1;refine⟨_,_,_,rfl,L,PC.ok (FJ r.decl (K.mN.ah (K.gr.then T)) (b9 T) (λa b=>by have:=v a b.1;have:=T.size;omega) (c5.row dC (by unfold aI;omega)) (λa b=>f2 a b) oM) ?_⟩;rintro _ J ⟨vp,Fv,rfl,hv,i1,M⟩;have N:=T.then M;have c0:=((c1.then b5).then L).then M;obtain⟨g8,g0⟩:=FX r.decl X.S.l;obtain⟨d,c6⟩:∃d,d=mg c.decl X.S (cg c.decl X.S.l) self c.start d4:=⟨_,rfl⟩
 have i2:=a2.size;have i3:=L.size;have i4:=M.size;have x:∀{i:World},ai J i->Calls Tryz.prog 40 #[.agg #[.slice h.ta h.tn h.tc,.slice h.pa h.pn h.pc],.pointer (some ⟨h.sp,0,none⟩),.pointer (some ⟨vp,0,none⟩),.int .i64 self,.int .i64 c.start,oQ d4] i (Ok (uG i d)):=λ{i} I=>by
  rw [c6];exact Cm (K.mN.ah ((K.gr.then N).then I)) (b9 (N.then I)) (λa b=>by have:=v a b.1;have:=(N.then I).size;omega) r.decl (hS.ah (N.then I)) oM (hv.ah I) g0
   (by have:=r.start;unfold aK at this;omega) (by have:=K_ R.ok;unfold aK at this;omega)
 refine⟨_,rfl,M,λU eo q no w'=>eo=0/\∃j k l G,w'.heap[U]? =some (.cells (aB d.1 j k l).toArray 60 (0,0))/\Row aG 8 w' G j k d.1.aN/\(∀a,G a->J.heap.size<=a/\a<w'.heap.size)/\J.heap.size<=U/\q=d.2.1/\no=d.2.2/\ai J w',?_,?_⟩
 ·intro z d8
  have O:ai J z:=d8.af;have i5:z.heap.size=J.heap.size:=by rw [d8.heap]
  have d9:=N.then O;have V:=cu.ah n d9;have e0:=O.get (c0.get e4 id) id;have nS:¬z.heap.size<=p:=oM
  have g1:¬z.heap.size<=w.heap.size:=by have:=b5.size;have:=L.size;have:=M.size;omega
  refine⟨λa=>z.heap.size<=a,p,0,rfl,nS,_,_,_,_,_,_,ae V.bg rfl,ae V.bg rfl,p,0,rfl,nS,_,ae V.bg rfl,p,0,rfl,nS,_,ae V.bg rfl,p,0,rfl,nS,_,ae V.bg rfl,g1,ar (wB d4) e0 ⟨PC.ok (x O) ?_,PA.mk λi6 c7 i7 g2=>⟨ai.af c7,PC.ok (x (O.then c7)) ?_⟩⟩⟩
  ·rintro _ c8 ⟨j,k,l,G,rfl,W,t,c9⟩
   have i8:=c9.size;refine bF (qB d.1 j k l) ⟨_,_,rfl,ai.af c9,PA.mk λi9 d0 j0 g3=>⟨ai.af d0,az (aV d.1 j k l) g3 rfl λj1 d1 j2 g4=>⟨d1.mono λa _ g=>by have g:a=c8.heap.size:=g;omega,rfl,j,k,l,G,g4,?_,λa b=>⟨by have:=t a b;omega,by have:=t a b;omega⟩,oM,rfl,rfl,?_⟩⟩⟩
   ·exact(W.ah d0).af d1 λa b g=>by have g:a=c8.heap.size:=g;have:=(t a b).2;omega
   ·exact((O.then c9).then d0).new d1 λa b=>.inr (by have b:a=c8.heap.size:=b;omega)
  ·rintro _ j3 ⟨j,k,l,G,rfl,W,t,b6⟩
   have j4:=b6.size;refine bF (qB d.1 j k l) ⟨_,_,rfl,ai.af b6,az (aV d.1 j k l) (b6.get g2 id) rfl λj5 d2 j6 g5=>⟨d2.mono λa _ g=>by have g:a=z.heap.size:=g;omega,rfl,j,k,l,G,g5,?_,λa b=>⟨by have:=t a b;omega,by have:=t a b;omega⟩,oM,rfl,rfl,?_⟩⟩
   ·exact W.af d2 λa b g=>by have g:a=z.heap.size:=g;have:=(t a b).1;omega
   ·exact((O.then c7).then b6).new d2 λa b=>.inr (by have b:a=z.heap.size:=b;omega)
 rintro U _ q no _ P ⟨rfl,j,k,l,G2,e,W,t,j7,rfl,rfl,d3⟩;have Y:=N.then d3;have j8:=cu.ah n Y;have g9:=c0.then d3;have a8:=d3.get (M.get (L.get (b5.get d5 id) id) id) id;have a5:d.1.Ok:=by rw [c6];exact QI hx R.ok b1 r.start oM
 have a6:∀{A:Int×(Int×Int)×bE},(if d.2.2≠0 then(d.2.2,(0,0),X)else if d.2.1 then(if(cR c X [d.1]).1≠0 then((cR c X [d.1]).1,(0,0),(cR c X [d.1]).2)else(0,aR d.1,(cR c X [d.1]).2))else(0,aR d.1,X))=A->bI c self X d4=A:=λ{A} ht=>by
  rw [<-ht,c6];unfold bI;rw [S]
 have j9:=Y.size;have f0:=ay e;refine⟨λA w'=>∃f m,bz w' p f c self m/\cz F w f w'/\(∀a,f a->F a\/b2.heap.size<=a)/\w'.heap[U]? =some (.cells (aB d.1 j k l).toArray 60 (0,0))/\(∃s,w'.heap[E.heap.size]? =some (.cells s 55 (0,0))/\s.size=8)/\bI c self X d4=(if A≠0 then(A,(0,0),m)else(0,aR d.1,m)),?_,?_⟩
 ·have B:bI c self X d4=(if d.2.2≠0 then(d.2.2,(0,0),X)else(0,aR d.1,X))->∃f m,bz P p f c self m/\cz F w f P/\(∀a,f a->F a\/b2.heap.size<=a)/\P.heap[U]? =some (.cells (aB d.1 j k l).toArray 60 (0,0))/\(∃s,P.heap[E.heap.size]? =some (.cells s 55 (0,0))/\s.size=8)/\bI c self X d4=(if d.2.2≠0 then(d.2.2,(0,0),m)else(0,aR d.1,m)):=λo=>
   ⟨F,X,b8.ah Y,⟨ai.af Y,λa b=>.inl b⟩,λa b=>.inl b,e,⟨_,a8,rfl⟩,o⟩
  refine al.dJ (λC=>al.mk (λu=>?_) (λu=>B (a6 (by rw [if_neg (by simpa using C),if_neg (by simpa using u),if_neg (by simpa using C)])))) (λC=>B (a6 (by rw [if_pos C,if_pos C])));refine⟨_,_,_,_,_,_,_,_,_,_,_,_,ae e rfl,ae e rfl,ae e rfl,ae e rfl,ae e rfl,ae e rfl,ae e rfl,ae e rfl,ae e rfl,ae e rfl,PA.mk λe1 b7 k0 g6=>?_⟩;have a9:=Y.then b7;have f1:Row f_ 96 e1 (λa=>a=P.heap.size\/G2 a) (some ⟨P.heap.size,0,none⟩) 1 [d.1]:=row_one g6 ⟨j,k,l,rfl,W.ah b7,a5⟩ dC;refine PC.ok (Hv (cu.ah n a9) r (K.ah a9) S f1 (λa b=>?_) (by simpa using hl)) ?_
  ·have g7:J.heap.size<=a/\a<e1.heap.size:=b.elim (λg=>⟨oM,oM⟩) λh5=>by have:=t a h5;omega
   exact⟨g7.2,λu=>by have:=v a u.1;omega⟩
  rintro _ k1 ⟨rfl,h',f,Z,a7,a0,-⟩;refine⟨_,rfl,f,(cR c X [d.1]).2,⟨r,h',Z,a7⟩,⟨(ai.af a9).then a0.af,λa b=>(a0.new a b).imp id λh1=>oM⟩,λa b=>(a0.new a b).imp id λh1=>by have:=c1.size;omega,a0.af.get (b7.get e id) λu=>by have:=v _ u;omega,⟨_,a0.af.get (b7.get a8 id) λu=>by have:=v _ u;omega,rfl⟩,?_⟩;exact a6 (by rw [if_neg (by simpa using C),if_pos u])
 ·rintro A _ k2 ⟨f,m,b3,Q,b4,b0,hz,o⟩
  refine al.df (λc3=>?_) (λC=>⟨_,_,ae b0 rfl,ae b0 rfl,?_⟩)
  ·rw [if_pos c3]at o
   exact H (y:=kQ A) rfl rfl rfl hz b3 b4 Q (by rw [o]) (by rw [o];exact if_pos c3)
  ·rw [if_neg (by simpa using C)]at o
   exact H (y:=AY (aR d.1)) rfl rfl rfl hz b3 b4 Q (by rw [o]) (by rw [o];rfl)
end
def ej (e:World) (f:Nat->Prop) (i:List cN) (j:Value) (c:World):Prop:=
 ∃(b:Option Addr) (g h:Nat) (d:List FI) (D:Nat->Prop),j= .slice b g h/\aO QE 42 (λa=>aF b=some a) c b g h d/\d.map (·.m)=i/\(∀a∈d,a.In c D)/\(∀a,D a->e.heap.size<=a/\a<c.heap.size/\aF b≠some a/\¬f a)/\∀a,aF b=some a->e.heap.size<=a/\¬f a
section
variable {w w' w0 w1:World} {p:Nat} {F E T Z:Nat->Prop} {cls:Nat->Nat} {h:iP} {c:cy} {self:Int} {X:bE} {ms:List cN} {v:Value}
theorem aZ.out (g:aZ w1 ms v w') (e:∀a,Z a->a<w1.heap.size) (p:w.heap.size<=w1.heap.size):ej w Z ms v w':=by
 obtain⟨h,i,j,k,D,l,m,n,o,c,f,q⟩:=g;exact⟨h,i,j,k,D,l,m,n,o,λa b=>⟨by have:=(c a b).1;omega,(c a b).2.1,(c a b).2.2,λd=>by have:=e a d;have:=(c a b).1;omega⟩,λa b=>⟨by have:=f a b;omega,λd=>by have:=e a d;have:=f a b;omega⟩⟩
theorem ej.nil (w0 w:World) (Z:Nat->Prop):ej w0 Z [] (.slice none 0 0) w:=⟨none,0,0,[],λ_=>False,rfl,(aO.nil w).mono (λb a=>a.elim) (λb a=>(by cases a)),rfl,sM,λb a=>a.elim,λb a=>(by cases a)⟩
theorem aZ.one {m:cN} {va d:Option Addr} {vn vc e f c:Nat} {D:Nat->Prop} (h:w.heap[c]? =some (.cells (bH m va vn vc d e f).toArray 42 (0,0))) (j:(⟨m,va,vn,vc,d,e,f⟩:FI).In w D) (g:∀b,D b->w0.heap.size<=b/\b<w.heap.size/\b≠c) (l:w0.heap.size<=c) (k:ai w0 w):
  aZ w0 [m] (.slice (some ⟨c,0,none⟩) 1 1) w:=by
 have n:=ay h;refine⟨some ⟨c,0,none⟩,1,1,[⟨m,va,vn,vc,d,e,f⟩],D,rfl,⟨⟨bH m va vn vc d e f,λ_=>False,Own.yJ h rfl (by unfold maxLen;omega),bu.one ⟨rfl,trivial⟩,λb a=>a.elim⟩,λb a=>a,λb a=>?_⟩,rfl,λb a=>?_,λb a=>⟨(g b a).1,(g b a).2.1,λi=>?_⟩,λb a=>?_,k⟩
 ·simp only [aF,Q1]at a;omega
 ·simp at a;subst a;exact j
 ·simp only [aF,Q1]at i;exact(g b a).2.2 i.symm
 ·simp only [aF,Q1]at a;omega
theorem uk (r:bz w p F c self X) (B:aK e):
  Calls Tryz.prog 29 #[.pointer (some ⟨p,0,none⟩),.int .i64 e,.int .i64 n] w (Ok λv w'=>∃a,ej w a (fP c self X e n).1 v w'/\bz w' p a c self (fP c self X e n).2/\cz F w a w'):=by
 have C:=r;obtain⟨E,h,cls,f⟩:=r;have no:(e<0\/e>=c.bR\/e=self)->Ok (λv w'=>∃a,ej w a (fP c self X e n).1 v w'/\bz w' p a c self (fP c self X e n).2/\cz F w a w') (.returned (.slice none 0 0)) w:=λk=>by
  have:fP c self X e n=([],X):=by unfold fP;rw [if_pos k]
  rw [this];exact Ok.mk ⟨F,ej.nil _ _ _,C,cz.refl _ _⟩
 refine jG (al.dec (λl=>no (.inl l)) (λl=>⟨p,0,rfl,_,ae f.bg rfl,al.dec (λm=>no (.inr (.inl m))) (λm=>⟨p,0,rfl,_,ae f.bg rfl,al.dJ (λo=>no (.inr (.inr o))) (λo=>⟨p,0,rfl,_,ae f.bg rfl,?_⟩)⟩)⟩));have H:fP c self X e n=([jx X.S self e],{X with fu:={X.fu with asked:=aH X.fu.asked e n}}):=by unfold fP;rw [if_neg (by rintro(h|h|h);exact l h;exact m h;exact o h)]
 refine PC.ok (HG (f.at' 6) B) ?_;rintro _ s ⟨rfl,I,t⟩;have J:cu s F cls p h c self {X with fu:={X.fu with asked:=aH X.fu.asked e n}}:=bt.same f bB (k:=6) t I λu G K k=>by
  rcases u with _|_|_|_|_|_|_|u<;>first|exact k|exact absurd rfl K
 refine⟨rfl,λq L=>?_⟩;have x:ai s q:=L.af;have d:=cu.ah J x;refine⟨p,0,rfl,_,ae d.bg rfl,p,0,rfl,_,ae d.bg rfl,PC.ok (wZ (d.at' 3).1) ?_⟩;rintro _ M ⟨S,T,U,G,rfl,y,N,i⟩;have z:=y.aC;have O:=i.size;refine⟨_,_,_,_,_,_,_,_,_,rfl,PA.mk λP j V Q=>?_⟩;rw [H];have R:aZ q [jx X.S self e] (.slice (some ⟨M.heap.size,0,none⟩) 1 1) P:=aZ.one (D:=G) Q ⟨(y.ah j).row dC (by show X.S.vec.length*8<=aI;rw [X.S.br];have:=(d.at' 3).1.1.n;have:X.S.n<=64:=this;unfold aI;omega),dy _ _⟩ (λg b=>⟨N g b,by have:=z g b;omega,by have:=z g b;omega⟩) O (i.then j);have A:ak F w q:=(t.mono λg _ b=>b.1).ah x;exact Ok.mk ⟨F,R.out d.aC A.size,⟨E,h,cls,cu.ah d (i.then j)⟩,(A.ah i).ah j,λg b=>.inl b⟩
theorem QL (T:iS) (d:Int):∀a∈T.due d,a∈T.open:=by
 have:∀(e:List Int) (f:List Int×List (Int×Int)),∀a∈(e.foldl (fl T.cQ d) f).1,a∈f.1\/a∈e:=by
  intro e
  induction e with
  |nil=>intro f a b;exact .inl b
  |cons i e h=>
   intro f a b;rcases h _ a b with c|c
   ·unfold fl at c
    split at c
    ·rcases Q6.1 c with g|g
     ·exact .inl g
     ·simp at g;subst g;exact .inr (QV ..)
    ·exact .inl c
   ·exact .inr (QJ _ c)
 intro a b;unfold iS.due iS.h_ at b;rw [List.take_length]at b;exact(this T.open ([],T.asked) a b).resolve_left sM
theorem OR {T:iS} (c:∀a∈T.asked,aK a.1):∀b∈T.open,aK b:=λb d=>by
 have:b∈T.asked.map (·.1):=(List.mergeSort_perm _ _).mem_iff.1 d;obtain⟨a,e,rfl⟩:=Xk.1 this;exact c a e
theorem QM (T:iS) (a:Int):(T.due a).length<=T.asked.length:=by
 have:∀(c:List Int) (b:List Int×List (Int×Int)),(c.foldl (fl T.cQ a) b).1.length<=b.1.length+c.length:=by
  intro c
  induction c with
  |nil=>intro b;simp
  |cons d c f=>
   intro b;have e:=f (fl T.cQ a b d);have g:(fl T.cQ a b d).1.length<=b.1.length+1:=by
    unfold fl;split
    ·simp
    ·omega
   simp only [List.foldl_cons,Xq];omega
 have e:=this T.open ([],T.asked);unfold iS.due iS.h_;rw [List.take_length];have g:T.open.length=T.asked.length:=by simp [iS.open,uH]
 simp only [List.length_nil]at e;omega
theorem Ol (N:bz w p F c self X) (d:X.fu.asked.length<=1000):
  Calls Tryz.prog 33 #[.pointer (some ⟨p,0,none⟩),.int .i64 e] w (Ok λv w'=>∃n,ej w n (HH self X e).1 v w'/\bz w' p n c self (HH self X e).2/\cz F w n w'):=by
 obtain⟨O,h,cls,o⟩:=N;have x:dA w h.tp (λa=>F a/\cls a=6) X.fu:=o.at' 6;have P:∀f∈X.fu.due e,aK f:=λf i=>OR x.rq f (QL _ _ f i);have b0:=QM X.fu e;refine mO ⟨p,0,rfl,_,ae o.bg rfl,PC.ok (MI x (by unfold aI;omega)) ?_⟩;rintro _ j ⟨Q,q,cc,rfl,y,R,r,hn⟩;have z:cu j F cls p h c self {X with fu:=X.fu.OS e}:=bt.same o bB (k:=6) r R λb G A S=>by
  rcases b with _|_|_|_|_|_|_|b<;>first|exact S|exact absurd rfl A
 have T:=y.length;rw [iy,Nat.mul_one]at T;have U:Ints j Q q (X.fu.due e):=y.ints (by unfold aI;omega) P;have V:=z.aC;have W:=r.size;refine⟨_,_,_,rfl,λB C E H Y w'=>∃b:Nat,Y=b/\b<=q/\B=q-b/\aZ j (((X.fu.due e).take b).map λg=>jx X.S self g) (.slice C E H) w',⟨_,0,rfl,Qj _,rfl,aZ.nil j⟩,?_⟩;rintro B C E H _ _ Z ⟨b,rfl,A,rfl,k⟩;have s:=k;obtain⟨a3,n1,c1,a4,D,he,g2,g3,g4,g5,g6,l⟩:=s
 cases he
 have I:=cu.ah z l;have b1:=l.size;refine al.dec (λb2=>?_) (λb3=>?_)
 ·obtain⟨a,t,f,rfl,b4,i,b5,a0⟩:=(U.ah l).at (i:=(b:Int)) oM oM
  rw [Qx]at i;refine⟨a,t,rfl,oM,oM,f,a0,λa6 a7=>?_⟩;have u:ai Z a6:=a7.af;have m:=cu.ah I u;refine⟨p,0,rfl,_,ae m.bg rfl,p,0,rfl,_,ae m.bg rfl,PC.ok (wZ (m.at' 3).1) ?_⟩;rintro _ b6 ⟨va,vn,vc,G,rfl,J,K,L⟩;have a8:=J.aC;have b7:=u.size;have b8:=L.size;refine⟨_,_,_,_,_,_,_,_,_,rfl,PA.mk λb9 M c0 a9=>?_⟩;refine aZ.push (m:=jx X.S self f) (E:=G) (k.ah ((u.then L).then M)) La ⟨(J.ah M).row dC (by show X.S.vec.length*8<=aI;rw [X.S.br];have:X.S.n<=64:=(m.at' 3).1.1.n;unfold aI;omega),dy _ _⟩ (λa d=>⟨by have:=K a d;omega,by have:=a8 a d;omega,λa1=>by have:=g2.aC a a1;have:=K a d;omega⟩) a9 (by rw [Q8,Qy];omega) λa' c' c2 a2 c3=>⟨_,_,_,rfl,_,?_,b+1,aq oM,oM,rfl,?_⟩
  ·omega
  ·rw [Qw,i,Q3];exact a2
 ·rw [Qz oM]at k
  exact Ok.mk ⟨F,k.out V W,⟨O,h,cls,I⟩,(r.mono λa _ d=>d.1).ah l,λa d=>.inl d⟩
theorem Lb (b:bz w p F c self X):Calls Tryz.prog 10 #[.pointer (some ⟨p,0,none⟩)] w (Ok (oy aG 3 w X.S.vec)):=by
 obtain⟨i,h,cls,a⟩:=b;refine nV ⟨p,0,rfl,_,ae a.bg rfl,PC.ok (kq (a.at' 3).1) ?_⟩;rintro _ j ⟨d,e,f,G,rfl,g⟩;exact⟨_,_,_,rfl,Ok.mk ⟨d,e,f,G,rfl,g⟩⟩
theorem sX (d:bz w p F c self X) (a:X.S.l.length<=20000000):Calls Tryz.prog 9 #[.pointer (some ⟨p,0,none⟩)] w (Ok (oy f_ 60 w X.S.l)):=by
 obtain⟨i,h,cls,b⟩:=d;refine kW ⟨p,0,rfl,_,ae b.bg rfl,PC.ok (qj (b.at' 3).1 a) ?_⟩;rintro _ j ⟨e,f,g,G,rfl,a⟩;exact⟨_,_,_,rfl,Ok.mk ⟨e,f,g,G,rfl,a⟩⟩
end
theorem uI {f:aw}:∀{b:List aj} {e:aj} {S':aw} {l':List aj},ez f b=some (e,S',l')->l'.length+1=b.length
 |[],e,S',l',a=>by simp [ez]at a
 |x::b,e,S',l',a=>by
  unfold ez at a;split at a
  ·simp only [Q1,Prod.mk.injEq]at a
   obtain⟨-,-,rfl⟩:=a;rfl
  ·cases c:ez f b with
   |none=>rw [c]at a;cases a
   |some d=>
    rw [c]at a;simp only [Option.map_some,Q1,Prod.mk.injEq]at a;obtain⟨rfl,rfl,rfl⟩:=a;have:=uI (e:=d.1) (S':=d.2.1) (l':=d.2.2) c;simp only [Xq];omega
theorem uJ:∀(k:Nat) (c:aw) (b a:List aj),(dS k c b a).1.length+(dS k c b a).2.length=a.length+b.length
 |0,c,b,a=>rfl
 |k+1,c,b,a=>by
  unfold dS
  cases g:ez c b with
  |none=>rfl
  |some h=>
   obtain⟨d,e,f⟩:=h;have j:=uI g;have i:=uJ k e f (a++[d]);show(dS k e f (a++[d])).1.length+(dS k e f (a++[d])).2.length=_;rw [i,QX,List.length_singleton];omega
theorem uK (b:aw) (a:List aj):(bw b a).1.length+(bw b a).2.length<=a.length:=by
 unfold bw;dsimp only;rw [uJ];have:=List.length_filter_le (λc=>(b.get (aR c)).isNone) a;simp only [List.length_nil];omega
structure Fj (w:World) (wp most:Nat) (M0 D0 E:Nat->Prop) (s:Nat) (S:aw) (b:List aj) (oa:Option Addr) (on oc:Nat) (Lo:List (Bx aj)) (w1:World) (M Db Fs Do:Nat->Prop):Prop where
 buf:fM w1 wp M Db most b
 set:cj w1 s Fs S
 Lu:∀x∈Lo,oz.In w1 Do x
 out:aO oz.jt 60 (λb=>aF oa=some b) w1 oa on oc Lo
 nM:∀b,M b->(M0 b\/w.heap.size<=b)/\¬Fs b
 nD:∀b,Db b->(D0 b\/w.heap.size<=b)/\¬Fs b
 nF:∀b,Fs b->w.heap.size<=b
 nO:∀b,Do b->(E b\/D0 b\/w.heap.size<=b)/\b<w1.heap.size/\¬M b/\¬Fs b
 nA:∀b,aF oa=some b->w.heap.size<=b/\¬M b/\¬Fs b/\¬Do b/\¬Db b
 af:ak M0 w w1
 cl:S.Cl
variable{a:Nat}{d:Option Addr}{q:TypeId}
section
variable {w w' w0 w1 w2:World} {p wp most s on oc:Nat} {F E T Z M0 D0 M Db Fs Do:Nat->Prop} {cls:Nat->Nat} {h:iP} {c:cy} {self:Int} {X:bE} {S:aw} {b:List aj} {oa:Option Addr} {Lo:List (Bx aj)}
theorem fM.ME (a:fM w p M Db most b):∀b,M b->b<w.heap.size:=by obtain⟨-,e,f,c,g,d⟩:=a;exact d.dM
theorem fM.HI (a:fM w p M Db most b):∀b,Db b->b<w.heap.size/\¬M b:=by obtain⟨-,e,f,c,g,d⟩:=a;exact d.dD
theorem Fj.ah (a:Fj w wp most M0 D0 E s S b oa on oc Lo w1 M Db Fs Do) (c:ai w1 w2):Fj w wp most M0 D0 E s S b oa on oc Lo w2 M Db Fs Do:=
 ⟨a.buf.ah c,a.set.ah c,λe f=>(a.Lu e f).af c λ_ _ h=>h,a.out.ah c,a.nM,a.nD,a.nF,λb d=>⟨(a.nO b d).1,by have:=(a.nO b d).2.1;have:=c.size;omega,(a.nO b d).2.2⟩,a.nA,a.af.ah c,a.cl⟩
theorem Fj.add (c:Fj w wp most M0 D0 E s S b oa on oc Lo w1 M Db Fs Do) {j o:Nat} (p:Row aG 8 w1 f d j m.aN) (q:∀b,f b->b<w1.heap.size/\¬Fs b) (k:m.Ok) (z:S.l.length<=20000000):
  Calls Tryz.prog 57 #[.pointer (some ⟨s,0,none⟩),ji m d j o] w1 (Ok λl w'=>l= .int .i64 (S.add m).1/\∃h,Fj w wp most M0 D0 E s (S.add m).2 b oa on oc Lo w' M Db h Do/\ak Fs w1 w'/\∀b,h b->Fs b\/w1.heap.size<=b):=by
 refine(tk c.set p q k oM).mono ?_;rintro _ w2 ⟨l,rfl,rfl,n,r,e⟩;have t:=c.buf.ME;have u:=c.buf.HI;have A:=c.af.size;have g:∀b,b<w1.heap.size->¬Fs b->¬n b:=λb B v i=>(e.new b i).elim v oM;refine Ok.mk ⟨rfl,n,⟨c.buf.af e.af (λb a=>(c.nM b a).2) λb a=>(c.nD b a).2,r,λx y=>(c.Lu x y).af e.af λb a=>(c.nO b a).2.2.2,c.out.af e.af λb a=>(c.nA b a).2.2.1,λb a=>⟨(c.nM b a).1,g b (t b a) (c.nM b a).2⟩,λb a=>⟨(c.nD b a).1,g b (u b a).1 (c.nD b a).2⟩,
  λb a=>(e.new b a).elim (c.nF b) λY=>oM,λb a=>⟨(c.nO b a).1,by have:=(c.nO b a).2.1;have:=e.af.size;omega,(c.nO b a).2.2.1,g b (c.nO b a).2.1 (c.nO b a).2.2.2⟩,λb a=>⟨(c.nA b a).1,(c.nA b a).2.1,g b (c.out.aC b a) (c.nA b a).2.2.1,(c.nA b a).2.2.2⟩,c.af.new e.af λb a=>.inr (c.nF b a),c.cl.add k⟩,e.af,e.new⟩
theorem Fj.push {u:Program} (d:Fj w wp most M0 D0 E s S b oa on oc Lo w1 M Db Fs Do) (z:ix u g 60 oz.jt.k 96) {e:Bx aj} (A:oz.In w1 f e) (i:∀b,f b->(E b\/D0 b\/w.heap.size<=b)/\b<w1.heap.size/\¬M b/\¬Fs b/\aF oa≠some b) {B:Nat×Nat}
  (C:w1.heap[a]? =some (.cells (aB e.x e.a e.n e.c).toArray 60 B)) (Q:Lo.length<=1000000) {v F:Value->World->Prop} (r:∀m p w' t,Fj w wp most M0 D0 E s S b m (on+1) p (Lo++[e]) w' M Db Fs t->ak (λb=>aF oa=some b) w1 w'->(∀b,aF m=some b->aF oa=some b\/w1.heap.size<=b)->v (.slice m (on+1) p) w'):
  aE u (Builtin.append_ #[g,g] q #[.slice oa on oc,.slice (some ⟨a,0,none⟩) 1 1]) w1 v F:=by
 refine dQ (c:=oz.jt) (x:=e) (D:=λ_=>False) d.out z C ⟨rfl,trivial⟩ (λb c=>c.elim) (by unfold aI;omega) (by unfold maxLen;omega) λm p w2 R x j I=>?_;have J:=x.alone;have y:∀b,aF m=some b->aF oa=some b\/w1.heap.size<=b:=λb c=>(I b (x.self b c)).imp id λh=>h.resolve_left id;have T:=j.size;have z1:=d.af.size;have K:=d.buf.ME;have L:=d.buf.HI;have N:=d.set.aC;have nA:=d.nA;refine r m p w2 (λb=>Do b\/f b) ⟨d.buf.af j (λb c k=>(nA b k).2.1 c) λb c k=>(nA b k).2.2.2.2 c,d.set.af j λb c k=>(nA b k).2.2.1 c,λO n=>?_,J,d.nM,d.nD,d.nF,λb c=>?_,λb c=>?_,d.af.new j λb c=>.inr (nA b c).1,d.cl⟩ j y
 ·rcases Q6.1 n with n|n
  ·exact((d.Lu O n).af j λb c k=>(nA b k).2.2.2.1 c).mono λb c=>.inl c
  ·simp at n;subst n
   exact(A.af j λb c=>(i b c).2.2.2.2).mono λb c=>.inr c
 ·rcases c with c|c
  ·exact⟨(d.nO b c).1,by have:=(d.nO b c).2.1;omega,(d.nO b c).2.2⟩
  ·exact⟨(i b c).1,by have:=(i b c).2.1;omega,(i b c).2.2.1,(i b c).2.2.2.1⟩
 ·rcases y b c with H|H
  ·exact⟨(nA b H).1,(nA b H).2.1,(nA b H).2.2.1,λo=>o.elim (nA b H).2.2.2.1 λP=>(i b P).2.2.2.2 H,(nA b H).2.2.2.2⟩
  ·exact⟨oM,λl=>by have:=K b l;omega,λl=>by have:=N b l;omega,λl=>l.elim (λo=>by have:=(d.nO b o).2.1;omega) λo=>by have:=(i b o).2.1;omega,λl=>by have:=(L b l).1;omega⟩
theorem Fj.wait (a:Fj w wp most M0 D0 E s S b oa on oc Lo w1 M Db Fs Do) {l q:Nat} (r:Row aG 8 w1 f d l m.aN) (t:∀b,f b->b<w1.heap.size) (u:m.Ok):
  Calls Tryz.prog 189 #[.pointer (some ⟨wp,0,none⟩),ji m d l q] w1 (Ok λn w'=>∃v,n= .bool v/\∃i j,Fj w wp most M0 D0 E s S (eI most b m).2 oa on oc Lo w' i j Fs Do/\ak M w1 w'):=by
 refine(Is a.buf r t u).mono ?_;rintro _ w2 ⟨n,rfl,rfl,i,x,y,h,k,o⟩;have p:=a.set.aC;have B:=a.af.size;have C:=h.size;refine Ok.mk ⟨_,rfl,i,x,⟨y,a.set.af h λb c g=>(a.nM b g).2 c,λz A=>(a.Lu z A).af h λb c=>(a.nO b c).2.2.1,a.out.af h λb c=>(a.nA b c).2.1,λb c=>?_,λb c=>?_,a.nF,λb c=>⟨(a.nO b c).1,by have:=(a.nO b c).2.1;omega,λg=>?_,(a.nO b c).2.2.2⟩,λb c=>⟨(a.nA b c).1,λg=>?_,(a.nA b c).2.2.1,(a.nA b c).2.2.2.1,λg=>?_⟩,?_,a.cl⟩,h⟩
 ·rcases k b c with e|e
  ·exact a.nM b e
  ·exact⟨.inr oM,λg=>by have:=p b g;omega⟩
 ·rcases o b c with e|e
  ·exact a.nD b e
  ·exact⟨.inr oM,λg=>by have:=p b g;omega⟩
 ·rcases k b g with e|e
  ·exact(a.nO b c).2.2.1 e
  ·have:=(a.nO b c).2.1;omega
 ·rcases k b g with e|e
  ·exact(a.nA b c).2.1 e
  ·have:=a.out.aC b c;omega
 ·rcases o b g with e|e
  ·exact(a.nA b c).2.2.2.2 e
  ·have:=a.out.aC b c;omega
 ·exact a.af.new h λb c=>(a.nM b c).1
theorem Fj.ready (a:Fj w wp most M0 D0 E s S b oa on oc Lo w1 M Db Fs Do) (k:S.l.length<=19000000):
  Calls Tryz.prog 190 #[.pointer (some ⟨wp,0,none⟩),.pointer (some ⟨s,0,none⟩)] w1 (Ok λj w'=>∃d g h f,j= .slice d g h/\aO oz.jt 60 (λb=>aF d=some b) w' d g h f/\f.map (·.x)=(bw S b).1/\(∀i∈f,oz.In w' Db i)/\(∀b,aF d=some b->w1.heap.size<=b)/\
   Fj w wp most M0 D0 E s S (bw S b).2 oa on oc Lo w' M Db Fs Do/\ak M w1 w'):=by
 refine(DO a.buf a.set a.cl k).mono ?_;rintro _ w2 ⟨j,rfl,d,g,h,f,rfl,l,m,n,o,p,e⟩;have t:=e.size;exact Ok.mk ⟨d,g,h,f,rfl,l,m,n,o,⟨p,a.set.af e λb c q=>(a.nM b q).2 c,λi r=>(a.Lu i r).af e λb c=>(a.nO b c).2.2.1,a.out.af e λb c=>(a.nA b c).2.1,a.nM,a.nD,a.nF,λb c=>⟨(a.nO b c).1,by have:=(a.nO b c).2.1;omega,(a.nO b c).2.2⟩,a.nA,a.af.new e λb c=>(a.nM b c).1,a.cl⟩,e⟩
end
section
variable {w w' w0 w1 w2:World} {p wp most s on oc:Nat} {F E T Z M0 D0 M Db Fs Do:Nat->Prop} {cls:Nat->Nat} {h:iP} {c:cy} {self:Int} {X:bE} {S:aw} {b:List aj} {oa:Option Addr} {Lo:List (Bx aj)} {evs:List aj} {ea:Option Addr} {en ec:Nat}
theorem Ba (most:Nat) (a:List aj) (b:aj):(eI most a b).2.length<=a.length+1:=by
 unfold eI;split
 ·show a.length<=_;omega
 ·show(de b a).length<=_
  rw [(cW b a).length_eq];simp
theorem MD (N:cu w F cls p h c self X) (e4:kH c self) (hr:Row f_ 96 w E ea en evs) (B:∀b,E b->b<w.heap.size/\¬F b) (m7:evs.length<=1000) (hl:X.S.l.length<=18000000):
  Calls Tryz.prog 122 #[.pointer (some ⟨p,0,none⟩),.slice ea en ec] w (Ok λf1 w'=>∃oa on oc Lo U q Do,f1= .slice oa on oc/\aO oz.jt 60 (λb=>aF oa=some b) w' oa on oc Lo/\Lo.map (·.x)=(jV c X evs).1/\(∀a∈Lo,oz.In w' Do a)/\
   cu w' U q p h c self {X with waits:=(jV c X evs).2}/\cz F w U w'/\(∀b,Do b->b<w'.heap.size/\aF oa≠some b/\¬(U b/\q b=2))/\(∀b,aF oa=some b->w.heap.size<=b/\¬U b)/\(jV c X evs).1.length<=evs.length+256):=by
 obtain⟨n3,n4,n8⟩:=e4.bR;have e5:=N.aC;have j0:=N.Hu;obtain⟨hS,a0,hn⟩:=(show cj w h.sp (λb=>F b/\cls b=3) X.S/\X.S.Cl/\X.S.n=c.bR.toNat from N.at' 3)
 obtain⟨M0,D0,u,c1,a1⟩:=(show Mh w (λb=>F b/\cls b=5) h.wp c.buffer.toNat X.waits from N.at' 5)
 have f3:X.waits.length<=256:=Xx u.1.2.le u.1.1;have n9:=hr.len;refine lT (PC.ok (HE (evs:=[]) N e4 (dy w (λ_=>False)) (λb e=>e.elim) (by simp;omega)) ?_);rintro _ w4 ⟨s,j1,rfl,j2,b1,k4⟩;have e6:ef c X.S []=X.S:=(Am a0 hn []).trans rfl;have z4:=k4.size;have j3:(ef c X.S []).Cl:=by rw [e6];exact a0
 have j4:(ef c X.S []).l.length=X.S.l.length:=by rw [e6]
 have j5:Fj w h.wp c.buffer.toNat M0 D0 E s (ef c X.S []) X.waits none 0 0 [] w4 M0 D0 j1 (λ_=>False):=by
  have j6:=u.ME;have e7:=u.HI;refine⟨u.ah k4,j2,sM,(aO.nil w4).mono (λb e=>e.elim) (λb e=>(by cases e)),λb e=>⟨.inl e,λl=>by have:=j6 b e;have:=b1 b l;omega⟩,λb e=>⟨.inl e,λl=>by have:=(e7 b e).1;have:=b1 b l;omega⟩,b1,λb e=>e.elim,λb e=>(by cases e),ai.af k4,j3⟩
 have C:∀{w1:World},ak M0 w w1->w1.heap[p]? =some (.cells (h.cells c self) 85 (0,0)):=λ{w1} hk=>hk.get N.bg λm=>by
  have:=(c1 p m).2;rw [j0.2]at this;cases this
 have e8:∀b,E b->¬M0 b:=λb e m=>(B b e).2 (c1 b m).1;obtain⟨H,e9⟩:∃H,H=ia c.buffer.toNat evs (ef c X.S []) [] X.waits:=⟨_,rfl⟩
 have t:jV c X evs=uL (H.2.2.length+1) H.1 H.2.1 H.2.2:=by rw [e9];rfl
 refine⟨_,rfl,λI oa on oc J w'=>∃(f:Nat) (S:aw) (b:List aj) (Lo:List (Bx aj)) (M Db Fs Do:Nat->Prop),J=f/\f<=en/\I=en-f/\Fj w h.wp c.buffer.toNat M0 D0 E s S b oa on oc Lo w' M Db Fs Do/\ia c.buffer.toNat (evs.drop f) S (Lo.map (·.x)) b=H/\S.l.length<=X.S.l.length+Lo.length/\Lo.length<=f/\b.length<=256/\Lo.length+b.length<=X.waits.length+f,
  ⟨_,0,_,_,_,_,_,_,_,rfl,Qj _,rfl,j5,e9.symm,by simp [j4],sM,f3,sM⟩,?_⟩
 rintro I oa on oc _ _ f2 ⟨f,S,b,Lo,M,Db,Fs,Do,rfl,hj,rfl,l,v,V,g0,b3,g1⟩;have j7:=l.af.size;have j8:=l.out.len dC;refine al.dec (λj9=>?_) (λk0=>?_)
 ·obtain⟨a,j⟩:∃a,evs[f]? =some a:=⟨_,Qq oM⟩
  have a8:evs.drop f=a::evs.drop (f+1):=by
   rw [X4 oM]
   congr 1
   exact(Qv.1 j).2
  rw [a8]at v;obtain⟨gb,go,es,ha,k1,o0,d2,xa,xn,xc,rfl,d3,b4⟩:=(hr.af l.af e8).el f a j;refine⟨gb,go,ha,oM,oM,bq (es:=aB a xa xn xc) (k:=10) (aV _ _ _ _) rfl (λJ ht=>by rw [Qx];exact d2 J ht) (PA.mk λo1 k2 o2 k3=>az (aV a xa xn xc) k3 rfl λk5 k6 o3 g2=>ar (aV a xa xn xc) g2 ?_)⟩;have a2:ai f2 k5:=k2.new k6 λb e=>.inr (by have e:b=f2.heap.size:=e;omega);have o4:=a2.size;have d4:∀b,E b->¬Fs b:=λb e m=>by have:=l.nF b m;have:=(B b e).1;omega
  refine PC.ok ((l.ah a2).add (d3.ah a2) (λb e=>⟨by have:=(B b e).1;omega,d4 b e⟩) b4 oM) ?_;rintro _ k7 ⟨rfl,O,K,a5,m8⟩;have o5:=a5.size;have b5:=l.set.aC;have x:=a5.get g2 λm=>by have:=b5 _ m;omega
  have g3:=S.yo a;have f4:ia c.buffer.toNat (a::evs.drop (f+1)) S (Lo.map (·.x)) b=if(S.add a).1=0 then ia c.buffer.toNat (evs.drop (f+1)) (S.add a).2 (Lo.map (·.x)++[a]) b else if(S.add a).1=16 then ia c.buffer.toNat (evs.drop (f+1)) S (Lo.map (·.x)) b else ia c.buffer.toNat (evs.drop (f+1)) S (Lo.map (·.x)) (eI c.buffer.toNat b a).2:=rfl
  rw [f4]at v;have a9:(S.add a).1≠0->(S.add a).2=S:=λW=>by
   rcases S.ig a with⟨-,g⟩|⟨g,-⟩
   ·exact g
   ·rw [g]at W;exact absurd rfl W
  refine⟨_,rfl,al.dJ (λr=>?_) (λr=>al.dJ (λd5=>?_) (λd5=>λk8 k9=>?_))⟩
  ·rw [if_pos r]at v
   have c4:(S.add a).2.l.length<=S.l.length+1:=g3;refine⟨_,_,_,_,_,_,_,_,_,_,_,_,ae x rfl,ae x rfl,ae x rfl,ae x rfl,ae x rfl,ae x rfl,ae x rfl,ae x rfl,ae x rfl,ae x rfl,PA.mk λl0 d6 o6 l3=>?_⟩;have g4:oz.In l0 E ⟨a,xa,xn,xc⟩:=⟨((d3.ah a2).af a5 λb e=>d4 b e).ah d6,b4⟩
   have g5:=K.ah d6;refine g5.push u_ g4 (λb e=>⟨.inl e,by have:=(B b e).1;have:=d6.size;omega,λm=>?_,λm=>by have:=K.nF b m;have:=(B b e).1;omega,λo=>by have:=(K.nA b o).1;have:=(B b e).1;omega⟩) l3 oM λa' c' o7 P g6 m9 _=>⟨_,_,_,rfl,_,oM,f+1,_,_,_,M,Db,O,P,aq oM,oM,rfl,g6,?_,?_,?_,b3,?_⟩
   ·rcases(K.nM b m).1 with g|g
    ·exact e8 b e g
    ·have:=(B b e).1;omega
   ·rw [Q3];exact v
   ·rw [QX,List.length_singleton];omega
   ·rw [QX,List.length_singleton];omega
   ·rw [QX,List.length_singleton];omega
  ·rw [if_neg r,if_pos d5]at v
   rw [a9 r]at K;exact⟨_,oM,f+1,S,b,Lo,M,Db,O,Do,aq oM,oM,rfl,K,v,V,oM,b3,oM⟩
  ·rw [if_neg r,if_neg d5]at v
   rw [a9 r]at K;have c5:ai k7 k8:=k9.af;have c9:=K.ah c5;refine⟨p,0,rfl,_,ae (C c9.af) rfl,ar (aV a xa xn xc) (c5.get x id) (PC.ok (c9.wait (((d3.ah a2).af a5 λb e=>d4 b e).ah c5) (λb e=>by have:=(B b e).1;have:=c5.size;omega) b4) ?_)⟩;rintro _ o8 ⟨J,rfl,M',b6,b7,n0⟩;have d7:=Ba c.buffer.toNat b a;have g7:(eI c.buffer.toNat b a).2.length<=256:=Xx b7.buf.1.2.le b7.buf.1.1;exact⟨_,rfl,_,oM,f+1,S,_,Lo,M',b6,O,Do,aq oM,oM,rfl,b7,v,V,oM,g7,oM⟩
 have o9:f=evs.length:=oM
 rw [List.drop_eq_nil_of_le oM]at v;have d0:H=(S,Lo.map (·.x),b):=v.symm;rw [d0]at t;have b8:Lo.length+b.length<=evs.length+256:=oM
 refine⟨λI oa on oc w'=>∃(S:aw) (b:List aj) (Lo:List (Bx aj)) (M Db Fs Do:Nat->Prop) (k:Nat),I=b.length/\Fj w h.wp c.buffer.toNat M0 D0 E s S b oa on oc Lo w' M Db Fs Do/\b.length<=k/\uL (k+1) S (Lo.map (·.x)) b=jV c X evs/\S.l.length<=X.S.l.length+Lo.length/\Lo.length+b.length<=evs.length+256,
  ⟨_,S,b,Lo,M,Db,Fs,Do,b.length,rfl,l,Q4 _,t.symm,V,b8⟩,?_⟩
 clear l v V g0 b3 g1 b8 j8 j7 d0 t
 rintro I oa on oc _ p0 ⟨S,b,Lo,M,Db,Fs,Do,k,rfl,l,hk,t,V,g1⟩;have p1:=l.af.size;refine⟨p,0,rfl,_,ae (C l.af) rfl,PC.ok (l.ready oM) ?_⟩;rintro _ p2 ⟨Y,n2,f5,Z,rfl,g8,d8,l4,g9,n,h2⟩;have p3:=g8.len dC;have d7:=uK S b;have h3:Z.length=(bw S b).1.length:=by rw [<-d8,Q8]
 have l5:uL (k+1) S (Lo.map (·.x)) b=if(bw S b).1=[]then(Lo.map (·.x),(bw S b).2)else uL k (ep (bw S b).1 S (Lo.map (·.x))).1 (ep (bw S b).1 S (Lo.map (·.x))).2 (bw S b).2:=rfl
 rw [l5]at t;have p4:=h2.size;refine⟨_,_,_,rfl,al.dJ (λr=>?_) (λr=>?_)⟩
 ·have h4:(bw S b).1=[]:=QW oM
  rw [if_pos h4]at t;rw [<-t];have hM:=n.buf.ME;have l6:=n.buf.HI;obtain⟨U,q,b9,a3,l7,c2,-⟩:=N.dZ bB (k:=5) (G':=λb=>M b\/Db b) (C2:=km p (h.cells c self) h c {X with waits:=(bw S b).2} X.S.l) (n.af.mono λb _ e=>c1 b e)
   (λa j=>j.elim (λg=>(n.nM a g).1.imp (c1 a) id) λg=>(n.nD a g).1.imp (a1 a) id) (λa j=>j.elim (hM a) λg=>(l6 a g).1) ⟨M,Db,n.buf,λ_ h=>.inl h,λ_ h=>.inr h⟩ λf G hj hc=>by
    rcases f with _|_|_|_|_|_|_|f<;>first|exact hc|exact absurd rfl hj
  refine Ok.mk ⟨oa,on,oc,Lo,U,q,Do,rfl,n.out,rfl,n.Lu,b9,a3,λa j=>⟨(n.nO a j).2.1,λo=>(n.nA a o).2.2.2.1 j,λQ=>?_⟩,λa j=>⟨(n.nA a j).1,λQ=>?_⟩,by rw [Q8];omega⟩
  ·have d9:F a/\cls a=2:=by
    have:=congrFun (c2 2 dC) a;exact this▸Q
   rcases(n.nO a j).1 with g|g|g
   ·exact(B a g).2 d9.1
   ·have:=(a1 a g).2;rw [d9.2]at this;cases this
   ·have:=e5 a d9.1;omega
  ·rcases l7 a Q with g|g
   ·have:=e5 a g.1;have:=(n.nA a j).1;omega
   ·exact g.elim (n.nA a j).2.1 (n.nA a j).2.2.2.2
 ·have W:(bw S b).1≠[]:=λo=>by rw [o,List.length_nil]at h3;omega
  rw [if_neg W]at t;obtain⟨k',rfl⟩:∃k',k=k'+1:=⟨k-1,by
   have:0<b.length:=by
    have:=List.length_pos_iff.2 W;omega
   omega⟩
  obtain⟨av,e0⟩:∃av,av=ep (bw S b).1 S (Lo.map (·.x)):=⟨_,rfl⟩
  rw [<-e0]at t;have h7:Lo.length+Z.length+(bw S b).2.length<=evs.length+256:=oM
  obtain⟨b2,b3⟩:∃b2,b2=(bw S b).2:=⟨_,rfl⟩
  rw [<-b3]at t n h7 d7;have e7:=n.buf.HI;obtain⟨y,hR⟩:∃y,y=(bw S b).1:=⟨_,rfl⟩
  rw [<-hR]at d8 h3 d7 e0;have f6:∀d,aF Y=some d->¬Fs d/\aF oa≠some d:=λd i=>by
   have g:=g9 d i;exact⟨λm=>by have:=l.set.aC d m;omega,λo=>by have:=l.out.aC d o;omega⟩
  have p5:∀d,aF Y=some d->¬Db d:=λd i m=>by
   have g:=g9 d i;have h6:=(l.buf.HI d m).1;omega
  refine⟨λI oa on oc J w'=>∃(f:Nat) (S:aw) (Lo:List (Bx aj)) (Fs Do:Nat->Prop),J=f/\f<=n2/\I=n2-f/\Fj w h.wp c.buffer.toNat M0 D0 E s S b2 oa on oc Lo w' M Db Fs Do/\ep (y.drop f) S (Lo.map (·.x))=av/\S.l.length<=X.S.l.length+Lo.length/\Lo.length+(n2-f)+b2.length<=evs.length+256/\aO oz.jt 60 (λb=>aF Y=some b) w' Y n2 f5 Z/\(∀a∈Z,oz.In w' Db a)/\∀d,aF Y=some d->¬Fs d/\aF oa≠some d,
   ⟨_,0,S,Lo,Fs,Do,rfl,Qj _,rfl,n,e0.symm,V,oM,g8,l4,f6⟩,?_⟩
  rintro I c3 f7 f8 _ _ h8 ⟨f,z,b0,l8,h9,rfl,hj,rfl,L,R,l9,b8,c4,i0,e2⟩;have p6:=L.af.size;have n1:=L.out.len dC;refine al.dec (λj9=>?_) (λk0=>?_)
  ·obtain⟨a,j⟩:∃a,Z[f]? =some a:=⟨_,Qq oM⟩
   have i1:y[f]? =some a.x:=by rw [<-d8,Q9,j];rfl
   have a8:y.drop f=a.x::y.drop (f+1):=by
    rw [X4 (Qv.1 i1).1]
    congr 1
    exact(Qv.1 i1).2
   have i2:ep (a.x::y.drop (f+1)) z (b0.map (·.x))=if(z.add a.x).1=0 then ep (y.drop (f+1)) (z.add a.x).2 (b0.map (·.x)++[a.x])else ep (y.drop (f+1)) (z.add a.x).2 (b0.map (·.x)):=rfl
   rw [a8,i2]at R;have d1:=i0 a (QZ j);obtain⟨gb,go,es,ha,k1,p7,d2,rfl,-⟩:=(c4.row (bytes:=96) dC (by unfold aI;omega)).el f a j;refine⟨gb,go,ha,oM,oM,bq (es:=aB a.x a.a a.n a.c) (k:=10) (aV _ _ _ _) rfl (λJ ht=>by rw [Qx];exact d2 J ht) (PA.mk λp8 m0 p9 m1=>az (aV a.x a.a a.n a.c) m1 rfl λm2 m3 q0 i3=>ar (aV a.x a.a a.n a.c) i3 ?_)⟩;have a4:ai h8 m2:=m0.new m3 λb e=>.inr (by have e:b=h8.heap.size:=e;omega);have q1:=a4.size;have m4:=L.buf.HI;have i4:=c4.aC;refine PC.ok ((L.ah a4).add (d1.af a4 λ_ _ h=>h).1 (λd i=>⟨by have:=(m4 d i).1;omega,(L.nD d i).2⟩) d1.2 oM) ?_;rintro _ m5 ⟨rfl,e3,T,a6,i5⟩;have q2:=a6.size;have b5:=L.set.aC;have A:=a6.get i3 λm=>by have:=b5 _ m;omega
   have g3:=z.yo a.x;have c6:=(c4.ah a4).af a6 λd i=>(e2 d i).1;have c7:∀d∈Z,oz.In m5 Db d:=λd i=>((i0 d i).af a4 λ_ _ h=>h).af a6 λc8 Q=>(L.nD c8 Q).2;have a7:∀d,aF Y=some d->¬e3 d/\aF c3≠some d:=λd i=>⟨λm=>(i5 d m).elim (e2 d i).1 λg=>by have:=i4 d i;omega,(e2 d i).2⟩
   refine⟨_,rfl,al.dJ (λr=>?_) (λr=>?_)⟩
   ·rw [if_pos r]at R
    refine⟨_,_,_,_,_,_,_,_,_,_,_,_,ae A rfl,ae A rfl,ae A rfl,ae A rfl,ae A rfl,ae A rfl,ae A rfl,ae A rfl,ae A rfl,ae A rfl,PA.mk λq3 c0 q4 m6=>?_⟩;have i6:=T.ah c0;have e1:=T.buf.HI;have q5:=c0.size;refine i6.push u_ ((c7 a (QZ j)).af c0 λ_ _ h=>h) (λd i=>⟨.inr (T.nD d i).1,by have:=(e1 d i).1;omega,(e1 d i).2,(T.nD d i).2,λo=>(T.nA d o).2.2.2.2 i⟩) m6 oM λa' c' q6 P i7 f0 i8=>⟨_,_,_,rfl,_,oM,f+1,_,_,e3,P,aq oM,oM,rfl,i7,?_,?_,?_,(c6.ah c0).af f0 λd i o=>(a7 d i).2 o,λd i=>((c7 d i).af c0 λ_ _ h=>h).af f0 λc8 Q o=>(T.nA c8 o).2.2.2.2 Q,λd i=>⟨(a7 d i).1,λo=>?_⟩⟩
    ·rw [Q3];exact R
    ·rw [QX,List.length_singleton];omega
    ·rw [QX,List.length_singleton];omega
    ·rcases i8 d o with g|g
     ·exact(a7 d i).2 g
     ·have:=c6.aC d i;omega
   ·rw [if_neg r]at R
    have a9:(z.add a.x).2.l.length<=z.l.length:=by
     rcases z.ig a.x with⟨-,g⟩|⟨g,-⟩
     ·rw [g];exact Q4 _
     ·rw [g]at r;exact absurd rfl r
    exact⟨_,oM,f+1,_,b0,e3,h9,aq oM,oM,rfl,T,R,oM,oM,c6,c7,a7⟩
  ·rw [List.drop_eq_nil_of_le oM]at R
   have i9:av=(z,b0.map (·.x)):=R.symm;rw [i9]at t;have q7:0<y.length:=by have:=List.length_pos_iff.2 W;rw [<-hR]at this;exact this
   exact⟨b2.length,oM,z,b2,b0,M,Db,l8,h9,k',rfl,L,oM,t,l9,oM⟩
end
end Go.Proofs.YthnilpgpacdmnaaGreatDoor

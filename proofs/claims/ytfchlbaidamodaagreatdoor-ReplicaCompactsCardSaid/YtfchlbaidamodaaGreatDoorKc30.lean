import Derived.Test.YtfchlbaidamodaaGreatDoorKc29
set_option linter.all false
set_option maxRecDepth 20000
namespace Go.Proofs.YtfchlbaidamodaaGreatDoor
open Go.ax
def DD{D:ak}{size:Int}(a:(aM D size).no=0):(aM D size).V.aX≠[]:=by
 revert a
 unfold aM;generalize cZ (told D) [] (dY D size) D=d;unfold gj;split
 ·rename_i c;intro a;exact absurd a c
 split
 ·intro a;exact tY a
 rename_i b;split
 ·intro _;exact b
 ·intro _;exact b
abbrev yQ(a:ko)(b:cz)(c:Int)(d e f:Option Addr):Array Value:= #[QH b.bl,QH b.nY,QH b.aZ,QH b.chunk,QH b.buffer,QH b.dx,QH b.every,QH b.start,.slice a.ta a.tn a.tc,.slice a.pa a.pn a.pc,QH c,
 ZX a.dp,.pointer d,.pointer e,.pointer f,ZX a.wp,ZX a.tp]
def recC(e:Nat)(f:Array Value)(b:ko)(d:cz)(c:bw)(g:Bool):Nat->World->(Nat->Prop)->Prop
 |0=>λa G=>G e/\a.heap[e]? =some (.cells f 99 (0,0))
 |1=>λa G=>bh a G d.decl b.ta b.tn b.pa b.pn
 |2=>λa G=>DL a G b.dp b.lp c.D c.log
 |3=>λa G=>g=true->cV a b.sp G c.S/\c.S.Cl/\c.S.n=d.bl.toNat
 |5=>λa G=>Mw a G b.wp d.buffer.toNat c.waits
 |6=>λa G=>eG a b.tp G c.fP
 |_=>λ_ _=>True
variable{r:Array Value}{I:Bool}
section
variable {w w' w0:World} {p:Nat} {F E T:Nat->Prop} {cls:Nat->Nat} {h:ko} {c:cz} {self:Int} {X:bw} {evs lB:List ah} {ea:Option Addr} {en ec:Nat}
def iw:vC (recC p r h c X I):=by
 intro k w w' G T a d b
 match k,a with
 |0,a=>exact⟨a.1,d.get a.2 (b p a.1)⟩
 |1,a=>exact bh.keep a d b
 |2,a=>exact DL.keep a d b
 |3,a=>exact λg=>⟨cV.keep (a g).1 d b,(a g).2⟩
 |4,a=>trivial
 |5,a=>obtain⟨l,D,m,i,j⟩:=a;exact⟨l,D,m.keep d (λe f=>b e (i e f)) λe f=>b e (j e f),i,j⟩
 |6,a=>exact eG.keep a d b
 |k+7,a=>trivial
def zO{z1 z2 z3:Option Addr}(T:bS w F cls (recC p (yQ h c self z1 z2 z3) h c X false))(M:kU c self)(B:Env w0 w F):
  Calls ZQ 38 #[ZX p] w (Ok λC w'=>C= QH (eR c X).1/\(eR c X).2.S.l.length<=16777216/\∃U r f,c_ w' r f p U c self (eR c X).2/\de F w r w'):=by
 obtain⟨f6,d1,j4⟩:=M.bl;have g0:=T.aF;have V:F p/\cls p=0:=(T.at' 0).1;have i9:1<=c.every:=by
  have:=M.right;unfold gG at this;simp only[QK,decide_eq_true_eq]at this;omega
 refine lX λw3 d3=>?_;have W:ai w w3:=d3.keep;have N:=bS.af T iw W;have O:=(N.at' 0).2;refine⟨λ_=>False,p,0,rfl,_,ae O rfl,p,0,rfl,id,_,_,_,_,_,_,ae O rfl,ae O rfl,p,0,rfl,id,_,ae O rfl,?_⟩;rw[f6];refine PC.ok (GX d1) ?_;rintro _ d2 ⟨g,F2,rfl,Y,d4,E⟩;have a9:=W.then E;have d5:=bS.af N iw E;refine⟨_,rfl,E,PC.ok (Rr M.decl M.every ((B.oH.af B.gr).af a9) (show bh d2 (λa=>F a/\cls a=1) c.decl h.ta h.tn h.pa h.pn from d5.at' 1) λa b=>d5.aF a b.1) ?_⟩;rintro _ g1 ⟨j,F4,rfl,Z,d6,b7⟩;have y3:=W.size;have j5:=E.size;have j6:=b7.size;rw[show(max 1 c.every).toNat=c.every.toNat by congr 1;omega]at Z;have j0:=Y.aF;obtain⟨Fa,d7,H,b0,g2,-⟩:=N.II iw (k:=3) (w':=d2) (G':=F2) (C2:=recC p (yQ h c self z1 z2 z3) {h with sp:=g} c {X with S:=⟨c.bl.toNat,[]⟩} true) (ai.keep E) (λa b n=>by have:=d4 a b;have:=g0 a n;omega) Y.aF (λ_=>⟨Y,aq.Cl.new d1,rfl⟩) λd G k l=>by
  rcases d with _|_|_|_|_|_|_|d<;>first|exact l|exact absurd rfl k
 obtain⟨v,s,b8,b1,g4,-⟩:=H.II iw (k:=4) (w':=g1) (G':=F4) (C2:=mf p (yQ h c self z1 z2 z3) {h with sp:=g,bp:=j} c {X with S:=⟨c.bl.toNat,[]⟩} []) (ai.keep b7) (λa b n=>by have:=d6 a b;have:=H.aF a n;omega) Z.aF Z λd G k l=>by
  rcases d with _|_|_|_|_|_|_|d<;>first|exact l|exact l rfl|exact absurd rfl k
 have e1:∀a,v a->F a\/w.heap.size<=a:=λa b=>by
  rcases g4 a b with m|m
  ·rcases g2 a m.1 with h6|h6
   ·exact .inl h6.1
   ·exact .inr (by have:=d4 a h6;omega)
  ·exact .inr (by have:=d6 a m;omega)
 refine⟨_,rfl,p,0,rfl,PS.mk (b8.at' 0).2 sM λj7 d8 j8 g5=>⟨p,0,rfl,PS.mk g5 sM λb9 d9 j9 g6=>λc0 g7=>?_⟩⟩;have j1:v p/\s p=0:=(b8.at' 0).1;have e0:ai b9 c0:=g7.keep;have g8:bS b9 v s (mf p (yQ h c self z1 (ZZ g) (ZZ j)) {h with sp:=g,bp:=j} c {X with S:=⟨c.bl.toNat,[]⟩} []):=c_.store b8 (d8.then d9) g6;have b2:de F w v b9:=⟨((ai.keep a9).af b7).then ((d8.then d9).mono λa _ i=>by have i:a=p:=i;rw[i];exact V.1),e1⟩
 have I:=bS.af g8 cj e0;have P:de F w v c0:=⟨b2.keep.af e0,b2.new⟩
 have e4:=B.Ec P;have e2:=(I.at' 0).2;have g9:=DL.nY (show DL c0 (λa=>v a/\s a=2) h.dp h.lp X.D X.log from I.at' 2) (e4.sub λa b=>b.1);refine⟨p,0,rfl,_,ae e2 rfl,p,0,rfl,_,ae e2 rfl,PC.ok (Jp B.laid g9) ?_⟩;have a0:∀{e},(if(aM X.D c.aZ).no≠0 then((aM X.D c.aZ).no,{X with D:=(aM X.D c.aZ).D,log:=none,S:=⟨c.bl.toNat,[]⟩})
   else(0,{X with D:=(aM X.D c.aZ).D,log:=some (aM X.D c.aZ).V,S:=(⟨c.bl.toNat,[]⟩:aq).eI (aM X.D c.aZ).out}))=e->eR c X=e:=λ{e} hq=>hq
 have b3:=DD (D:=X.D) (size:=c.aZ);generalize aM X.D c.aZ=e at a0 b3;rintro _ h4 (⟨J,rfl,e8,c2⟩|⟨J,t,e9,a1,cc,G,rfl,c3,h7,c2,hG,hq,j2⟩)
 ·obtain⟨G2,c4,a2,c5,-⟩:=DL.OG (Y:=λ_=>False) (e8.mono λa b=>b.elim id False.elim) c2
  obtain⟨u,Q,x,a3,-,-⟩:=I.Ec cj (k:=2) (G':=G2) (C2:=mf p (yQ h c self z1 (ZZ g) (ZZ j)) {h with sp:=g,bp:=j,lp:=none} c {X with S:=⟨c.bl.toNat,[]⟩,D:=e.D,log:=none} []) a2 c5 (by
    obtain⟨Fd,h1,h2,N⟩:=c4;exact⟨Fd,h1,h2,rfl⟩) λd G k l=>by
   rcases d with _|_|_|_|_|_|_|d<;>first|exact l|exact absurd rfl k
  refine⟨_,_,_,_,_,rfl,p,0,rfl,PS.mk (x.at' 0).2 sM λy z e3 c6=>al.dw (λ_=>Ok.mk ?_) (λh0=>absurd h0 J)⟩;rw[a0 (if_pos J)];refine⟨rfl,Qj _,{h with sp:=g,bp:=j,lp:=none},u,Q,c_.store x z c6,?_⟩;have K:=P.trans a3;exact⟨K.keep.then (z.mono λa _ i=>by have i:a=p:=i;rw[i];exact V.1),K.new⟩
 ·obtain⟨G2,c4,a2,c5,hY⟩:=DL.Ii h7 c2 (b3 J)
  obtain⟨u,Q,x,a3,h8,-⟩:=I.Ec cj (k:=2) (G':=G2) (C2:=mf p (yQ h c self z1 (ZZ g) (ZZ j)) {h with sp:=g,bp:=j,lp:=ZZ t} c {X with S:=⟨c.bl.toNat,[]⟩,D:=e.D,log:=some e.V} []) a2 c5 c4 λd G k l=>by
   rcases d with _|_|_|_|_|_|_|d<;>first|exact l|exact absurd rfl k
  refine⟨_,_,_,_,_,rfl,p,0,rfl,PS.mk (x.at' 0).2 sM λy z e3 c6=>al.dw (λh0=>absurd rfl h0) (λ_=>?_)⟩;have f0:bS y u Q (mf p (({h with sp:=g,bp:=j,lp:=ZZ t}:ko).cells c self) {h with sp:=g,bp:=j,lp:=ZZ t} c {X with S:=⟨c.bl.toNat,[]⟩,D:=e.D,log:=some e.V} []):=c_.store x z c6;have K:=P.trans a3;have b4:de F w u y:=⟨K.keep.then (z.mono λa _ i=>by have i:a=p:=i;rw[i];exact V.1),K.new⟩
  have j3:=P.keep.size;have c7:∀a,G a->¬u a:=λa b n=>by
   rcases h8 a n with m|m
   ·have:=I.aF a m.1;have:=hG a b;omega
   ·exact hY a m b
  have h9:∀a,G a->a≠p:=λa b i=>c7 a b (i▸(x.at' 0).1.1);have b5:=c3.aF;have k0:=c3.len dC;have b6:Row fZ 96 y G e9 a1 e.out:=qz.row (((c3.keep z λa b i=>h9 a b i)).row dC (by unfold aQ;omega));have k1:y.heap.size=h4.heap.size:=e3;rw[a0 (if_neg (by simpa using J))];have f9:=Im b6;refine⟨λc1 a4 w'=>∃(d:Nat) (R:Nat->Prop) (e5:Nat->Nat),a4=d/\d<=a1/\c1=a1-d/\bS w' R e5 (mf p (({h with sp:=g,bp:=j,lp:=ZZ t}:ko).cells c self) {h with sp:=g,bp:=j,lp:=ZZ t} c {X with S:=(⟨c.bl.toNat,[]⟩:aq).eI (e.out.take d),D:=e.D,log:=some e.V} [])/\de u y R w',
   ⟨_,0,u,Q,rfl,Qj _,rfl,f0,de.refl _ _⟩,?_⟩
  rintro c1 _ _ e6 ⟨d,R,e5,rfl,k,rfl,c8,A⟩;have i0:∀a,G a->¬R a:=λa b n=>by
   rcases A.new a n with m|m
   ·exact c7 a b m
   ·have:=b5 a b;omega
  have c9:=aq.np (e.out.take d) ⟨c.bl.toNat,[]⟩;rw[Qy]at c9;simp only[List.length_nil]at c9;refine al.dec (λk2=>?_) (λk4=>?_)
  ·obtain⟨o,S⟩:∃o,e.out[d]? =some o:=⟨_,Qq oM⟩
   obtain⟨a,f1,es,ha,k5,k6,i1,xa,xn,xc,rfl,i2,d0⟩:=(b6.keep A.keep c7).el d o S;refine⟨a,f1,ha,oM,oM,br (es:=aE o xa xn xc) (k:=10) (bg _ _ _ _) rfl (λa4 ht=>by rw[Qx];exact i1 a4 ht) (PA.mk λk7 i3 k8 i4=>aD (bg o xa xn xc) i4 rfl λk9 i5 l0 i6=>λi7 e7=>?_)⟩;have L:ai e6 i7:=(i3.new i5 λa b=>.inr (by have b:a=e6.heap.size:=b;omega)).then e7.keep;have a5:=bS.af c8 cj L;have l3:=A.keep.size;obtain⟨f3,f4,f5⟩:=a5.at' 3;refine⟨p,0,rfl,_,ae (a5.at' 0).2 rfl,aw (bg o xa xn xc) ((e7.keep (S:=λ_=>False)).get i6 id) (PC.ok (vH f3 (i2.af L) (λa b=>⟨by have:=b5 a b;have:=L.size;omega,λn=>i0 a b n.1⟩) d0 (by show((⟨c.bl.toNat,[]⟩:aq).eI (e.out.take d)).l.length<_;omega)) ?_)⟩;rintro _ l4 ⟨rfl,F8,f2,f7⟩;have i8:((⟨c.bl.toNat,[]⟩:aq).eI (e.out.take (d+1)))=(((⟨c.bl.toNat,[]⟩:aq).eI (e.out.take d)).add o).2:=by
    rw[Qw,S];exact aq.nq ..
   obtain⟨F9,a6,a7,q,-⟩:=a5.Ec cj (k:=3) (G':=F8) (C2:=mf p (({h with sp:=g,bp:=j,lp:=ZZ t}:ko).cells c self) {h with sp:=g,bp:=j,lp:=ZZ t} c {X with S:=(⟨c.bl.toNat,[]⟩:aq).eI (e.out.take (d+1)),D:=e.D,log:=some e.V} []) f7 f2.aF (by rw[i8];exact⟨f2,f4.add d0,(aq.Vd _ _).trans f5⟩) λd G k l=>by
    rcases d with _|_|_|_|_|_|_|d<;>first|exact l|exact absurd rfl k
   exact⟨_,rfl,_,oM,d+1,F9,a6,an oM,oM,rfl,a7,A.trans ⟨(ai.keep L).then q.keep,λa b=>(q.new a b).imp id λh1=>by have:=L.size;omega⟩⟩
  ·rw[Qz oM]at c8 c9
   exact DF c8 (B.Ec (b4.trans A)) (λg3 o h3 S=>by simp at S) (by show((⟨c.bl.toNat,[]⟩:aq).eI e.out).l.length<=_;omega) (κ:=λC w'=>Ok (λC w'=>C= QH 0/\((⟨c.bl.toNat,[]⟩:aq).eI e.out).l.length<=16777216/\∃U r f,c_ w' r f p U c self {X with S:=(⟨c.bl.toNat,[]⟩:aq).eI e.out,D:=e.D,log:=some e.V}/\de F w r w') (.returned C) w')
    λw' r f a8 f8=>Ok.mk ⟨rfl,oM,_,r,f,a8,(b4.trans A).trans f8⟩
end
structure ve where
 code:Int
 id:Int×Int
 st:mV
 Wv:List df
 rows:List ep
 more:Bool
def n_(a:ve)(b:Option Addr)(c d:Nat)(e:Option Addr)(f g:Nat)(h:Option Addr)(i j:Nat):List Value:=
 [QH a.code,QH a.id.1,QH a.id.2,QH a.st.version,.slice b c d,.slice e f g,.slice h i j,.bool a.more]
def lR(a:ve)(b:Option Addr)(c d:Nat)(e:Option Addr)(f g:Nat)(h:Option Addr)(i j:Nat):jg ZQ 46 (n_ a b c d e f g h i j)=true:=kR
def ju(j:World)(a:ve)(k:Value)(b:World):Prop:=∃(d:Option Addr) (e l:Nat) (f:Option Addr) (g m:Nat) (h:Option Addr) (i n:Nat) (G:Nat->Prop),k= .agg (n_ a d e l f g m h i n).toArray/\
 Row fL 32 b G d e a.st.cells/\Row Ab 120 b G f g a.Wv/\Row IN 24 b G h i a.rows/\∀c,G c->j.heap.size<=c/\c<b.heap.size
abbrev pN(a:Int):ve:=⟨a,(0,0),⟨0,[]⟩,[],[],false⟩
abbrev OH(id:Int×Int):ve:=⟨0,id,⟨0,[]⟩,[],[],false⟩
structure jS.Ok (x:jS):Prop where
 bd:aN x.bd
 agg:aN x.agg
 field:aN x.field
 op:aN x.op
 arg:aN x.arg
 key:aN x.key
variable{e m:Int}{s:List Int}{N:Prop}{j:Type}{g:TypeId}{H:aq}{d3:jS}{f2:ve}
section
variable {w w' w0:World} {p:Nat} {F E T:Nat->Prop} {cls:Nat->Nat} {h:ko} {c:cz} {self:Int} {X:bw} {evs lB:List ah} {ea:Option Addr} {en ec:Nat}
def ju.plain(a:f2.st.cells=[])(b:f2.Wv=[])(c:f2.rows=[]):ju w f2 (.agg (n_ f2 none 0 0 none 0 0 none 0 0).toArray) w':=
 ⟨none,0,0,none,0,0,none,0,0,λ_=>False,rfl,by rw[a];exact eE _ _,by rw[b];exact eE _ _,by rw[c];exact eE _ _,λe d=>d.elim⟩
def row_one{a:kM j}{bytes b:Nat}{w:World}{o:Nat×Nat}{f:j}{D:Nat->Prop}(h:w.heap[b]? =some (.cells r g o))(i:a.rep w D f r.toList)(k:bytes<=1000):Row a bytes w (λc=>c=b\/D c) (ZZ b) 1 [f]:=by
 have p:=a.len i;refine⟨rfl,by unfold aQ;omega,λd q e=>?_⟩;obtain rfl:d=0:=by
  rcases d with _|d
  ·rfl
  ·simp at e
 simp at e;subst e;refine⟨b,0,r.toList,rfl,aC h,.inl rfl,λl m=>?_,a.mono i λc k=>.inr k⟩;have n:l<r.size:=by rw[<-p]at m;simpa using m
 rw[ae h (v:=r[l]) (by simp[n])];simp[n]
def Ww(k:H.OK){M:Int}(f:0<=M)(g:∀a∈H.l,a.aA<=M):H.top<=M:=by
 have:∀(c:List ah) (b:Int),b<=M->(∀a∈c,a.aA<=M)->c.foldl (λb a=>max b a.aA) b<=M:=by
  intro c
  induction c with
  |nil=>intro b d _;exact d
  |cons a c h=>
   intro b d e;refine h _ ?_ λi j=>e i (QJ _ j);have:=e a (QV ..);show max b a.aA<=M;omega
 exact this H.l 0 f g
def MW[Decidable N]{a b:ah×Bool×Int}(c:a.1.Ok)(d:b.1.Ok):(if N then a else b).1.Ok:=by
 split
 ·exact c
 ·exact d
def KA(a:d3.Ok)(f:aN e)(h:aN m)(b:∀g∈s,aN g):(a_ d3 e s m).2.Ok:=by
 have i:=DG b e;unfold a_;dsimp only
 by_cases c:e<0\/(s.length:Int)<=e\/m<0
 ·rw[if_pos c];exact DH
 rw[if_neg c]
 by_cases d:fH s e=9223372036854775807\/m=9223372036854775807
 ·rw[if_pos d];exact DH
 rw[if_neg d];refine⟨f,?_,?_,Gw b sM,a.bd,a.agg,a.field,a.op,a.arg,a.key⟩
 ·show aN (fH s e+1);unfold aN at*;omega
 ·show aN (m+1);unfold aN at*;omega
def UJ(f:H.l.length<=20000000):∀b∈H.vec,aN b:=λb d=>by
 obtain⟨e,a,rfl⟩:=List.getElem_of_mem d;rw[H.b_]at a;have c:=H.my a;rw[Qq (by rw[H.b_];exact a)]at c;rw[XJ c];have:=H.Mq e;unfold aN;omega
def OI(a:H.OK):aN H.top:=by
 have d:=Ww a (M:=9223372036854775807) oM λb c=>by have:=(a.ok b c).aA;unfold aN at this;omega
 have e:=H.CL;unfold aN;omega
def Ol{d:aR}{V:bk}(b:d3.Ok)(a:H.OK)(c:aN e)(j:aN m)(f:H.l.length<=20000000):(kV d H V e m d3).1.Ok:=by
 have g:aN (max H.top m):=by
  have k:=OI a;unfold aN at*;omega
 rw[nZ];refine MW DH ?_
 cases h:H.keyed d3.key with
 |some i=>exact a.ok i (List.mem_of_find?_eq_some h)
 |none=>exact MW DH (MW DH (KA b c g (UJ f)))
end
section
variable {w w' w0:World} {p:Nat} {F E T:Nat->Prop} {cls:Nat->Nat} {h:ko} {c:cz} {self:Int} {X:bw}
def kU.JG(a:kU c self):0<=self/\self<c.bl:=by
 have:=a.right;unfold gG within at this;simp only[QK,decide_eq_true_eq]at this;omega
def rL(hr:bP w p F c self X)(K:Env w0 w F)(hx:d3.Ok)(hl:X.S.l.length+1<=20000000):
  Calls ZQ 14 #[ZX p,uu d3] w (Ok λa3 w'=>∃f,ju w (if(cm c self X d3).1≠0 then pN (cm c self X d3).1 else OH (cm c self X d3).2.1) a3 w'/\bP w' p f c self (cm c self X d3).2.2/\de F w f w'):=by
 have b8:=hr;obtain⟨r,h,cls,n⟩:=hr;have v:=n.aF;have e2:=(n.Kp)
 have g6:=v p e2.1;have d4:aN self:=by have:=r.JG;have:=r.bl;unfold aN;omega
 refine lW (PA.mk λE e3 g7 e4=>PA.mk λb2 c1 g8 d5=>?_);have a1:=e3.then c1;have e5:=c_.af n a1;have H:∀{i:World} {f:Nat->Prop} {m:bw} {y:ve},y.st.cells=[]->y.Wv=[]->y.rows=[]->(∃s,i.heap[E.heap.size]? =some (.cells s 46 (0,0))/\s.size=8)->bP i p f c self m->(∀a,f a->F a\/b2.heap.size<=a)->de F w f i->(cm c self X d3).2.2=m->(if(cm c self X d3).1≠0 then pN (cm c self X d3).1 else OH (cm c self X d3).2.1)=y->
   xJ ZQ 46 (ZX E.heap.size) (.agg (n_ y none 0 0 none 0 0 none 0 0).toArray) i λc2=>ow ZQ 46 (ZX E.heap.size) c2 λd=>Ok (λa3 w'=>∃f,ju w (if(cm c self X d3).1≠0 then pN (cm c self X d3).1 else OH (cm c self X d3).2.1) a3 w'/\bP w' p f c self (cm c self X d3).2.2/\de F w f w') (.returned d) c2:=λ{i f m y} y1 y2 y3 hz b3 b4 Q hX hy=>by
  obtain⟨s,hg,e6⟩:=hz;refine aD (lR y none 0 0 none 0 0 none 0 0) hg (by rw[e6];rfl) λc2 d6 g9 e7=>aw (lR y none 0 0 none 0 0 none 0 0) e7 (Ok.mk ⟨f,by rw[hy];exact ju.plain y1 y2 y3,?_,Q.keep.new d6 λa b=>.inr (by have b:a=E.heap.size:=b;omega),Q.new⟩);rw[hX];refine b3.keep d6 λa b g=>?_;have g:a=E.heap.size:=g;rcases b4 a b with h1|h1
  ·have:=v a h1;omega
  ·omega
 refine⟨p,0,rfl,_,ae e5.bG rfl,fQ Tryz.underlying95 ⟨_,rfl,?_⟩⟩;have d7:DL w (λa=>F a/\cls a=2) h.dp h.lp X.D X.log:=n.at' 2;obtain⟨hS,R,hn⟩:=(show cV w h.sp (λa=>F a/\cls a=3) X.S/\X.S.Cl/\X.S.n=c.bl.toNat from n.at' 3)
 cases S:X.log with
 |none=>
  obtain⟨Fd,-,-,h3⟩:=d7;rw[S]at h3;have h3:h.lp=none:=h3;rw[h3];refine al.tt rfl ?_;have o:cm c self X d3=(15,(0,0),X):=by unfold cm;rw[S]
  exact H (y:=pN 15) rfl rfl rfl ⟨_,d5,rfl⟩ (b8.af a1) (λa b=>.inl b) ⟨ai.keep a1,λa b=>.inl b⟩ (by rw[o]) (by rw[o];rfl)
 |some f7=>
 obtain⟨f8,a4,c3,-⟩:=DL.Qo (S▸d7) (K.sub λa b=>b.1) λa b=>v a b.1;rw[a4];refine al.ff rfl λe8 e9=>⟨λ_=>False,?_⟩
 have b5:ai b2 e8:=e9.keep;have a2:=a1.then b5;have c4:=c_.af n a2;refine⟨p,0,rfl,id,_,_,_,_,_,_,ae c4.bG rfl,ae c4.bG rfl,p,0,rfl,_,ae c4.bG rfl,PC.ok (sD (hS.af a2) oM) ?_⟩;rintro _ h2 ⟨la,ln,lc,G,rfl,c5,L,hG⟩;have h4:=c5.len dC;have f2:=c5.aF;have T:=a2.then L;have h6:=c_.af n T;have b9:∀{i:World},ai w i->bh i (λa=>F a/\cls a=1) c.decl h.ta h.tn h.pa h.pn:=λ{i} I=>(c_.af n I).at' 1;refine⟨_,_,_,rfl,L,PC.ok (ID r.decl (K.oH.af (K.gr.then T)) (b9 T) (λa b=>by have:=v a b.1;have:=T.size;omega) (c5.row dC (by unfold aQ;omega)) (λa b=>f2 a b) oM) ?_⟩;rintro _ J ⟨vp,Fv,rfl,hv,h7,M⟩;have N:=T.then M;have c0:=((c1.then b5).then L).then M;obtain⟨g4,f3⟩:=IP r.decl X.S.l;obtain⟨d,c6⟩:∃d,d=kV c.decl X.S (cG c.decl X.S.l) self c.start d3:=⟨_,rfl⟩
 have h8:=a2.size;have h9:=L.size;have i0:=M.size;have x:∀{i:World},ai J i->Calls ZQ 42 #[.agg #[.slice h.ta h.tn h.tc,.slice h.pa h.pn h.pc],ZX h.sp,ZX vp,QH self,QH c.start,uu d3] i (Ok (xp i d)):=λ{i} I=>by
  rw[c6];exact EZ (K.oH.af ((K.gr.then N).then I)) (b9 (N.then I)) (λa b=>by have:=v a b.1;have:=(N.then I).size;omega) r.decl (hS.af (N.then I)) oM (hv.af I) f3
   (by have:=r.start;unfold aN at this;omega) (by have:=OI R.ok;unfold aN at this;omega)
 refine⟨_,rfl,M,λU eo q no w'=>eo=0/\∃j k l G,w'.heap[U]? =some (.cells (aE d.1 j k l).toArray 59 (0,0))/\Row aP 8 w' G j k d.1.aK/\(∀a,G a->J.heap.size<=a/\a<w'.heap.size)/\J.heap.size<=U/\q=d.2.1/\no=d.2.2/\ai J w',?_,?_⟩
 ·intro z d8
  have O:ai J z:=d8.keep;have i1:z.heap.size=J.heap.size:=by rw[d8.heap]
  have d9:=N.then O;have V:=c_.af n d9;have e0:=O.get (c0.get e4 id) id;have nS:¬z.heap.size<=p:=oM
  have f4:¬z.heap.size<=w.heap.size:=by have:=b5.size;have:=L.size;have:=M.size;omega
  refine⟨λa=>z.heap.size<=a,p,0,rfl,nS,_,_,_,_,_,_,ae V.bG rfl,ae V.bG rfl,p,0,rfl,nS,_,ae V.bG rfl,p,0,rfl,nS,_,ae V.bG rfl,p,0,rfl,nS,_,ae V.bG rfl,f4,aw (BF d3) e0 ⟨PC.ok (x O) ?_,PA.mk λi2 c7 i3 f5=>⟨ai.keep c7,PC.ok (x (O.then c7)) ?_⟩⟩⟩
  ·rintro _ c8 ⟨j,k,l,G,rfl,W,t,c9⟩
   have i4:=c9.size;refine cu (sW d.1 j k l) ⟨_,_,rfl,ai.keep c9,PA.mk λi5 d0 i6 f6=>⟨ai.keep d0,aD (bg d.1 j k l) f6 rfl λi7 d1 i8 g0=>⟨d1.mono λa _ g=>by have g:a=c8.heap.size:=g;omega,rfl,j,k,l,G,g0,?_,λa b=>⟨by have:=t a b;omega,by have:=t a b;omega⟩,oM,rfl,rfl,?_⟩⟩⟩
   ·exact(W.af d0).keep d1 λa b g=>by have g:a=c8.heap.size:=g;have:=(t a b).2;omega
   ·exact((O.then c9).then d0).new d1 λa b=>.inr (by have b:a=c8.heap.size:=b;omega)
  ·rintro _ i9 ⟨j,k,l,G,rfl,W,t,b6⟩
   have j0:=b6.size;refine cu (sW d.1 j k l) ⟨_,_,rfl,ai.keep b6,aD (bg d.1 j k l) (b6.get f5 id) rfl λj1 d2 j2 g1=>⟨d2.mono λa _ g=>by have g:a=z.heap.size:=g;omega,rfl,j,k,l,G,g1,?_,λa b=>⟨by have:=t a b;omega,by have:=t a b;omega⟩,oM,rfl,rfl,?_⟩⟩
   ·exact W.keep d2 λa b g=>by have g:a=z.heap.size:=g;have:=(t a b).1;omega
   ·exact((O.then c7).then b6).new d2 λa b=>.inr (by have b:a=z.heap.size:=b;omega)
 rintro U _ q no _ P ⟨rfl,j,k,l,G2,e,W,t,j3,rfl,rfl,a5⟩;have Y:=N.then a5;have j4:=c_.af n Y;have g5:=c0.then a5;have b0:=a5.get (M.get (L.get (b5.get d5 id) id) id) id;have a6:d.1.Ok:=by rw[c6];exact Ol hx R.ok d4 r.start oM
 have a7:∀{A:Int×(Int×Int)×bw},(if d.2.2≠0 then(d.2.2,(0,0),X)else if d.2.1 then(if(bU c X [d.1]).1≠0 then((bU c X [d.1]).1,(0,0),(bU c X [d.1]).2)else(0,aO d.1,(bU c X [d.1]).2))else(0,aO d.1,X))=A->cm c self X d3=A:=λ{A} ht=>by
  rw[<-ht,c6];unfold cm;rw[S]
 have j5:=Y.size;have f0:=aC e;refine⟨λA w'=>∃f m,bP w' p f c self m/\de F w f w'/\(∀a,f a->F a\/b2.heap.size<=a)/\w'.heap[U]? =some (.cells (aE d.1 j k l).toArray 59 (0,0))/\(∃s,w'.heap[E.heap.size]? =some (.cells s 46 (0,0))/\s.size=8)/\cm c self X d3=(if A≠0 then(A,(0,0),m)else(0,aO d.1,m)),?_,?_⟩
 ·have B:cm c self X d3=(if d.2.2≠0 then(d.2.2,(0,0),X)else(0,aO d.1,X))->∃f m,bP P p f c self m/\de F w f P/\(∀a,f a->F a\/b2.heap.size<=a)/\P.heap[U]? =some (.cells (aE d.1 j k l).toArray 59 (0,0))/\(∃s,P.heap[E.heap.size]? =some (.cells s 46 (0,0))/\s.size=8)/\cm c self X d3=(if d.2.2≠0 then(d.2.2,(0,0),m)else(0,aO d.1,m)):=λo=>
   ⟨F,X,b8.af Y,⟨ai.keep Y,λa b=>.inl b⟩,λa b=>.inl b,e,⟨_,b0,rfl⟩,o⟩
  refine al.dX (λC=>al.mk (λu=>?_) (λu=>B (a7 (by rw[if_neg (by simpa using C),if_neg (by simpa using u),if_neg (by simpa using C)])))) (λC=>B (a7 (by rw[if_pos C,if_pos C])));refine⟨_,_,_,_,_,_,_,_,_,_,_,_,ae e rfl,ae e rfl,ae e rfl,ae e rfl,ae e rfl,ae e rfl,ae e rfl,ae e rfl,ae e rfl,ae e rfl,PA.mk λe1 b7 j6 g2=>?_⟩;have a9:=Y.then b7;have f1:Row fZ 96 e1 (λa=>a=P.heap.size\/G2 a) (ZZ P.heap.size) 1 [d.1]:=row_one g2 ⟨j,k,l,rfl,W.af b7,a6⟩ dC;refine PC.ok (Kq (c_.af n a9) r (K.af a9) S f1 (λa b=>?_) (by simpa using hl)) ?_
  ·have g3:J.heap.size<=a/\a<e1.heap.size:=b.elim (λg=>⟨oM,oM⟩) λh5=>by have:=t a h5;omega
   exact⟨g3.2,λu=>by have:=v a u.1;omega⟩
  rintro _ j7 ⟨rfl,h',f,Z,a8,a0,-⟩;refine⟨_,rfl,f,(bU c X [d.1]).2,⟨r,h',Z,a8⟩,⟨(ai.keep a9).then a0.keep,λa b=>(a0.new a b).imp id λh1=>oM⟩,λa b=>(a0.new a b).imp id λh1=>by have:=c1.size;omega,a0.keep.get (b7.get e id) λu=>by have:=v _ u;omega,⟨_,a0.keep.get (b7.get b0 id) λu=>by have:=v _ u;omega,rfl⟩,?_⟩;exact a7 (by rw[if_neg (by simpa using C),if_pos u])
 ·rintro A _ j8 ⟨f,m,b3,Q,b4,b1,hz,o⟩
  refine al.dw (λc3=>?_) (λC=>⟨_,_,ae b1 rfl,ae b1 rfl,?_⟩)
  ·rw[if_pos c3]at o
   exact H (y:=pN A) rfl rfl rfl hz b3 b4 Q (by rw[o]) (by rw[o];exact if_pos c3)
  ·rw[if_neg (by simpa using C)]at o
   exact H (y:=OH (aO d.1)) rfl rfl rfl hz b3 b4 Q (by rw[o]) (by rw[o];rfl)
end
def fx(e:World)(f:Nat->Prop)(i:List dz)(j:Value)(c:World):Prop:=
 ∃(b:Option Addr) (g h:Nat) (d:List IC) (D:Nat->Prop),j= .slice b g h/\aV UG 67 (λa=>aI b=some a) c b g h d/\d.map (·.m)=i/\(∀a∈d,a.In c D)/\(∀a,D a->e.heap.size<=a/\a<c.heap.size/\aI b≠some a/\¬f a)/\∀a,aI b=some a->e.heap.size<=a/\¬f a
section
variable {w w' w0 w1:World} {p:Nat} {F E T Z:Nat->Prop} {cls:Nat->Nat} {h:ko} {c:cz} {self:Int} {X:bw} {ms:List dz} {v:Value}
def bB.out(g:bB w1 ms v w')(e:∀a,Z a->a<w1.heap.size)(p:w.heap.size<=w1.heap.size):fx w Z ms v w':=by
 obtain⟨h,i,j,k,D,l,m,n,o,c,f,q⟩:=g;exact⟨h,i,j,k,D,l,m,n,o,λa b=>⟨by have:=(c a b).1;omega,(c a b).2.1,(c a b).2.2,λd=>by have:=e a d;have:=(c a b).1;omega⟩,λa b=>⟨by have:=f a b;omega,λd=>by have:=e a d;have:=f a b;omega⟩⟩
def fx.nil(w0 w:World)(Z:Nat->Prop):fx w0 Z [] (.slice none 0 0) w:=⟨none,0,0,[],λ_=>False,rfl,(aV.nil w).mono (λb a=>a.elim) (λb a=>(by cases a)),rfl,sM,λb a=>a.elim,λb a=>(by cases a)⟩
def bB.one{m:dz}{va d:Option Addr}{vn vc e f c:Nat}{D:Nat->Prop}(h:w.heap[c]? =some (.cells (cD m va vn vc d e f).toArray 67 (0,0)))(j:(⟨m,va,vn,vc,d,e,f⟩:IC).In w D)(g:∀b,D b->w0.heap.size<=b/\b<w.heap.size/\b≠c)(l:w0.heap.size<=c)(k:ai w0 w):
  bB w0 [m] (.slice (ZZ c) 1 1) w:=by
 have n:=aC h;refine⟨ZZ c,1,1,[⟨m,va,vn,vc,d,e,f⟩],D,rfl,⟨⟨cD m va vn vc d e f,λ_=>False,Own.xF h rfl (by unfold maxLen;omega),bT.one ⟨rfl,trivial⟩,λb a=>a.elim⟩,λb a=>a,λb a=>?_⟩,rfl,λb a=>?_,λb a=>⟨(g b a).1,(g b a).2.1,λi=>?_⟩,λb a=>?_,k⟩
 ·simp only[aI,Q1]at a;omega
 ·simp at a;subst a;exact j
 ·simp only[aI,Q1]at i;exact(g b a).2.2 i.symm
 ·simp only[aI,Q1]at a;omega
def wO(r:bP w p F c self X)(B:aN e):
  Calls ZQ 44 #[ZX p,QH e,QH m] w (Ok λv w'=>∃a,fx w a (gP c self X e m).1 v w'/\bP w' p a c self (gP c self X e m).2/\de F w a w'):=by
 have C:=r;obtain⟨E,h,cls,f⟩:=r;have no:(e<0\/e>=c.bl\/e=self)->Ok (λv w'=>∃a,fx w a (gP c self X e m).1 v w'/\bP w' p a c self (gP c self X e m).2/\de F w a w') (.returned (.slice none 0 0)) w:=λk=>by
  have:gP c self X e m=([],X):=by unfold gP;rw[if_pos k]
  rw[this];exact Ok.mk ⟨F,fx.nil _ _ _,C,de.refl _ _⟩
 refine lC (al.dec (λl=>no (.inl l)) (λl=>⟨p,0,rfl,_,ae f.bG rfl,al.dec (λn=>no (.inr (.inl n))) (λn=>⟨p,0,rfl,_,ae f.bG rfl,al.dX (λo=>no (.inr (.inr o))) (λo=>⟨p,0,rfl,_,ae f.bG rfl,?_⟩)⟩)⟩));have H:gP c self X e m=([lj X.S self e],{X with fP:={X.fP with asked:=aJ X.fP.asked e m}}):=by unfold gP;rw[if_neg (by rintro(h|h|h);exact l h;exact n h;exact o h)]
 refine PC.ok (KB (f.at' 6) B) ?_;rintro _ s ⟨rfl,I,t⟩;have J:c_ s F cls p h c self {X with fP:={X.fP with asked:=aJ X.fP.asked e m}}:=bS.same f cj (k:=6) t I λu G K k=>by
  rcases u with _|_|_|_|_|_|_|u<;>first|exact k|exact absurd rfl K
 refine⟨rfl,λq L=>?_⟩;have x:ai s q:=L.keep;have d:=c_.af J x;refine⟨p,0,rfl,_,ae d.bG rfl,p,0,rfl,_,ae d.bG rfl,PC.ok (zH (d.at' 3).1) ?_⟩;rintro _ M ⟨S,T,U,G,rfl,y,N,i⟩;have z:=y.aF;have O:=i.size;refine⟨_,_,_,_,_,_,_,_,_,rfl,PA.mk λP j V Q=>?_⟩;rw[H];have R:bB q [lj X.S self e] (.slice (ZZ M.heap.size) 1 1) P:=bB.one (D:=G) Q ⟨(y.af j).row dC (by show X.S.vec.length*8<=aQ;rw[X.S.b_];have:=(d.at' 3).1.1.n;have:X.S.n<=64:=this;unfold aQ;omega),eE _ _⟩ (λg b=>⟨N g b,by have:=z g b;omega,by have:=z g b;omega⟩) O (i.then j);have A:aj F w q:=(t.mono λg _ b=>b.1).af x;exact Ok.mk ⟨F,R.out d.aF A.size,⟨E,h,cls,c_.af d (i.then j)⟩,(A.af i).af j,λg b=>.inl b⟩
def UK(T:kr)(d:Int):∀a∈T.due d,a∈T.open:=by
 have:∀(e:List Int) (f:List Int×List (Int×Int)),∀a∈(e.foldl (gA T.dx d) f).1,a∈f.1\/a∈e:=by
  intro e
  induction e with
  |nil=>intro f a b;exact .inl b
  |cons i e h=>
   intro f a b;rcases h _ a b with c|c
   ·unfold gA at c
    split at c
    ·rcases Q6.1 c with g|g
     ·exact .inl g
     ·simp at g;subst g;exact .inr (QV ..)
    ·exact .inl c
   ·exact .inr (QJ _ c)
 intro a b;unfold kr.due kr.jv at b;rw[List.take_length]at b;exact(this T.open ([],T.asked) a b).resolve_left sM
def SU{T:kr}(c:∀a∈T.asked,aN a.1):∀b∈T.open,aN b:=λb d=>by
 have:b∈T.asked.map (·.1):=(List.mergeSort_perm _ _).mem_iff.1 d;obtain⟨a,e,rfl⟩:=Xk.1 this;exact c a e
def UL(T:kr)(a:Int):(T.due a).length<=T.asked.length:=by
 have:∀(c:List Int) (b:List Int×List (Int×Int)),(c.foldl (gA T.dx a) b).1.length<=b.1.length+c.length:=by
  intro c
  induction c with
  |nil=>intro b;simp
  |cons d c f=>
   intro b;have e:=f (gA T.dx a b d);have g:(gA T.dx a b d).1.length<=b.1.length+1:=by
    unfold gA;split
    ·simp
    ·omega
   simp only[List.foldl_cons,Xq];omega
 have e:=this T.open ([],T.asked);unfold kr.due kr.jv;rw[List.take_length];have g:T.open.length=T.asked.length:=by simp[kr.open,xq]
 simp only[List.length_nil]at e;omega
def Sp(N:bP w p F c self X)(d:X.fP.asked.length<=1000):
  Calls ZQ 58 #[ZX p,QH e] w (Ok λv w'=>∃n,fx w n (KC self X e).1 v w'/\bP w' p n c self (KC self X e).2/\de F w n w'):=by
 obtain⟨O,h,cls,o⟩:=N;have x:eG w h.tp (λa=>F a/\cls a=6) X.fP:=o.at' 6;have P:∀f∈X.fP.due e,aN f:=λf i=>SU x.tQ f (UK _ _ f i);have b0:=UL X.fP e;refine oJ ⟨p,0,rfl,_,ae o.bG rfl,PC.ok (QB x (by unfold aQ;omega)) ?_⟩;rintro _ j ⟨Q,q,cc,rfl,y,R,r,hn⟩;have z:c_ j F cls p h c self {X with fP:=X.fP.SV e}:=bS.same o cj (k:=6) r R λb G A S=>by
  rcases b with _|_|_|_|_|_|_|b<;>first|exact S|exact absurd rfl A
 have T:=y.length;rw[jQ,Nat.mul_one]at T;have U:Ints j Q q (X.fP.due e):=y.ints (by unfold aQ;omega) P;have V:=z.aF;have W:=r.size;refine⟨_,_,_,rfl,λB C E H Y w'=>∃b:Nat,Y=b/\b<=q/\B=q-b/\bB j (((X.fP.due e).take b).map λg=>lj X.S self g) (.slice C E H) w',⟨_,0,rfl,Qj _,rfl,bB.nil j⟩,?_⟩;rintro B C E H _ _ Z ⟨b,rfl,A,rfl,k⟩;have s:=k;obtain⟨a3,n1,c1,a4,D,he,g2,g3,g4,g5,g6,l⟩:=s
 cases he
 have I:=c_.af z l;have b1:=l.size;refine al.dec (λb2=>?_) (λb3=>?_)
 ·obtain⟨a,t,f,rfl,b4,i,b5,a0⟩:=(U.af l).at (i:=(b:Int)) oM oM
  rw[Qx]at i;refine⟨a,t,rfl,oM,oM,f,a0,λa6 a7=>?_⟩;have u:ai Z a6:=a7.keep;have m:=c_.af I u;refine⟨p,0,rfl,_,ae m.bG rfl,p,0,rfl,_,ae m.bG rfl,PC.ok (zH (m.at' 3).1) ?_⟩;rintro _ b6 ⟨va,vn,vc,G,rfl,J,K,L⟩;have a8:=J.aF;have b7:=u.size;have b8:=L.size;refine⟨_,_,_,_,_,_,_,_,_,rfl,PA.mk λb9 M c0 a9=>?_⟩;refine bB.push (m:=lj X.S self f) (E:=G) (k.af ((u.then L).then M)) OJ ⟨(J.af M).row dC (by show X.S.vec.length*8<=aQ;rw[X.S.b_];have:X.S.n<=64:=(m.at' 3).1.1.n;unfold aQ;omega),eE _ _⟩ (λa d=>⟨by have:=K a d;omega,by have:=a8 a d;omega,λa1=>by have:=g2.aF a a1;have:=K a d;omega⟩) a9 (by rw[Q8,Qy];omega) λa' c' c2 a2 c3=>⟨_,_,_,rfl,_,?_,b+1,an oM,oM,rfl,?_⟩
  ·omega
  ·rw[Qw,i,Q3];exact a2
 ·rw[Qz oM]at k
  exact Ok.mk ⟨F,k.out V W,⟨O,h,cls,I⟩,(r.mono λa _ d=>d.1).af l,λa d=>.inl d⟩
def Io(b:bP w p F c self X):Calls ZQ 19 #[ZX p] w (Ok (qD aP 3 w X.S.vec)):=by
 obtain⟨i,h,cls,a⟩:=b;refine pX ⟨p,0,rfl,_,ae a.bG rfl,PC.ok (mi (a.at' 3).1) ?_⟩;rintro _ j ⟨d,e,f,G,rfl,g⟩;exact⟨_,_,_,rfl,Ok.mk ⟨d,e,f,G,rfl,g⟩⟩
def e_(d:bP w p F c self X)(a:X.S.l.length<=20000000):Calls ZQ 15 #[ZX p] w (Ok (qD fZ 59 w X.S.l)):=by
 obtain⟨i,h,cls,b⟩:=d;refine mM ⟨p,0,rfl,_,ae b.bG rfl,PC.ok (sD (b.at' 3).1 a) ?_⟩;rintro _ j ⟨e,f,g,G,rfl,a⟩;exact⟨_,_,_,rfl,Ok.mk ⟨e,f,g,G,rfl,a⟩⟩
end
def xr{f:aq}:∀{b:List ah} {e:ah} {S':aq} {l':List ah},cP f b=some (e,S',l')->l'.length+1=b.length
 |[],e,S',l',a=>by simp[cP]at a
 |x::b,e,S',l',a=>by
  unfold cP at a;split at a
  ·simp only[Q1,Prod.mk.injEq]at a
   obtain⟨-,-,rfl⟩:=a;rfl
  ·cases c:cP f b with
   |none=>rw[c]at a;cases a
   |some d=>
    rw[c]at a;simp only[Option.map_some,Q1,Prod.mk.injEq]at a;obtain⟨rfl,rfl,rfl⟩:=a;have:=xr (e:=d.1) (S':=d.2.1) (l':=d.2.2) c;simp only[Xq];omega
def xt:∀(k:Nat) (c:aq) (b a:List ah),(cW k c b a).1.length+(cW k c b a).2.length=a.length+b.length
 |0,c,b,a=>rfl
 |k+1,c,b,a=>by
  unfold cW
  cases g:cP c b with
  |none=>rfl
  |some h=>
   obtain⟨d,e,f⟩:=h;have j:=xr g;have i:=xt k e f (a++[d]);show(cW k e f (a++[d])).1.length+(cW k e f (a++[d])).2.length=_;rw[i,QX,List.length_singleton];omega
def xu(b:aq)(a:List ah):(bI b a).1.length+(bI b a).2.length<=a.length:=by
 unfold bI;dsimp only;rw[xt];have:=List.length_filter_le (λc=>(b.get (aO c)).isNone) a;simp only[List.length_nil];omega
structure Ip (w:World) (wp most:Nat) (M0 D0 E:Nat->Prop) (s:Nat) (S:aq) (b:List ah) (oa:Option Addr) (on oc:Nat) (Lo:List (Bx ah)) (w1:World) (M Db Fs Do:Nat->Prop):Prop where
 buf:ij w1 wp M Db most b
 set:cV w1 s Fs S
 Pa:∀x∈Lo,qE.In w1 Do x
 out:aV qE.k_ 59 (λb=>aI oa=some b) w1 oa on oc Lo
 nM:∀b,M b->(M0 b\/w.heap.size<=b)/\¬Fs b
 nD:∀b,Db b->(D0 b\/w.heap.size<=b)/\¬Fs b
 nF:∀b,Fs b->w.heap.size<=b
 nO:∀b,Do b->(E b\/D0 b\/w.heap.size<=b)/\b<w1.heap.size/\¬M b/\¬Fs b
 nA:∀b,aI oa=some b->w.heap.size<=b/\¬M b/\¬Fs b/\¬Do b/\¬Db b
 keep:aj M0 w w1
 cl:S.Cl
variable{a:Nat}{f:Nat->Prop}{d:Option Addr}{q:TypeId}{o u:Value->World->Prop}{l:ah}
section
variable {w w' w0 w1 w2:World} {p wp most s on oc:Nat} {F E T Z M0 D0 M Db Fs Do:Nat->Prop} {cls:Nat->Nat} {h:ko} {c:cz} {self:Int} {X:bw} {S:aq} {b:List ah} {oa:Option Addr} {Lo:List (Bx ah)}
def ij.Qs(a:ij w p M Db most b):∀b,M b->b<w.heap.size:=by obtain⟨-,e,f,c,g,d⟩:=a;exact d.dM
def ij.KD(a:ij w p M Db most b):∀b,Db b->b<w.heap.size/\¬M b:=by obtain⟨-,e,f,c,g,d⟩:=a;exact d.dD
def Ip.af(a:Ip w wp most M0 D0 E s S b oa on oc Lo w1 M Db Fs Do)(c:ai w1 w2):Ip w wp most M0 D0 E s S b oa on oc Lo w2 M Db Fs Do:=
 ⟨a.buf.af c,a.set.af c,λe f=>(a.Pa e f).keep c λ_ _ h=>h,a.out.af c,a.nM,a.nD,a.nF,λb d=>⟨(a.nO b d).1,by have:=(a.nO b d).2.1;have:=c.size;omega,(a.nO b d).2.2⟩,a.nA,a.keep.af c,a.cl⟩
def Ip.add(c:Ip w wp most M0 D0 E s S b oa on oc Lo w1 M Db Fs Do){j o:Nat}(p:Row aP 8 w1 f d j l.aK)(q:∀b,f b->b<w1.heap.size/\¬Fs b)(k:l.Ok)(z:S.l.length<=20000000):
  Calls ZQ 75 #[ZX s,kK l d j o] w1 (Ok λm w'=>m= QH (S.add l).1/\∃h,Ip w wp most M0 D0 E s (S.add l).2 b oa on oc Lo w' M Db h Do/\aj Fs w1 w'/\∀b,h b->Fs b\/w1.heap.size<=b):=by
 refine(vH c.set p q k oM).mono ?_;rintro _ w2 ⟨m,rfl,rfl,n,r,e⟩;have t:=c.buf.Qs;have u:=c.buf.KD;have A:=c.keep.size;have g:∀b,b<w1.heap.size->¬Fs b->¬n b:=λb B v i=>(e.new b i).elim v oM;refine Ok.mk ⟨rfl,n,⟨c.buf.keep e.keep (λb a=>(c.nM b a).2) λb a=>(c.nD b a).2,r,λx y=>(c.Pa x y).keep e.keep λb a=>(c.nO b a).2.2.2,c.out.keep e.keep λb a=>(c.nA b a).2.2.1,λb a=>⟨(c.nM b a).1,g b (t b a) (c.nM b a).2⟩,λb a=>⟨(c.nD b a).1,g b (u b a).1 (c.nD b a).2⟩,
  λb a=>(e.new b a).elim (c.nF b) λY=>oM,λb a=>⟨(c.nO b a).1,by have:=(c.nO b a).2.1;have:=e.keep.size;omega,(c.nO b a).2.2.1,g b (c.nO b a).2.1 (c.nO b a).2.2.2⟩,λb a=>⟨(c.nA b a).1,(c.nA b a).2.1,g b (c.out.aF b a) (c.nA b a).2.2.1,(c.nA b a).2.2.2⟩,c.keep.new e.keep λb a=>.inr (c.nF b a),c.cl.add k⟩,e.keep,e.new⟩
def Ip.push{x:Program}(d:Ip w wp most M0 D0 E s S b oa on oc Lo w1 M Db Fs Do)(A:jP x g 59 qE.k_.k 96){e:Bx ah}(B:qE.In w1 f e)(i:∀b,f b->(E b\/D0 b\/w.heap.size<=b)/\b<w1.heap.size/\¬M b/\¬Fs b/\aI oa≠some b){C:Nat×Nat}(F:w1.heap[a]? =some (.cells (aE e.x e.a e.n e.c).toArray 59 C))(Q:Lo.length<=1000000)(t:∀m r w' v,Ip w wp most M0 D0 E s S b m (on+1) r (Lo++[e]) w' M Db Fs v->aj (λb=>aI oa=some b) w1 w'->(∀b,aI m=some b->aI oa=some b\/w1.heap.size<=b)->o (.slice m (on+1) r) w'):
  aH x (Builtin.append_ #[g,g] q #[.slice oa on oc,.slice (ZZ a) 1 1]) w1 o u:=by
 refine fh (c:=qE.k_) (x:=e) (D:=λ_=>False) d.out A F ⟨rfl,trivial⟩ (λb c=>c.elim) (by unfold aQ;omega) (by unfold maxLen;omega) λm r w2 R y j I=>?_;have J:=y.alone;have z:∀b,aI m=some b->aI oa=some b\/w1.heap.size<=b:=λb c=>(I b (y.self b c)).imp id λh=>h.resolve_left id;have T:=j.size;have z1:=d.keep.size;have K:=d.buf.Qs;have L:=d.buf.KD;have N:=d.set.aF;have nA:=d.nA;refine t m r w2 (λb=>Do b\/f b) ⟨d.buf.keep j (λb c k=>(nA b k).2.1 c) λb c k=>(nA b k).2.2.2.2 c,d.set.keep j λb c k=>(nA b k).2.2.1 c,λO n=>?_,J,d.nM,d.nD,d.nF,λb c=>?_,λb c=>?_,d.keep.new j λb c=>.inr (nA b c).1,d.cl⟩ j z
 ·rcases Q6.1 n with n|n
  ·exact((d.Pa O n).keep j λb c k=>(nA b k).2.2.2.1 c).mono λb c=>.inl c
  ·simp at n;subst n
   exact(B.keep j λb c=>(i b c).2.2.2.2).mono λb c=>.inr c
 ·rcases c with c|c
  ·exact⟨(d.nO b c).1,by have:=(d.nO b c).2.1;omega,(d.nO b c).2.2⟩
  ·exact⟨(i b c).1,by have:=(i b c).2.1;omega,(i b c).2.2.1,(i b c).2.2.2.1⟩
 ·rcases z b c with H|H
  ·exact⟨(nA b H).1,(nA b H).2.1,(nA b H).2.2.1,λp=>p.elim (nA b H).2.2.2.1 λP=>(i b P).2.2.2.2 H,(nA b H).2.2.2.2⟩
  ·exact⟨oM,λl=>by have:=K b l;omega,λl=>by have:=N b l;omega,λl=>l.elim (λp=>by have:=(d.nO b p).2.1;omega) λp=>by have:=(i b p).2.1;omega,λl=>by have:=(L b l).1;omega⟩
def Ip.wait(a:Ip w wp most M0 D0 E s S b oa on oc Lo w1 M Db Fs Do){m q:Nat}(r:Row aP 8 w1 f d m l.aK)(t:∀b,f b->b<w1.heap.size)(u:l.Ok):
  Calls ZQ 166 #[ZX wp,kK l d m q] w1 (Ok λn w'=>∃v,n= .bool v/\∃i j,Ip w wp most M0 D0 E s S (dQ most b l).2 oa on oc Lo w' i j Fs Do/\aj M w1 w'):=by
 refine(Lm a.buf r t u).mono ?_;rintro _ w2 ⟨n,rfl,rfl,i,x,y,h,k,o⟩;have p:=a.set.aF;have B:=a.keep.size;have C:=h.size;refine Ok.mk ⟨_,rfl,i,x,⟨y,a.set.keep h λb c g=>(a.nM b g).2 c,λz A=>(a.Pa z A).keep h λb c=>(a.nO b c).2.2.1,a.out.keep h λb c=>(a.nA b c).2.1,λb c=>?_,λb c=>?_,a.nF,λb c=>⟨(a.nO b c).1,by have:=(a.nO b c).2.1;omega,λg=>?_,(a.nO b c).2.2.2⟩,λb c=>⟨(a.nA b c).1,λg=>?_,(a.nA b c).2.2.1,(a.nA b c).2.2.2.1,λg=>?_⟩,?_,a.cl⟩,h⟩
 ·rcases k b c with e|e
  ·exact a.nM b e
  ·exact⟨.inr oM,λg=>by have:=p b g;omega⟩
 ·rcases o b c with e|e
  ·exact a.nD b e
  ·exact⟨.inr oM,λg=>by have:=p b g;omega⟩
 ·rcases k b g with e|e
  ·exact(a.nO b c).2.2.1 e
  ·have:=(a.nO b c).2.1;omega
 ·rcases k b g with e|e
  ·exact(a.nA b c).2.1 e
  ·have:=a.out.aF b c;omega
 ·rcases o b g with e|e
  ·exact(a.nA b c).2.2.2.2 e
  ·have:=a.out.aF b c;omega
 ·exact a.keep.new h λb c=>(a.nM b c).1
def Ip.ready(a:Ip w wp most M0 D0 E s S b oa on oc Lo w1 M Db Fs Do)(k:S.l.length<=19000000):
  Calls ZQ 167 #[ZX wp,ZX s] w1 (Ok λj w'=>∃d g h f,j= .slice d g h/\aV qE.k_ 59 (λb=>aI d=some b) w' d g h f/\f.map (·.x)=(bI S b).1/\(∀i∈f,qE.In w' Db i)/\(∀b,aI d=some b->w1.heap.size<=b)/\
   Ip w wp most M0 D0 E s S (bI S b).2 oa on oc Lo w' M Db Fs Do/\aj M w1 w'):=by
 refine(GW a.buf a.set a.cl k).mono ?_;rintro _ w2 ⟨j,rfl,d,g,h,f,rfl,l,m,n,o,p,e⟩;have t:=e.size;exact Ok.mk ⟨d,g,h,f,rfl,l,m,n,o,⟨p,a.set.keep e λb c q=>(a.nM b q).2 c,λi r=>(a.Pa i r).keep e λb c=>(a.nO b c).2.2.1,a.out.keep e λb c=>(a.nA b c).2.1,a.nM,a.nD,a.nF,λb c=>⟨(a.nO b c).1,by have:=(a.nO b c).2.1;omega,(a.nO b c).2.2⟩,a.nA,a.keep.new e λb c=>(a.nM b c).1,a.cl⟩,e⟩
end
section
variable {w w' w0 w1 w2:World} {p wp most s on oc:Nat} {F E T Z M0 D0 M Db Fs Do:Nat->Prop} {cls:Nat->Nat} {h:ko} {c:cz} {self:Int} {X:bw} {S:aq} {b:List ah} {oa:Option Addr} {Lo:List (Bx ah)} {evs:List ah} {ea:Option Addr} {en ec:Nat}
def DI(most:Nat)(a:List ah)(b:ah):(dQ most a b).2.length<=a.length+1:=by
 unfold dQ;split
 ·show a.length<=_;omega
 ·show(dO b a).length<=_
  rw[(cX b a).length_eq];simp
def Qr(N:c_ w F cls p h c self X)(e4:kU c self)(hr:Row fZ 96 w E ea en evs)(B:∀b,E b->b<w.heap.size/\¬F b)(m3:evs.length<=1000)(hl:X.S.l.length<=18000000):
  Calls ZQ 106 #[ZX p,.slice ea en ec] w (Ok λf1 w'=>∃oa on oc Lo U q Do,f1= .slice oa on oc/\aV qE.k_ 59 (λb=>aI oa=some b) w' oa on oc Lo/\Lo.map (·.x)=(fm c X evs).1/\(∀a∈Lo,qE.In w' Do a)/\
   c_ w' U q p h c self {X with waits:=(fm c X evs).2}/\de F w U w'/\(∀b,Do b->b<w'.heap.size/\aI oa≠some b/\¬(U b/\q b=2))/\(∀b,aI oa=some b->w.heap.size<=b/\¬U b)/\(fm c X evs).1.length<=evs.length+256):=by
 obtain⟨m8,m9,n0⟩:=e4.bl;have e5:=N.aF;have i6:=N.Kp;obtain⟨hS,a0,hn⟩:=(show cV w h.sp (λb=>F b/\cls b=3) X.S/\X.S.Cl/\X.S.n=c.bl.toNat from N.at' 3)
 obtain⟨M0,D0,u,c1,a1⟩:=(show Mw w (λb=>F b/\cls b=5) h.wp c.buffer.toNat X.waits from N.at' 5)
 have f3:X.waits.length<=256:=Xx u.1.2.le u.1.1;have n1:=hr.len;refine nI (PC.ok (Kz (evs:=[]) N e4 (eE w (λ_=>False)) (λb e=>e.elim) (by simp;omega)) ?_);rintro _ w4 ⟨s,i7,rfl,i8,b1,k4⟩;have e6:dZ c X.S []=X.S:=(lJ a0 hn []).trans rfl;have z4:=k4.size;have i9:(dZ c X.S []).Cl:=by rw[e6];exact a0
 have j0:(dZ c X.S []).l.length=X.S.l.length:=by rw[e6]
 have j1:Ip w h.wp c.buffer.toNat M0 D0 E s (dZ c X.S []) X.waits none 0 0 [] w4 M0 D0 i7 (λ_=>False):=by
  have j2:=u.Qs;have e7:=u.KD;refine⟨u.af k4,i8,sM,(aV.nil w4).mono (λb e=>e.elim) (λb e=>(by cases e)),λb e=>⟨.inl e,λl=>by have:=j2 b e;have:=b1 b l;omega⟩,λb e=>⟨.inl e,λl=>by have:=(e7 b e).1;have:=b1 b l;omega⟩,b1,λb e=>e.elim,λb e=>(by cases e),ai.keep k4,i9⟩
 have C:∀{w1:World},aj M0 w w1->w1.heap[p]? =some (.cells (h.cells c self) 99 (0,0)):=λ{w1} hk=>hk.get N.bG λm=>by
  have:=(c1 p m).2;rw[i6.2]at this;cases this
 have e8:∀b,E b->¬M0 b:=λb e m=>(B b e).2 (c1 b m).1;obtain⟨H,e9⟩:∃H,H=dI c.buffer.toNat evs (dZ c X.S []) [] X.waits:=⟨_,rfl⟩
 have t:fm c X evs=kW (H.2.2.length+1) H.1 H.2.1 H.2.2:=by rw[e9];rfl
 refine⟨_,rfl,λI oa on oc J w'=>∃(f:Nat) (S:aq) (b:List ah) (Lo:List (Bx ah)) (M Db Fs Do:Nat->Prop),J=f/\f<=en/\I=en-f/\Ip w h.wp c.buffer.toNat M0 D0 E s S b oa on oc Lo w' M Db Fs Do/\dI c.buffer.toNat (evs.drop f) S (Lo.map (·.x)) b=H/\S.l.length<=X.S.l.length+Lo.length/\Lo.length<=f/\b.length<=256/\Lo.length+b.length<=X.waits.length+f,
  ⟨_,0,_,_,_,_,_,_,_,rfl,Qj _,rfl,j1,e9.symm,by simp[j0],sM,f3,sM⟩,?_⟩
 rintro I oa on oc _ _ f2 ⟨f,S,b,Lo,M,Db,Fs,Do,rfl,hj,rfl,l,v,V,f7,b3,f4⟩;have j3:=l.keep.size;have j4:=l.out.len dC;refine al.dec (λj5=>?_) (λj6=>?_)
 ·obtain⟨a,j⟩:∃a,evs[f]? =some a:=⟨_,Qq oM⟩
  have a8:evs.drop f=a::evs.drop (f+1):=by
   rw[X4 oM]
   congr 1
   exact(Qv.1 j).2
  rw[a8]at v;obtain⟨gb,go,es,ha,j7,n3,d2,xa,xn,xc,rfl,d3,b4⟩:=(hr.keep l.keep e8).el f a j;refine⟨gb,go,ha,oM,oM,br (es:=aE a xa xn xc) (k:=10) (bg _ _ _ _) rfl (λJ ht=>by rw[Qx];exact d2 J ht) (PA.mk λn4 j8 n8 j9=>aD (bg a xa xn xc) j9 rfl λk0 k1 n9 f5=>aw (bg a xa xn xc) f5 ?_)⟩;have a2:ai f2 k0:=j8.new k1 λb e=>.inr (by have e:b=f2.heap.size:=e;omega);have o0:=a2.size;have d4:∀b,E b->¬Fs b:=λb e m=>by have:=l.nF b m;have:=(B b e).1;omega
  refine PC.ok ((l.af a2).add (d3.af a2) (λb e=>⟨by have:=(B b e).1;omega,d4 b e⟩) b4 oM) ?_;rintro _ k2 ⟨rfl,O,K,a5,m4⟩;have o1:=a5.size;have b5:=l.set.aF;have x:=a5.get f5 λm=>by have:=b5 _ m;omega
  have f6:=S.AU a;have f8:dI c.buffer.toNat (a::evs.drop (f+1)) S (Lo.map (·.x)) b=if(S.add a).1=0 then dI c.buffer.toNat (evs.drop (f+1)) (S.add a).2 (Lo.map (·.x)++[a]) b else if(S.add a).1=16 then dI c.buffer.toNat (evs.drop (f+1)) S (Lo.map (·.x)) b else dI c.buffer.toNat (evs.drop (f+1)) S (Lo.map (·.x)) (dQ c.buffer.toNat b a).2:=rfl
  rw[f8]at v;have a9:(S.add a).1≠0->(S.add a).2=S:=λW=>by
   rcases S.gg a with⟨-,g⟩|⟨g,-⟩
   ·exact g
   ·rw[g]at W;exact absurd rfl W
  refine⟨_,rfl,al.dX (λr=>?_) (λr=>al.dX (λd5=>?_) (λd5=>λk3 k5=>?_))⟩
  ·rw[if_pos r]at v
   have c4:(S.add a).2.l.length<=S.l.length+1:=f6;refine⟨_,_,_,_,_,_,_,_,_,_,_,_,ae x rfl,ae x rfl,ae x rfl,ae x rfl,ae x rfl,ae x rfl,ae x rfl,ae x rfl,ae x rfl,ae x rfl,PA.mk λk6 d6 o2 k7=>?_⟩;have g0:qE.In k6 E ⟨a,xa,xn,xc⟩:=⟨((d3.af a2).keep a5 λb e=>d4 b e).af d6,b4⟩
   have g1:=K.af d6;refine g1.push xH g0 (λb e=>⟨.inl e,by have:=(B b e).1;have:=d6.size;omega,λm=>?_,λm=>by have:=K.nF b m;have:=(B b e).1;omega,λo=>by have:=(K.nA b o).1;have:=(B b e).1;omega⟩) k7 oM λa' c' o3 P g2 m5 _=>⟨_,_,_,rfl,_,oM,f+1,_,_,_,M,Db,O,P,an oM,oM,rfl,g2,?_,?_,?_,b3,?_⟩
   ·rcases(K.nM b m).1 with g|g
    ·exact e8 b e g
    ·have:=(B b e).1;omega
   ·rw[Q3];exact v
   ·rw[QX,List.length_singleton];omega
   ·rw[QX,List.length_singleton];omega
   ·rw[QX,List.length_singleton];omega
  ·rw[if_neg r,if_pos d5]at v
   rw[a9 r]at K;exact⟨_,oM,f+1,S,b,Lo,M,Db,O,Do,an oM,oM,rfl,K,v,V,oM,b3,oM⟩
  ·rw[if_neg r,if_neg d5]at v
   rw[a9 r]at K;have c5:ai k2 k3:=k5.keep;have c9:=K.af c5;refine⟨p,0,rfl,_,ae (C c9.keep) rfl,aw (bg a xa xn xc) (c5.get x id) (PC.ok (c9.wait (((d3.af a2).keep a5 λb e=>d4 b e).af c5) (λb e=>by have:=(B b e).1;have:=c5.size;omega) b4) ?_)⟩;rintro _ o4 ⟨J,rfl,M',b6,b7,m6⟩;have d7:=DI c.buffer.toNat b a;have g3:(dQ c.buffer.toNat b a).2.length<=256:=Xx b7.buf.1.2.le b7.buf.1.1;exact⟨_,rfl,_,oM,f+1,S,_,Lo,M',b6,O,Do,an oM,oM,rfl,b7,v,V,oM,g3,oM⟩
 have o5:f=evs.length:=oM
 rw[List.drop_eq_nil_of_le oM]at v;have d0:H=(S,Lo.map (·.x),b):=v.symm;rw[d0]at t;have b8:Lo.length+b.length<=evs.length+256:=oM
 refine⟨λI oa on oc w'=>∃(S:aq) (b:List ah) (Lo:List (Bx ah)) (M Db Fs Do:Nat->Prop) (k:Nat),I=b.length/\Ip w h.wp c.buffer.toNat M0 D0 E s S b oa on oc Lo w' M Db Fs Do/\b.length<=k/\kW (k+1) S (Lo.map (·.x)) b=fm c X evs/\S.l.length<=X.S.l.length+Lo.length/\Lo.length+b.length<=evs.length+256,
  ⟨_,S,b,Lo,M,Db,Fs,Do,b.length,rfl,l,Q4 _,t.symm,V,b8⟩,?_⟩
 clear l v V f7 b3 f4 b8 j4 j3 d0 t
 rintro I oa on oc _ o6 ⟨S,b,Lo,M,Db,Fs,Do,k,rfl,l,hk,t,V,f4⟩;have o7:=l.keep.size;refine⟨p,0,rfl,_,ae (C l.keep) rfl,PC.ok (l.ready oM) ?_⟩;rintro _ o8 ⟨Y,n2,f9,Z,rfl,g4,d8,k8,g5,n,g6⟩;have o9:=g4.len dC;have d7:=xu S b;have g7:Z.length=(bI S b).1.length:=by rw[<-d8,Q8]
 have k9:kW (k+1) S (Lo.map (·.x)) b=if(bI S b).1=[]then(Lo.map (·.x),(bI S b).2)else kW k (dP (bI S b).1 S (Lo.map (·.x))).1 (dP (bI S b).1 S (Lo.map (·.x))).2 (bI S b).2:=rfl
 rw[k9]at t;have p0:=g6.size;refine⟨_,_,_,rfl,al.dX (λr=>?_) (λr=>?_)⟩
 ·have g8:(bI S b).1=[]:=QW oM
  rw[if_pos g8]at t;rw[<-t];have hM:=n.buf.Qs;have l0:=n.buf.KD;obtain⟨U,q,b9,a3,l3,c2,-⟩:=N.fr cj (k:=5) (G':=λb=>M b\/Db b) (C2:=mf p (h.cells c self) h c {X with waits:=(bI S b).2} X.S.l) (n.keep.mono λb _ e=>c1 b e)
   (λa j=>j.elim (λg=>(n.nM a g).1.imp (c1 a) id) λg=>(n.nD a g).1.imp (a1 a) id) (λa j=>j.elim (hM a) λg=>(l0 a g).1) ⟨M,Db,n.buf,λ_ h=>.inl h,λ_ h=>.inr h⟩ λf G hj hc=>by
    rcases f with _|_|_|_|_|_|_|f<;>first|exact hc|exact absurd rfl hj
  refine Ok.mk ⟨oa,on,oc,Lo,U,q,Do,rfl,n.out,rfl,n.Pa,b9,a3,λa j=>⟨(n.nO a j).2.1,λo=>(n.nA a o).2.2.2.1 j,λQ=>?_⟩,λa j=>⟨(n.nA a j).1,λQ=>?_⟩,by rw[Q8];omega⟩
  ·have d9:F a/\cls a=2:=by
    have:=congrFun (c2 2 dC) a;exact this▸Q
   rcases(n.nO a j).1 with g|g|g
   ·exact(B a g).2 d9.1
   ·have:=(a1 a g).2;rw[d9.2]at this;cases this
   ·have:=e5 a d9.1;omega
  ·rcases l3 a Q with g|g
   ·have:=e5 a g.1;have:=(n.nA a j).1;omega
   ·exact g.elim (n.nA a j).2.1 (n.nA a j).2.2.2.2
 ·have W:(bI S b).1≠[]:=λo=>by rw[o,List.length_nil]at g7;omega
  rw[if_neg W]at t;obtain⟨k',rfl⟩:∃k',k=k'+1:=⟨k-1,by
   have:0<b.length:=by
    have:=List.length_pos_iff.2 W;omega
   omega⟩
  obtain⟨av,e0⟩:∃av,av=dP (bI S b).1 S (Lo.map (·.x)):=⟨_,rfl⟩
  rw[<-e0]at t;have g9:Lo.length+Z.length+(bI S b).2.length<=evs.length+256:=oM
  obtain⟨b2,b3⟩:∃b2,b2=(bI S b).2:=⟨_,rfl⟩
  rw[<-b3]at t n g9 d7;have e7:=n.buf.KD;obtain⟨y,hR⟩:∃y,y=(bI S b).1:=⟨_,rfl⟩
  rw[<-hR]at d8 g7 d7 e0;have h0:∀d,aI Y=some d->¬Fs d/\aI oa≠some d:=λd i=>by
   have g:=g5 d i;exact⟨λm=>by have:=l.set.aF d m;omega,λo=>by have:=l.out.aF d o;omega⟩
  have p1:∀d,aI Y=some d->¬Db d:=λd i m=>by
   have g:=g5 d i;have h6:=(l.buf.KD d m).1;omega
  refine⟨λI oa on oc J w'=>∃(f:Nat) (S:aq) (Lo:List (Bx ah)) (Fs Do:Nat->Prop),J=f/\f<=n2/\I=n2-f/\Ip w h.wp c.buffer.toNat M0 D0 E s S b2 oa on oc Lo w' M Db Fs Do/\dP (y.drop f) S (Lo.map (·.x))=av/\S.l.length<=X.S.l.length+Lo.length/\Lo.length+(n2-f)+b2.length<=evs.length+256/\aV qE.k_ 59 (λb=>aI Y=some b) w' Y n2 f9 Z/\(∀a∈Z,qE.In w' Db a)/\∀d,aI Y=some d->¬Fs d/\aI oa≠some d,
   ⟨_,0,S,Lo,Fs,Do,rfl,Qj _,rfl,n,e0.symm,V,oM,g4,k8,h0⟩,?_⟩
  rintro I c3 h1 h5 _ _ h2 ⟨f,z,b0,l4,h3,rfl,hj,rfl,L,R,l5,b8,c4,h4,e2⟩;have p2:=L.keep.size;have m7:=L.out.len dC;refine al.dec (λj5=>?_) (λj6=>?_)
  ·obtain⟨a,j⟩:∃a,Z[f]? =some a:=⟨_,Qq oM⟩
   have h7:y[f]? =some a.x:=by rw[<-d8,Q9,j];rfl
   have a8:y.drop f=a.x::y.drop (f+1):=by
    rw[X4 (Qv.1 h7).1]
    congr 1
    exact(Qv.1 h7).2
   have h8:dP (a.x::y.drop (f+1)) z (b0.map (·.x))=if(z.add a.x).1=0 then dP (y.drop (f+1)) (z.add a.x).2 (b0.map (·.x)++[a.x])else dP (y.drop (f+1)) (z.add a.x).2 (b0.map (·.x)):=rfl
   rw[a8,h8]at R;have d1:=h4 a (QZ j);obtain⟨gb,go,es,ha,j7,p3,d2,rfl,-⟩:=(c4.row (bytes:=96) dC (by unfold aQ;omega)).el f a j;refine⟨gb,go,ha,oM,oM,br (es:=aE a.x a.a a.n a.c) (k:=10) (bg _ _ _ _) rfl (λJ ht=>by rw[Qx];exact d2 J ht) (PA.mk λp4 l6 p5 l7=>aD (bg a.x a.a a.n a.c) l7 rfl λl8 l9 p6 h9=>aw (bg a.x a.a a.n a.c) h9 ?_)⟩;have a4:ai h2 l8:=l6.new l9 λb e=>.inr (by have e:b=h2.heap.size:=e;omega);have p7:=a4.size;have m0:=L.buf.KD;have i0:=c4.aF;refine PC.ok ((L.af a4).add (d1.keep a4 λ_ _ h=>h).1 (λd i=>⟨by have:=(m0 d i).1;omega,(L.nD d i).2⟩) d1.2 oM) ?_;rintro _ m1 ⟨rfl,e3,T,a6,i1⟩;have p8:=a6.size;have b5:=L.set.aF;have A:=a6.get h9 λm=>by have:=b5 _ m;omega
   have f6:=z.AU a.x;have c6:=(c4.af a4).keep a6 λd i=>(e2 d i).1;have c7:∀d∈Z,qE.In m1 Db d:=λd i=>((h4 d i).keep a4 λ_ _ h=>h).keep a6 λc8 Q=>(L.nD c8 Q).2;have a7:∀d,aI Y=some d->¬e3 d/\aI c3≠some d:=λd i=>⟨λm=>(i1 d m).elim (e2 d i).1 λg=>by have:=i0 d i;omega,(e2 d i).2⟩
   refine⟨_,rfl,al.dX (λr=>?_) (λr=>?_)⟩
   ·rw[if_pos r]at R
    refine⟨_,_,_,_,_,_,_,_,_,_,_,_,ae A rfl,ae A rfl,ae A rfl,ae A rfl,ae A rfl,ae A rfl,ae A rfl,ae A rfl,ae A rfl,ae A rfl,PA.mk λp9 c0 q0 m2=>?_⟩;have i2:=T.af c0;have e1:=T.buf.KD;have q1:=c0.size;refine i2.push xH ((c7 a (QZ j)).keep c0 λ_ _ h=>h) (λd i=>⟨.inr (T.nD d i).1,by have:=(e1 d i).1;omega,(e1 d i).2,(T.nD d i).2,λo=>(T.nA d o).2.2.2.2 i⟩) m2 oM λa' c' q2 P i3 f0 i4=>⟨_,_,_,rfl,_,oM,f+1,_,_,e3,P,an oM,oM,rfl,i3,?_,?_,?_,(c6.af c0).keep f0 λd i o=>(a7 d i).2 o,λd i=>((c7 d i).keep c0 λ_ _ h=>h).keep f0 λc8 Q o=>(T.nA c8 o).2.2.2.2 Q,λd i=>⟨(a7 d i).1,λo=>?_⟩⟩
    ·rw[Q3];exact R
    ·rw[QX,List.length_singleton];omega
    ·rw[QX,List.length_singleton];omega
    ·rcases i4 d o with g|g
     ·exact(a7 d i).2 g
     ·have:=c6.aF d i;omega
   ·rw[if_neg r]at R
    have a9:(z.add a.x).2.l.length<=z.l.length:=by
     rcases z.gg a.x with⟨-,g⟩|⟨g,-⟩
     ·rw[g];exact Q4 _
     ·rw[g]at r;exact absurd rfl r
    exact⟨_,oM,f+1,_,b0,e3,h3,an oM,oM,rfl,T,R,oM,oM,c6,c7,a7⟩
  ·rw[List.drop_eq_nil_of_le oM]at R
   have i5:av=(z,b0.map (·.x)):=R.symm;rw[i5]at t;have q3:0<y.length:=by have:=List.length_pos_iff.2 W;rw[<-hR]at this;exact this
   exact⟨b2.length,oM,z,b2,b0,M,Db,l4,h3,k',rfl,L,oM,t,l5,oM⟩
end
section
variable {w w' w0 w1 w2:World} {p:Nat} {F E Dv:Nat->Prop} {cls:Nat->Nat} {h:ko} {c:cz} {self:Int} {X:bw} {m:dz} {va ea:Option Addr} {vn vc en ec:Nat}
def Qp(hr:bP w p F c self X)(he:Env w0 w F){V:cY}(a6:X.log=some V)(c3:Row fZ 96 w E ea en m.events)(O:∀a,E a->a<w.heap.size/\¬F a)(a7:m.events.length<=1000)(hl:X.S.l.length<=18000000):
  Calls ZQ 52 #[ZX p,kD m va vn vc ea en ec] w (Ok λa5 w'=>∃P f,a5= .tuple #[P,QH (ia c self X m).2.1]/\fx w f (ia c self X m).1 P w'/\bP w' p f c self (ia c self X m).2.2/\de F w f w'):=by
 obtain⟨i,h,cls,Q⟩:=hr;have R:=Q.aF;refine nH (PA.mk λS r s8 T=>?_);obtain⟨b,U⟩:∃b,b=fm c X m.events:=⟨_,rfl⟩
 have z:∀{A},(if b.1=[]then([yN X.S self m.ck],0,{X with waits:=b.2})else
   if(bU c {X with waits:=b.2} b.1).1≠0 then([],(bU c {X with waits:=b.2} b.1).1,{(bU c {X with waits:=b.2} b.1).2 with waits:=[]})else([yN (bU c {X with waits:=b.2} b.1).2.S self m.ck],0,(bU c {X with waits:=b.2} b.1).2))=A->ia c self X m=A:=λ{A} e=>by rw[<-e,U];rfl
 refine⟨λw'=>∃f g,bP w' p f c self g/\de F w f w'/\(∀a,f a->F a\/S.heap.size<=a)/\w'.heap[w.heap.size]? =some (.cells (cD m va vn vc ea en ec).toArray 67 (0,0))/\ia c self X m=([yN g.S self m.ck],0,g),?_,?_⟩
 ·refine⟨_,_,_,ae T rfl,PC.ok (Qr (c_.af Q r) i (c3.af r) (λa d=>⟨by have:=(O a d).1;omega,(O a d).2⟩) a7 hl) ?_⟩
  rw[<-U];rintro _ W ⟨Y,on,oc,Lo,B,b0,Do,rfl,C,Z,c4,b2,j,s,c5,e0⟩;have hn:=C.len dC;have c6:Lo.length=b.1.length:=by rw[<-Z,Q8]
  have b3:=fv.unbox C c4 λa d=>⟨(s a d).1,(s a d).2.1⟩
  rw[Ud,Z]at b3;have b4:Row fZ 96 W (λa=>aI Y=some a\/Do a) Y on b.1:=b3.row dC (by unfold aQ;omega);have H:de F w B W:=⟨(ai.keep r).then j.keep,λa d=>(j.new a d).imp id λh1=>oM⟩
  have I:∀a,B a->F a\/S.heap.size<=a:=j.new;have b5:=j.keep.get T λe=>by have:=R _ e;omega
  have c7:=(he.af r).Ec j;refine⟨_,_,_,rfl,al.dec (λd9=>?_) (λhz=>?_)⟩
  rotate_left
  ·have b6:b.1=[]:=QW oM
   exact⟨B,{X with waits:=b.2},⟨i,h,b0,b2⟩,H,I,b5,z (if_pos b6)⟩
  have b7:b.1≠[]:=λt=>by rw[t,List.length_nil]at c6;omega
  refine PC.ok (Kq b2 i c7 (V:=V) a6 b4 (λa d=>d.elim (λt=>⟨C.aF a t,λe=>(c5 a t).2 e.1⟩) λe=>⟨(s a e).1,(s a e).2.2⟩) (by show X.S.l.length+_<=_;omega)) ?_;rintro _ c8 ⟨rfl,l,F2,a1,u,J,-⟩;have a0:=H.trans J;have e1:=H.keep.size;refine⟨_,rfl,al.dw (λb8=>?_) (λh0=>?_)⟩
  ·obtain⟨a2,Db,d,hM,hD⟩:=(show Mw c8 (λa=>F2 a/\a1 a=5) l.wp c.buffer.toNat (bU c {X with waits:=b.2} b.1).2.waits from u.at' 5)
   refine⟨p,0,rfl,_,ae (u.at' 0).2 rfl,PC.ok (vG d) ?_⟩;rintro _ e2 ⟨rfl,a3,c9⟩;obtain⟨F3,n,K,o,-⟩:=u.Ec cj (k:=5) (G':=a2) (C2:=mf p (l.cells c self) l c {(bU c {X with waits:=b.2} b.1).2 with waits:=[]} (bU c {X with waits:=b.2} b.1).2.S.l) ⟨c9.mono λa _ d=>hM a d,λa d=>.inl (hM a d)⟩ a3.Qs ⟨a2,_,a3,λ_ h=>h,λa d=>d.elim⟩ λa4 G hj hc=>by
    rcases a4 with _|_|_|_|_|_|_|a4<;>first|exact hc|exact absurd rfl hj
   refine⟨rfl,Ok.mk ?_⟩;rw[z ((if_neg b7).trans (if_pos b8))];exact⟨_,F3,rfl,fx.nil _ _ _,⟨i,l,n,K⟩,a0.trans o⟩
  ·refine⟨F2,(bU c {X with waits:=b.2} b.1).2,⟨i,l,a1,u⟩,a0,λa d=>(J.new a d).elim (I a) λL=>.inr (by have:=j.keep.size;omega),J.keep.get b5 λe=>?_,z ((if_neg b7).trans (if_neg (by simpa using h0)))⟩
   rcases I _ e with L|L
   ·have:=R _ L;omega
   ·omega
 ·rintro _ d0 ⟨f,g,d1,M,e3,d2,d3⟩ b9 d4
  obtain⟨-,h',q,N⟩:=d1;have v:ai d0 b9:=d4.keep;have k:=c_.af N v;refine⟨p,0,rfl,_,ae k.bG rfl,p,0,rfl,_,ae k.bG rfl,_,ae (v.get d2 id) rfl,PC.ok (Ki (k.at' 3).1) ?_⟩;rintro _ d5 ⟨a8,n2,c2,G,rfl,c0,hG,x⟩;have c1:=c0.aF;have e4:=M.keep.size;have z2:=v.size;have d6:=x.size;refine⟨_,_,_,_,_,_,_,_,_,rfl,PA.mk λd7 y e5 d8=>?_⟩;have hm:bB b9 [yN g.S self m.ck] (.slice (ZZ d5.heap.size) 1 1) d7:=bB.one (D:=G) d8 ⟨(c0.af y).row dC (by show g.S.vec.length*8<=aQ;rw[g.S.b_];have:g.S.n<=64:=(k.at' 3).1.1.n;unfold aQ;omega),eE _ _⟩ (λa d=>⟨hG a d,by have:=c1 a d;omega,by have:=c1 a d;omega⟩) d6 (x.then y);rw[d3];exact Ok.mk ⟨_,f,rfl,hm.out k.aF oM,⟨i,h',q,c_.af k (x.then y)⟩,((M.keep.af v).af x).af y,M.new⟩
end
end Go.Proofs.YtfchlbaidamodaaGreatDoor

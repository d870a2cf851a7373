import Derived.Test.YtjgjkeponbeekaaGreatDoorKa28
set_option linter.all false
set_option maxHeartbeats 4000000
set_option maxRecDepth 20000
namespace Go.Proofs.YtjgjkeponbeekaaGreatDoor
open Go.ar
def Bz{D:an}{size:Int}(a:(ep D size).no=0):(ep D size).V.bH≠[]:=by
 revert a
 unfold ep;generalize jy (told D) [] (u_ D size) D=d;unfold nZ;split
 ·rename_i c;intro a;exact absurd a c
 split
 ·intro a;exact ss a
 rename_i b;split
 ·intro _;exact b
 ·intro _;exact b
abbrev w_(a:jh)(b:bP)(c:Int)(d e f:Option Addr):Array Value:= #[XH b.aD,XH b.uM,XH b.bM,XH b.chunk,XH b.buffer,XH b.cP,XH b.every,XH b.start,.slice a.ta a.tn a.tc,.slice a.pa a.pn a.pc,XH c,
 ZQ a.dp,.pointer d,.pointer e,.pointer f,ZQ a.wp,ZQ a.tp]
def recC(e:Nat)(f:Array Value)(b:jh)(d:bP)(c:bj)(g:Bool):Nat->World->(Nat->Prop)->Prop
 |0=>λa G=>G e/\a.heap[e]? =some (.cells f 105 (0,0))
 |1=>λa G=>bb a G d.decl b.ta b.tn b.pa b.pn
 |2=>λa G=>DL a G b.dp b.lp c.D c.log
 |3=>λa G=>g=true->cf a b.sp G c.S/\c.S.Cl/\c.S.n=d.aD.toNat
 |5=>λa G=>Nj a G b.wp d.buffer.toNat c.waits
 |6=>λa G=>dy a b.tp G c.fI
 |_=>λ_ _=>True
variable{n:Array Value}{I:Bool}
section
variable {w w' w0:World} {p:Nat} {F E T:Nat->Prop} {cls:Nat->Nat} {h:jh} {c:bP} {self:Int} {X:bj} {evs lB:List aj} {ea:Option Addr} {en ec:Nat}
def gl:kV (recC p n h c X I):=by
 intro k w w' G T a d b
 match k,a with
 |0,a=>exact⟨a.1,d.get a.2 (b p a.1)⟩
 |1,a=>exact bb.af a d b
 |2,a=>exact DL.af a d b
 |3,a=>exact λg=>⟨cf.af (a g).1 d b,(a g).2⟩
 |4,a=>trivial
 |5,a=>obtain⟨l,D,m,i,j⟩:=a;exact⟨l,D,m.af d (λe f=>b e (i e f)) λe f=>b e (j e f),i,j⟩
 |6,a=>exact dy.af a d b
 |k+7,a=>trivial
def xO{z1 z2 z3:Option Addr}(T:aT w F cls (recC p (w_ h c self z1 z2 z3) h c X false))(M:iS c self)(B:Env w0 w F):
  Calls XP 46 #[ZQ p] w (Ok λC w'=>C= XH (ic c X).1/\(ic c X).2.S.l.length<=16777216/\∃U r f,cu w' r f p U c self (ic c X).2/\bK F w r w'):=by
 obtain⟨g0,d2,j5⟩:=M.aD;have g1:=T.aB;have V:F p/\cls p=0:=(T.at' 0).1;have j0:1<=c.every:=by
  have:=M.right;unfold eP at this;simp only[QK,decide_eq_true_eq]at this;omega
 refine kL λw3 d3=>?_;have W:ai w w3:=d3.af;have N:=aT.ah T gl W;have O:=(N.at' 0).2;refine⟨λ_=>False,p,0,rfl,_,ae O rfl,p,0,rfl,id,_,_,_,_,_,_,ae O rfl,ae O rfl,p,0,rfl,id,_,ae O rfl,?_⟩;rw[g0];refine PC.ok (Eu d2) ?_;rintro _ d4 ⟨g,F2,rfl,Y,d5,E⟩;have a9:=W.then E;have d6:=aT.ah N gl E;refine⟨_,rfl,E,PC.ok (Oq M.decl M.every ((B.oE.ah B.gr).ah a9) (show bb d4 (λa=>F a/\cls a=1) c.decl h.ta h.tn h.pa h.pn from d6.at' 1) λa b=>d6.aB a b.1) ?_⟩;rintro _ g2 ⟨j,F4,rfl,Z,d7,b7⟩;have y3:=W.size;have j6:=E.size;have j7:=b7.size;rw[show(max 1 c.every).toNat=c.every.toNat by congr 1;omega]at Z;have j1:=Y.aB;obtain⟨Fa,d1,H,b0,g4,-⟩:=N.Gz gl (k:=3) (w':=d4) (G':=F2) (C2:=recC p (w_ h c self z1 z2 z3) {h with sp:=g} c {X with S:=⟨c.aD.toNat,[]⟩} true) (ai.af E) (λa b n=>by have:=d5 a b;have:=g1 a n;omega) Y.aB (λ_=>⟨Y,aw.Cl.new d2,rfl⟩) λd G k l=>by
  rcases d with _|_|_|_|_|_|_|d<;>first|exact l|exact absurd rfl k
 obtain⟨v,s,b8,b1,g5,-⟩:=H.Gz gl (k:=4) (w':=g2) (G':=F4) (C2:=kQ p (w_ h c self z1 z2 z3) {h with sp:=g,bp:=j} c {X with S:=⟨c.aD.toNat,[]⟩} []) (ai.af b7) (λa b n=>by have:=d7 a b;have:=H.aB a n;omega) Z.aB Z λd G k l=>by
  rcases d with _|_|_|_|_|_|_|d<;>first|exact l|exact l rfl|exact absurd rfl k
 have d8:∀a,v a->F a\/w.heap.size<=a:=λa b=>by
  rcases g5 a b with m|m
  ·rcases g4 a m.1 with h6|h6
   ·exact .inl h6.1
   ·exact .inr (by have:=d5 a h6;omega)
  ·exact .inr (by have:=d7 a m;omega)
 refine⟨_,rfl,p,0,rfl,PS.mk (b8.at' 0).2 sM λj8 d9 j9 g6=>⟨p,0,rfl,PS.mk g6 sM λb9 e0 k0 g7=>λc1 g8=>?_⟩⟩;have j2:v p/\s p=0:=(b8.at' 0).1;have e1:ai b9 c1:=g8.af;have g9:aT b9 v s (kQ p (w_ h c self z1 (ZX g) (ZX j)) {h with sp:=g,bp:=j} c {X with S:=⟨c.aD.toNat,[]⟩} []):=cu.store b8 (d9.then e0) g7;have b2:bK F w v b9:=⟨((ai.af a9).ah b7).then ((d9.then e0).mono λa _ i=>by have i:a=p:=i;rw[i];exact V.1),d8⟩
 have I:=aT.ah g9 bF e1;have P:bK F w v c1:=⟨b2.af.ah e1,b2.new⟩
 have e2:=B.gv P;have e3:=(I.at' 0).2;have h4:=DL.uM (show DL c1 (λa=>v a/\s a=2) h.dp h.lp X.D X.log from I.at' 2) (e2.sub λa b=>b.1);refine⟨p,0,rfl,_,ae e3 rfl,p,0,rfl,_,ae e3 rfl,PC.ok (Hv B.laid h4) ?_⟩;have a0:∀{e},(if(ep X.D c.bM).no≠0 then((ep X.D c.bM).no,{X with D:=(ep X.D c.bM).D,log:=none,S:=⟨c.aD.toNat,[]⟩})
   else(0,{X with D:=(ep X.D c.bM).D,log:=some (ep X.D c.bM).V,S:=(⟨c.aD.toNat,[]⟩:aw).fr (ep X.D c.bM).out}))=e->ic c X=e:=λ{e} hq=>hq
 have b3:=Bz (D:=X.D) (size:=c.bM);generalize ep X.D c.bM=e at a0 b3;rintro _ h7 (⟨J,rfl,e5,c3⟩|⟨J,t,e9,a1,cc,G,rfl,c4,h8,c3,hG,hq,j3⟩)
 ·obtain⟨G2,c5,a2,c6,-⟩:=DL.L_ (Y:=λ_=>False) (e5.mono λa b=>b.elim id False.elim) c3
  obtain⟨u,Q,x,a3,-,-⟩:=I.gv bF (k:=2) (G':=G2) (C2:=kQ p (w_ h c self z1 (ZX g) (ZX j)) {h with sp:=g,bp:=j,lp:=none} c {X with S:=⟨c.aD.toNat,[]⟩,D:=e.D,log:=none} []) a2 c6 (by
    obtain⟨Fd,h1,h2,N⟩:=c5;exact⟨Fd,h1,h2,rfl⟩) λd G k l=>by
   rcases d with _|_|_|_|_|_|_|d<;>first|exact l|exact absurd rfl k
  refine⟨_,_,_,_,_,rfl,p,0,rfl,PS.mk (x.at' 0).2 sM λy z e4 c7=>al.dB (λ_=>Ok.mk ?_) (λh0=>absurd h0 J)⟩;rw[a0 (if_pos J)];refine⟨rfl,Qj _,{h with sp:=g,bp:=j,lp:=none},u,Q,cu.store x z c7,?_⟩;have K:=P.trans a3;exact⟨K.af.then (z.mono λa _ i=>by have i:a=p:=i;rw[i];exact V.1),K.new⟩
 ·obtain⟨G2,c5,a2,c6,hY⟩:=DL.FU h8 c3 (b3 J)
  obtain⟨u,Q,x,a3,h9,-⟩:=I.gv bF (k:=2) (G':=G2) (C2:=kQ p (w_ h c self z1 (ZX g) (ZX j)) {h with sp:=g,bp:=j,lp:=ZX t} c {X with S:=⟨c.aD.toNat,[]⟩,D:=e.D,log:=some e.V} []) a2 c6 c5 λd G k l=>by
   rcases d with _|_|_|_|_|_|_|d<;>first|exact l|exact absurd rfl k
  refine⟨_,_,_,_,_,rfl,p,0,rfl,PS.mk (x.at' 0).2 sM λy z e4 c7=>al.dB (λh0=>absurd rfl h0) (λ_=>?_)⟩;have f0:aT y u Q (kQ p (({h with sp:=g,bp:=j,lp:=ZX t}:jh).cells c self) {h with sp:=g,bp:=j,lp:=ZX t} c {X with S:=⟨c.aD.toNat,[]⟩,D:=e.D,log:=some e.V} []):=cu.store x z c7;have K:=P.trans a3;have b4:bK F w u y:=⟨K.af.then (z.mono λa _ i=>by have i:a=p:=i;rw[i];exact V.1),K.new⟩
  have j4:=P.af.size;have c8:∀a,G a->¬u a:=λa b n=>by
   rcases h9 a n with m|m
   ·have:=I.aB a m.1;have:=hG a b;omega
   ·exact hY a m b
  have i0:∀a,G a->a≠p:=λa b i=>c8 a b (i▸(x.at' 0).1.1);have b5:=c4.aB;have k1:=c4.len dC;have b6:Row jj 96 y G e9 a1 e.out:=uH.row (((c4.af z λa b i=>i0 a b i)).row dC (by unfold aK;omega));have k2:y.heap.size=h7.heap.size:=e4;rw[a0 (if_neg (by simpa using J))];have f8:=Qm b6;refine⟨λc0 a4 w'=>∃(d:Nat) (R:Nat->Prop) (e6:Nat->Nat),a4=d/\d<=a1/\c0=a1-d/\aT w' R e6 (kQ p (({h with sp:=g,bp:=j,lp:=ZX t}:jh).cells c self) {h with sp:=g,bp:=j,lp:=ZX t} c {X with S:=(⟨c.aD.toNat,[]⟩:aw).fr (e.out.take d),D:=e.D,log:=some e.V} [])/\bK u y R w',
   ⟨_,0,u,Q,rfl,Qj _,rfl,f0,bK.refl _ _⟩,?_⟩
  rintro c0 _ _ e7 ⟨d,R,e6,rfl,k,rfl,c9,A⟩;have i1:∀a,G a->¬R a:=λa b n=>by
   rcases A.new a n with m|m
   ·exact c8 a b m
   ·have:=b5 a b;omega
  have d0:=aw.mu (e.out.take d) ⟨c.aD.toNat,[]⟩;rw[Qy]at d0;simp only[List.length_nil]at d0;refine al.dec (λk4=>?_) (λk5=>?_)
  ·obtain⟨o,S⟩:∃o,e.out[d]? =some o:=⟨_,Qq oM⟩
   obtain⟨a,f1,es,ha,k6,k7,i2,xa,xn,xc,rfl,i3,c2⟩:=(b6.af A.af c8).el d o S;refine⟨a,f1,ha,oM,oM,bA (es:=aC o xa xn xc) (k:=10) (aV _ _ _ _) rfl (λa4 ht=>by rw[Qx];exact i2 a4 ht) (PA.mk λk8 i4 k9 i5=>az (aV o xa xn xc) i5 rfl λl0 i6 l3 i7=>λi8 e8=>?_)⟩;have L:ai e7 i8:=(i4.new i6 λa b=>.inr (by have b:a=e7.heap.size:=b;omega)).then e8.af;have a5:=aT.ah c9 bF L;have l4:=A.af.size;obtain⟨f2,f4,f5⟩:=a5.at' 3;refine⟨p,0,rfl,_,ae (a5.at' 0).2 rfl,au (aV o xa xn xc) ((e8.af (S:=λ_=>False)).get i7 id) (PC.ok (tO f2 (i3.ah L) (λa b=>⟨by have:=b5 a b;have:=L.size;omega,λn=>i1 a b n.1⟩) c2 (by show((⟨c.aD.toNat,[]⟩:aw).fr (e.out.take d)).l.length<_;omega)) ?_)⟩;rintro _ l5 ⟨rfl,F8,f3,f6⟩;have i9:((⟨c.aD.toNat,[]⟩:aw).fr (e.out.take (d+1)))=(((⟨c.aD.toNat,[]⟩:aw).fr (e.out.take d)).add o).2:=by
    rw[Qw,S];exact aw.qP ..
   obtain⟨F9,a6,a7,q,-⟩:=a5.gv bF (k:=3) (G':=F8) (C2:=kQ p (({h with sp:=g,bp:=j,lp:=ZX t}:jh).cells c self) {h with sp:=g,bp:=j,lp:=ZX t} c {X with S:=(⟨c.aD.toNat,[]⟩:aw).fr (e.out.take (d+1)),D:=e.D,log:=some e.V} []) f6 f3.aB (by rw[i9];exact⟨f3,f4.add c2,(aw.SM _ _).trans f5⟩) λd G k l=>by
    rcases d with _|_|_|_|_|_|_|d<;>first|exact l|exact absurd rfl k
   exact⟨_,rfl,_,oM,d+1,F9,a6,aq oM,oM,rfl,a7,A.trans ⟨(ai.af L).then q.af,λa b=>(q.new a b).imp id λh1=>by have:=L.size;omega⟩⟩
  ·rw[Qz oM]at c9 d0
   exact BB c9 (B.gv (b4.trans A)) (λf9 o g3 S=>by simp at S) (by show((⟨c.aD.toNat,[]⟩:aw).fr e.out).l.length<=_;omega) (κ:=λC w'=>Ok (λC w'=>C= XH 0/\((⟨c.aD.toNat,[]⟩:aw).fr e.out).l.length<=16777216/\∃U r f,cu w' r f p U c self {X with S:=(⟨c.aD.toNat,[]⟩:aw).fr e.out,D:=e.D,log:=some e.V}/\bK F w r w') (.returned C) w')
    λw' r f a8 f7=>Ok.mk ⟨rfl,oM,_,r,f,a8,(b4.trans A).trans f7⟩
end
structure gA where
 code:Int
 id:Int×Int
 st:lS
 Jo:List cy
 rows:List di
 more:Bool
def fg(a:gA)(b:Option Addr)(c d:Nat)(e:Option Addr)(f g:Nat)(h:Option Addr)(i j:Nat):List Value:=
 [XH a.code,XH a.id.1,XH a.id.2,XH a.st.version,.slice b c d,.slice e f g,.slice h i j,.bool a.more]
def gK(a:gA)(b:Option Addr)(c d:Nat)(e:Option Addr)(f g:Nat)(h:Option Addr)(i j:Nat):gH XP 53 (fg a b c d e f g h i j)=true:=kR
def dO(j:World)(a:gA)(k:Value)(b:World):Prop:=∃(d:Option Addr) (e l:Nat) (f:Option Addr) (g m:Nat) (h:Option Addr) (i n:Nat) (G:Nat->Prop),k= .agg (fg a d e l f g m h i n).toArray/\
 Row ei 32 b G d e a.st.cells/\Row vF 120 b G f g a.Jo/\Row Gt 24 b G h i a.rows/\∀c,G c->j.heap.size<=c/\c<b.heap.size
abbrev bz(a:Int):gA:=⟨a,(0,0),⟨0,[]⟩,[],[],false⟩
abbrev Hj(id:Int×Int):gA:=⟨0,id,⟨0,[]⟩,[],[],false⟩
structure lF.Ok (x:lF):Prop where
 aS:aH x.aS
 agg:aH x.agg
 field:aH x.field
 op:aH x.op
 arg:aH x.arg
 key:aH x.key
variable{e m:Int}{t:List Int}{L:Prop}{j:Type}{g:TypeId}{P:aM}{d3:aU}{d4:lF}
section
variable {w w' w0:World} {p:Nat} {F E T:Nat->Prop} {cls:Nat->Nat} {h:jh} {c:bP} {self:Int} {X:bj} {evs lB:List aj} {ea:Option Addr} {en ec:Nat}
def dO.plain{a:gA}(b:a.st.cells=[])(c:a.Jo=[])(d:a.rows=[]):dO w a (.agg (fg a none 0 0 none 0 0 none 0 0).toArray) w':=
 ⟨none,0,0,none,0,0,none,0,0,λ_=>False,rfl,by rw[b];exact cU _ _,by rw[c];exact cU _ _,by rw[d];exact cU _ _,λf e=>e.elim⟩
def row_one{a:jo j}{bytes b:Nat}{w:World}{p:Nat×Nat}{f:j}{D:Nat->Prop}(h:w.heap[b]? =some (.cells n g p))(i:a.rep w D f n.toList)(k:bytes<=1000):Row a bytes w (λc=>c=b\/D c) (ZX b) 1 [f]:=by
 have q:=a.len i;refine⟨rfl,by unfold aK;omega,λd r e=>?_⟩;obtain rfl:d=0:=by
  rcases d with _|d
  ·rfl
  ·simp at e
 simp at e;subst e;refine⟨b,0,n.toList,rfl,ax h,.inl rfl,λl m=>?_,a.mono i λc k=>.inr k⟩;have o:l<n.size:=by rw[<-q]at m;simpa using m
 rw[ae h (v:=n[l]) (by simp[o])];simp[o]
def Ul{d:aw}(l:d.OK){M:Int}(g:0<=M)(h:∀a∈d.l,a.ay<=M):d.top<=M:=by
 have:∀(c:List aj) (b:Int),b<=M->(∀a∈c,a.ay<=M)->c.foldl (λb a=>max b a.ay) b<=M:=by
  intro c
  induction c with
  |nil=>intro b e _;exact e
  |cons a c i=>
   intro b e f;refine i _ ?_ λj k=>f j (QJ _ k);have:=f a (QV ..);show max b a.ay<=M;omega
 exact this d.l 0 g h
def KN[Decidable L]{a b:aj×Bool×Int}(c:a.1.Ok)(d:b.1.Ok):(if L then a else b).1.Ok:=by
 split
 ·exact c
 ·exact d
def Iq(a:d4.Ok)(f:aH e)(h:aH m)(b:∀g∈t,aH g):(aQ d4 e t m).2.Ok:=by
 have i:=BC b e;unfold aQ;dsimp only
 by_cases c:e<0\/(t.length:Int)<=e\/m<0
 ·rw[if_pos c];exact BD
 rw[if_neg c]
 by_cases d:fh t e=9223372036854775807\/m=9223372036854775807
 ·rw[if_pos d];exact BD
 rw[if_neg d];refine⟨f,?_,?_,DW b sM,a.aS,a.agg,a.field,a.op,a.arg,a.key⟩
 ·show aH (fh t e+1);unfold aH at*;omega
 ·show aH (m+1);unfold aH at*;omega
def Sn{a:aw}(g:a.l.length<=20000000):∀c∈a.vec,aH c:=λc e=>by
 obtain⟨f,b,rfl⟩:=List.getElem_of_mem e;rw[a.bL]at b;have d:=a.oh b;rw[Qq (by rw[a.bL];exact b)]at d;rw[XJ d];have:=a.Qo f;unfold aH;omega
def Ma{a:aw}(b:a.OK):aH a.top:=by
 have e:=Ul b (M:=9223372036854775807) oM λc d=>by have:=(b.ok c d).ay;unfold aH at this;omega
 have f:=a.KO;unfold aH;omega
def Sp{a:aw}(c:d4.Ok)(b:a.OK)(d:aH e)(j:aH m)(f:a.l.length<=20000000):(qG P a d3 e m d4).1.Ok:=by
 have g:aH (max a.top m):=by
  have k:=Ma b;unfold aH at*;omega
 rw[xd];refine KN BD ?_
 cases h:a.keyed d4.key with
 |some i=>exact b.ok i (List.mem_of_find?_eq_some h)
 |none=>exact KN BD (KN BD (Iq c d g (Sn f)))
end
section
variable {w w' w0:World} {p:Nat} {F E T:Nat->Prop} {cls:Nat->Nat} {h:jh} {c:bP} {self:Int} {X:bj}
def iS.Vp(a:iS c self):0<=self/\self<c.aD:=by
 have:=a.right;unfold eP within at this;simp only[QK,decide_eq_true_eq]at this;omega
def Hb(hr:bO w p F c self X)(K:Env w0 w F)(hx:d4.Ok)(hl:X.S.l.length+1<=20000000):
  Calls XP 50 #[ZQ p,vO d4] w (Ok λa3 w'=>∃f,dO w (if(eF c self X d4).1≠0 then bz (eF c self X d4).1 else Hj (eF c self X d4).2.1) a3 w'/\bO w' p f c self (eF c self X d4).2.2/\bK F w f w'):=by
 have b8:=hr;obtain⟨r,h,cls,n⟩:=hr;have v:=n.aB;have e3:=(n.Ib)
 have g7:=v p e3.1;have c0:aH self:=by have:=r.Vp;have:=r.aD;unfold aH;omega
 refine kK (PA.mk λE e4 g8 e5=>PA.mk λb2 c2 g9 d6=>?_);have a1:=e4.then c2;have e6:=cu.ah n a1;have H:∀{i:World} {f:Nat->Prop} {m:bj} {y:gA},y.st.cells=[]->y.Jo=[]->y.rows=[]->(∃s,i.heap[E.heap.size]? =some (.cells s 53 (0,0))/\s.size=8)->bO i p f c self m->(∀a,f a->F a\/b2.heap.size<=a)->bK F w f i->(eF c self X d4).2.2=m->(if(eF c self X d4).1≠0 then bz (eF c self X d4).1 else Hj (eF c self X d4).2.1)=y->
   mg XP 53 (ZQ E.heap.size) (.agg (fg y none 0 0 none 0 0 none 0 0).toArray) i λc3=>il XP 53 (ZQ E.heap.size) c3 λd=>Ok (λa3 w'=>∃f,dO w (if(eF c self X d4).1≠0 then bz (eF c self X d4).1 else Hj (eF c self X d4).2.1) a3 w'/\bO w' p f c self (eF c self X d4).2.2/\bK F w f w') (.returned d) c3:=λ{i f m y} y1 y2 y3 hz b3 b4 Q hX hy=>by
  obtain⟨s,hg,e7⟩:=hz;refine az (gK y none 0 0 none 0 0 none 0 0) hg (by rw[e7];rfl) λc3 d7 h2 e8=>au (gK y none 0 0 none 0 0 none 0 0) e8 (Ok.mk ⟨f,by rw[hy];exact dO.plain y1 y2 y3,?_,Q.af.new d7 λa b=>.inr (by have b:a=E.heap.size:=b;omega),Q.new⟩);rw[hX];refine b3.af d7 λa b g=>?_;have g:a=E.heap.size:=g;rcases b4 a b with h1|h1
  ·have:=v a h1;omega
  ·omega
 refine⟨p,0,rfl,_,ae e6.bh rfl,e_ Tryz.underlying101 ⟨_,rfl,?_⟩⟩;have d8:DL w (λa=>F a/\cls a=2) h.dp h.lp X.D X.log:=n.at' 2;obtain⟨hS,R,hn⟩:=(show cf w h.sp (λa=>F a/\cls a=3) X.S/\X.S.Cl/\X.S.n=c.aD.toNat from n.at' 3)
 cases S:X.log with
 |none=>
  obtain⟨Fd,-,-,h3⟩:=d8;rw[S]at h3;have h3:h.lp=none:=h3;rw[h3];refine al.tt rfl ?_;have o:eF c self X d4=(15,(0,0),X):=by unfold eF;rw[S]
  exact H (y:=bz 15) rfl rfl rfl ⟨_,d6,rfl⟩ (b8.ah a1) (λa b=>.inl b) ⟨ai.af a1,λa b=>.inl b⟩ (by rw[o]) (by rw[o];rfl)
 |some f1=>
 obtain⟨f4,a4,c4,-⟩:=DL.ND (S▸d8) (K.sub λa b=>b.1) λa b=>v a b.1;rw[a4];refine al.ff rfl λe9 f2=>⟨λ_=>False,?_⟩
 have b5:ai b2 e9:=f2.af;have a2:=a1.then b5;have c5:=cu.ah n a2;refine⟨p,0,rfl,id,_,_,_,_,_,_,ae c5.bh rfl,ae c5.bh rfl,p,0,rfl,_,ae c5.bh rfl,PC.ok (qO (hS.ah a2) oM) ?_⟩;rintro _ h4 ⟨la,ln,lc,G,rfl,c6,L,hG⟩;have h6:=c6.len dC;have f3:=c6.aB;have T:=a2.then L;have h7:=cu.ah n T;have b9:∀{i:World},ai w i->bb i (λa=>F a/\cls a=1) c.decl h.ta h.tn h.pa h.pn:=λ{i} I=>(cu.ah n I).at' 1;refine⟨_,_,_,rfl,L,PC.ok (Gu r.decl (K.oE.ah (K.gr.then T)) (b9 T) (λa b=>by have:=v a b.1;have:=T.size;omega) (c6.row dC (by unfold aK;omega)) (λa b=>f3 a b) oM) ?_⟩;rintro _ J ⟨vp,Fv,rfl,hv,h8,M⟩;have N:=T.then M;have c1:=((c2.then b5).then L).then M;obtain⟨g5,f5⟩:=GD r.decl X.S.l;obtain⟨d,c7⟩:∃d,d=qG c.decl X.S (cm c.decl X.S.l) self c.start d4:=⟨_,rfl⟩
 have h9:=a2.size;have i0:=L.size;have i1:=M.size;have x:∀{i:World},ai J i->Calls XP 80 #[.agg #[.slice h.ta h.tn h.tc,.slice h.pa h.pn h.pc],ZQ h.sp,ZQ vp,XH self,XH c.start,vO d4] i (Ok (vj i d)):=λ{i} I=>by
  rw[c7];exact CL (K.oE.ah ((K.gr.then N).then I)) (b9 (N.then I)) (λa b=>by have:=v a b.1;have:=(N.then I).size;omega) r.decl (hS.ah (N.then I)) oM (hv.ah I) f5
   (by have:=r.start;unfold aH at this;omega) (by have:=Ma R.ok;unfold aH at this;omega)
 refine⟨_,rfl,M,λU eo q no w'=>eo=0/\∃j k l G,w'.heap[U]? =some (.cells (aC d.1 j k l).toArray 63 (0,0))/\Row aJ 8 w' G j k d.1.aP/\(∀a,G a->J.heap.size<=a/\a<w'.heap.size)/\J.heap.size<=U/\q=d.2.1/\no=d.2.2/\ai J w',?_,?_⟩
 ·intro z d9
  have O:ai J z:=d9.af;have i2:z.heap.size=J.heap.size:=by rw[d9.heap]
  have e0:=N.then O;have V:=cu.ah n e0;have e1:=O.get (c1.get e5 id) id;have nS:¬z.heap.size<=p:=oM
  have f6:¬z.heap.size<=w.heap.size:=by have:=b5.size;have:=L.size;have:=M.size;omega
  refine⟨λa=>z.heap.size<=a,p,0,rfl,nS,_,_,_,_,_,_,ae V.bh rfl,ae V.bh rfl,p,0,rfl,nS,_,ae V.bh rfl,p,0,rfl,nS,_,ae V.bh rfl,p,0,rfl,nS,_,ae V.bh rfl,f6,au (xl d4) e1 ⟨PC.ok (x O) ?_,PA.mk λi3 c8 i4 f8=>⟨ai.af c8,PC.ok (x (O.then c8)) ?_⟩⟩⟩
  ·rintro _ c9 ⟨j,k,l,G,rfl,W,t,d0⟩
   have i5:=d0.size;refine bN (ri d.1 j k l) ⟨_,_,rfl,ai.af d0,PA.mk λi6 d1 i7 g0=>⟨ai.af d1,az (aV d.1 j k l) g0 rfl λi8 d2 i9 g1=>⟨d2.mono λa _ g=>by have g:a=c9.heap.size:=g;omega,rfl,j,k,l,G,g1,?_,λa b=>⟨by have:=t a b;omega,by have:=t a b;omega⟩,oM,rfl,rfl,?_⟩⟩⟩
   ·exact(W.ah d1).af d2 λa b g=>by have g:a=c9.heap.size:=g;have:=(t a b).2;omega
   ·exact((O.then d0).then d1).new d2 λa b=>.inr (by have b:a=c9.heap.size:=b;omega)
  ·rintro _ j0 ⟨j,k,l,G,rfl,W,t,b6⟩
   have j1:=b6.size;refine bN (ri d.1 j k l) ⟨_,_,rfl,ai.af b6,az (aV d.1 j k l) (b6.get f8 id) rfl λj2 d3 j3 g2=>⟨d3.mono λa _ g=>by have g:a=z.heap.size:=g;omega,rfl,j,k,l,G,g2,?_,λa b=>⟨by have:=t a b;omega,by have:=t a b;omega⟩,oM,rfl,rfl,?_⟩⟩
   ·exact W.af d3 λa b g=>by have g:a=z.heap.size:=g;have:=(t a b).1;omega
   ·exact((O.then c8).then b6).new d3 λa b=>.inr (by have b:a=z.heap.size:=b;omega)
 rintro U _ q no _ P ⟨rfl,j,k,l,G2,e,W,t,j4,rfl,rfl,a5⟩;have Y:=N.then a5;have j5:=cu.ah n Y;have g6:=c1.then a5;have b0:=a5.get (M.get (L.get (b5.get d6 id) id) id) id;have a6:d.1.Ok:=by rw[c7];exact Sp hx R.ok c0 r.start oM
 have a7:∀{A:Int×(Int×Int)×bj},(if d.2.2≠0 then(d.2.2,(0,0),X)else if d.2.1 then(if(fB c X [d.1]).1≠0 then((fB c X [d.1]).1,(0,0),(fB c X [d.1]).2)else(0,aW d.1,(fB c X [d.1]).2))else(0,aW d.1,X))=A->eF c self X d4=A:=λ{A} ht=>by
  rw[<-ht,c7];unfold eF;rw[S]
 have j6:=Y.size;have d5:=ax e;refine⟨λA w'=>∃f m,bO w' p f c self m/\bK F w f w'/\(∀a,f a->F a\/b2.heap.size<=a)/\w'.heap[U]? =some (.cells (aC d.1 j k l).toArray 63 (0,0))/\(∃s,w'.heap[E.heap.size]? =some (.cells s 53 (0,0))/\s.size=8)/\eF c self X d4=(if A≠0 then(A,(0,0),m)else(0,aW d.1,m)),?_,?_⟩
 ·have B:eF c self X d4=(if d.2.2≠0 then(d.2.2,(0,0),X)else(0,aW d.1,X))->∃f m,bO P p f c self m/\bK F w f P/\(∀a,f a->F a\/b2.heap.size<=a)/\P.heap[U]? =some (.cells (aC d.1 j k l).toArray 63 (0,0))/\(∃s,P.heap[E.heap.size]? =some (.cells s 53 (0,0))/\s.size=8)/\eF c self X d4=(if d.2.2≠0 then(d.2.2,(0,0),m)else(0,aW d.1,m)):=λo=>
   ⟨F,X,b8.ah Y,⟨ai.af Y,λa b=>.inl b⟩,λa b=>.inl b,e,⟨_,b0,rfl⟩,o⟩
  refine al.dA (λC=>al.mk (λu=>?_) (λu=>B (a7 (by rw[if_neg (by simpa using C),if_neg (by simpa using u),if_neg (by simpa using C)])))) (λC=>B (a7 (by rw[if_pos C,if_pos C])));refine⟨_,_,_,_,_,_,_,_,_,_,_,_,ae e rfl,ae e rfl,ae e rfl,ae e rfl,ae e rfl,ae e rfl,ae e rfl,ae e rfl,ae e rfl,ae e rfl,PA.mk λe2 b7 j7 g3=>?_⟩;have a9:=Y.then b7;have f0:Row jj 96 e2 (λa=>a=P.heap.size\/G2 a) (ZX P.heap.size) 1 [d.1]:=row_one g3 ⟨j,k,l,rfl,W.ah b7,a6⟩ dC;refine PC.ok (Ic (cu.ah n a9) r (K.ah a9) S f0 (λa b=>?_) (by simpa using hl)) ?_
  ·have g4:J.heap.size<=a/\a<e2.heap.size:=b.elim (λg=>⟨oM,oM⟩) λh5=>by have:=t a h5;omega
   exact⟨g4.2,λu=>by have:=v a u.1;omega⟩
  rintro _ j8 ⟨rfl,h',f,Z,a8,a0,-⟩;refine⟨_,rfl,f,(fB c X [d.1]).2,⟨r,h',Z,a8⟩,⟨(ai.af a9).then a0.af,λa b=>(a0.new a b).imp id λh1=>oM⟩,λa b=>(a0.new a b).imp id λh1=>by have:=c2.size;omega,a0.af.get (b7.get e id) λu=>by have:=v _ u;omega,⟨_,a0.af.get (b7.get b0 id) λu=>by have:=v _ u;omega,rfl⟩,?_⟩;exact a7 (by rw[if_neg (by simpa using C),if_pos u])
 ·rintro A _ j9 ⟨f,m,b3,Q,b4,b1,hz,o⟩
  refine al.dB (λc4=>?_) (λC=>⟨_,_,ae b1 rfl,ae b1 rfl,?_⟩)
  ·rw[if_pos c4]at o
   exact H (y:=bz A) rfl rfl rfl hz b3 b4 Q (by rw[o]) (by rw[o];exact if_pos c4)
  ·rw[if_neg (by simpa using C)]at o
   exact H (y:=Hj (aW d.1)) rfl rfl rfl hz b3 b4 Q (by rw[o]) (by rw[o];rfl)
end
def eW(e:World)(f:Nat->Prop)(i:List bR)(j:Value)(c:World):Prop:=
 ∃(b:Option Addr) (g h:Nat) (d:List IU) (D:Nat->Prop),j= .slice b g h/\aO Na 127 (λa=>aF b=some a) c b g h d/\d.map (·.m)=i/\(∀a∈d,a.In c D)/\(∀a,D a->e.heap.size<=a/\a<c.heap.size/\aF b≠some a/\¬f a)/\∀a,aF b=some a->e.heap.size<=a/\¬f a
section
variable {w w' w0 w1:World} {p:Nat} {F E T Z:Nat->Prop} {cls:Nat->Nat} {h:jh} {c:bP} {self:Int} {X:bj} {ms:List bR} {v:Value}
def a_.out(g:a_ w1 ms v w')(e:∀a,Z a->a<w1.heap.size)(p:w.heap.size<=w1.heap.size):eW w Z ms v w':=by
 obtain⟨h,i,j,k,D,l,m,n,o,c,f,q⟩:=g;exact⟨h,i,j,k,D,l,m,n,o,λa b=>⟨by have:=(c a b).1;omega,(c a b).2.1,(c a b).2.2,λd=>by have:=e a d;have:=(c a b).1;omega⟩,λa b=>⟨by have:=f a b;omega,λd=>by have:=e a d;have:=f a b;omega⟩⟩
def eW.nil(w0 w:World)(Z:Nat->Prop):eW w0 Z [] (.slice none 0 0) w:=⟨none,0,0,[],λ_=>False,rfl,(aO.nil w).mono (λb a=>a.elim) (λb a=>(by cases a)),rfl,sM,λb a=>a.elim,λb a=>(by cases a)⟩
def a_.one{m:bR}{va d:Option Addr}{vn vc e f c:Nat}{D:Nat->Prop}(h:w.heap[c]? =some (.cells (dv m va vn vc d e f).toArray 127 (0,0)))(j:(⟨m,va,vn,vc,d,e,f⟩:IU).In w D)(g:∀b,D b->w0.heap.size<=b/\b<w.heap.size/\b≠c)(l:w0.heap.size<=c)(k:ai w0 w):
  a_ w0 [m] (.slice (ZX c) 1 1) w:=by
 have n:=ax h;refine⟨ZX c,1,1,[⟨m,va,vn,vc,d,e,f⟩],D,rfl,⟨⟨dv m va vn vc d e f,λ_=>False,Own.zz h rfl (by unfold maxLen;omega),bu.one ⟨rfl,trivial⟩,λb a=>a.elim⟩,λb a=>a,λb a=>?_⟩,rfl,λb a=>?_,λb a=>⟨(g b a).1,(g b a).2.1,λi=>?_⟩,λb a=>?_,k⟩
 ·simp only[aF,Q1]at a;omega
 ·simp at a;subst a;exact j
 ·simp only[aF,Q1]at i;exact(g b a).2.2 i.symm
 ·simp only[aF,Q1]at a;omega
def EF(r:bO w p F c self X)(B:aH e):
  Calls XP 51 #[ZQ p,XH e,XH m] w (Ok λv w'=>∃a,eW w a (gO c self X e m).1 v w'/\bO w' p a c self (gO c self X e m).2/\bK F w a w'):=by
 have C:=r;obtain⟨E,h,cls,f⟩:=r;have no:(e<0\/e>=c.aD\/e=self)->Ok (λv w'=>∃a,eW w a (gO c self X e m).1 v w'/\bO w' p a c self (gO c self X e m).2/\bK F w a w') (.returned (.slice none 0 0)) w:=λk=>by
  have:gO c self X e m=([],X):=by unfold gO;rw[if_pos k]
  rw[this];exact Ok.mk ⟨F,eW.nil _ _ _,C,bK.refl _ _⟩
 refine jY (al.dec (λl=>no (.inl l)) (λl=>⟨p,0,rfl,_,ae f.bh rfl,al.dec (λn=>no (.inr (.inl n))) (λn=>⟨p,0,rfl,_,ae f.bh rfl,al.dA (λo=>no (.inr (.inr o))) (λo=>⟨p,0,rfl,_,ae f.bh rfl,?_⟩)⟩)⟩));have H:gO c self X e m=([jM X.S self e],{X with fI:={X.fI with asked:=aI X.fI.asked e m}}):=by unfold gO;rw[if_neg (by rintro(h|h|h);exact l h;exact n h;exact o h)]
 refine PC.ok (Ir (f.at' 6) B) ?_;rintro _ s ⟨rfl,I,t⟩;have J:cu s F cls p h c self {X with fI:={X.fI with asked:=aI X.fI.asked e m}}:=aT.same f bF (k:=6) t I λu G K k=>by
  rcases u with _|_|_|_|_|_|_|u<;>first|exact k|exact absurd rfl K
 refine⟨rfl,λq L=>?_⟩;have x:ai s q:=L.af;have d:=cu.ah J x;refine⟨p,0,rfl,_,ae d.bh rfl,p,0,rfl,_,ae d.bh rfl,PC.ok (xJ (d.at' 3).1) ?_⟩;rintro _ M ⟨R,S,T,G,rfl,y,N,i⟩;have z:=y.aB;have O:=i.size;refine⟨_,_,_,_,_,_,_,_,_,rfl,PA.mk λvC j U P=>?_⟩;rw[H];have Q:a_ q [jM X.S self e] (.slice (ZX M.heap.size) 1 1) vC:=a_.one (D:=G) P ⟨(y.ah j).row dC (by show X.S.vec.length*8<=aK;rw[X.S.bL];have:=(d.at' 3).1.1.n;have:X.S.n<=64:=this;unfold aK;omega),cU _ _⟩ (λg b=>⟨N g b,by have:=z g b;omega,by have:=z g b;omega⟩) O (i.then j);have A:ak F w q:=(t.mono λg _ b=>b.1).ah x;exact Ok.mk ⟨F,Q.out d.aB A.size,⟨E,h,cls,cu.ah d (i.then j)⟩,(A.ah i).ah j,λg b=>.inl b⟩
def Sq(T:jm)(d:Int):∀a∈T.due d,a∈T.open:=by
 have:∀(e:List Int) (f:List Int×List (Int×Int)),∀a∈(e.foldl (fz T.cP d) f).1,a∈f.1\/a∈e:=by
  intro e
  induction e with
  |nil=>intro f a b;exact .inl b
  |cons i e h=>
   intro f a b;rcases h _ a b with c|c
   ·unfold fz at c
    split at c
    ·rcases Q6.1 c with g|g
     ·exact .inl g
     ·simp at g;subst g;exact .inr (QV ..)
    ·exact .inl c
   ·exact .inr (QJ _ c)
 intro a b;unfold jm.due jm.iC at b;rw[List.take_length]at b;exact(this T.open ([],T.asked) a b).resolve_left sM
def Qp{T:jm}(c:∀a∈T.asked,aH a.1):∀b∈T.open,aH b:=λb d=>by
 have:b∈T.asked.map (·.1):=(List.mergeSort_perm _ _).mem_iff.1 d;obtain⟨a,e,rfl⟩:=Xk.1 this;exact c a e
def Lw(T:jm)(a:Int):(T.due a).length<=T.asked.length:=by
 have:∀(c:List Int) (b:List Int×List (Int×Int)),(c.foldl (fz T.cP a) b).1.length<=b.1.length+c.length:=by
  intro c
  induction c with
  |nil=>intro b;simp
  |cons d c f=>
   intro b;have e:=f (fz T.cP a b d);have g:(fz T.cP a b d).1.length<=b.1.length+1:=by
    unfold fz;split
    ·simp
    ·omega
   simp only[List.foldl_cons,Xq];omega
 have e:=this T.open ([],T.asked);unfold jm.due jm.iC;rw[List.take_length];have g:T.open.length=T.asked.length:=by simp[jm.open,vk]
 simp only[List.length_nil]at e;omega
def OV(N:bO w p F c self X)(d:X.fI.asked.length<=1000):
  Calls XP 49 #[ZQ p,XH e] w (Ok λv w'=>∃n,eW w n (pK self X e).1 v w'/\bO w' p n c self (pK self X e).2/\bK F w n w'):=by
 obtain⟨O,h,cls,o⟩:=N;have x:dy w h.tp (λa=>F a/\cls a=6) X.fI:=o.at' 6;have P:∀f∈X.fI.due e,aH f:=λf i=>Qp x.se f (Sq _ _ f i);have b0:=Lw X.fI e;refine nz ⟨p,0,rfl,_,ae o.bh rfl,PC.ok (NL x (by unfold aK;omega)) ?_⟩;rintro _ j ⟨Q,q,cc,rfl,y,R,r,hn⟩;have z:cu j F cls p h c self {X with fI:=X.fI.Qr e}:=aT.same o bF (k:=6) r R λb G A S=>by
  rcases b with _|_|_|_|_|_|_|b<;>first|exact S|exact absurd rfl A
 have T:=y.length;rw[iQ,Nat.mul_one]at T;have U:Ints j Q q (X.fI.due e):=y.ints (by unfold aK;omega) P;have V:=z.aB;have W:=r.size;refine⟨_,_,_,rfl,λB C E H Y w'=>∃b:Nat,Y=b/\b<=q/\B=q-b/\a_ j (((X.fI.due e).take b).map λg=>jM X.S self g) (.slice C E H) w',⟨_,0,rfl,Qj _,rfl,a_.nil j⟩,?_⟩;rintro B C E H _ _ Z ⟨b,rfl,A,rfl,k⟩;have s:=k;obtain⟨a3,n1,c1,a4,D,he,g2,g3,g4,g5,g6,l⟩:=s
 cases he
 have I:=cu.ah z l;have b1:=l.size;refine al.dec (λb2=>?_) (λb3=>?_)
 ·obtain⟨a,t,f,rfl,b4,i,b5,a0⟩:=(U.ah l).at (i:=(b:Int)) oM oM
  rw[Qx]at i;refine⟨a,t,rfl,oM,oM,f,a0,λa6 a7=>?_⟩;have u:ai Z a6:=a7.af;have m:=cu.ah I u;refine⟨p,0,rfl,_,ae m.bh rfl,p,0,rfl,_,ae m.bh rfl,PC.ok (xJ (m.at' 3).1) ?_⟩;rintro _ b6 ⟨va,vn,vc,G,rfl,J,K,L⟩;have a8:=J.aB;have b7:=u.size;have b8:=L.size;refine⟨_,_,_,_,_,_,_,_,_,rfl,PA.mk λb9 M c2 a9=>?_⟩;refine a_.push (m:=jM X.S self f) (E:=G) (k.ah ((u.then L).then M)) Dx ⟨(J.ah M).row dC (by show X.S.vec.length*8<=aK;rw[X.S.bL];have:X.S.n<=64:=(m.at' 3).1.1.n;unfold aK;omega),cU _ _⟩ (λa d=>⟨by have:=K a d;omega,by have:=a8 a d;omega,λa1=>by have:=g2.aB a a1;have:=K a d;omega⟩) a9 (by rw[Q8,Qy];omega) λa' c' c3 a2 c4=>⟨_,_,_,rfl,_,?_,b+1,aq oM,oM,rfl,?_⟩
  ·omega
  ·rw[Qw,i,Q3];exact a2
 ·rw[Qz oM]at k
  exact Ok.mk ⟨F,k.out V W,⟨O,h,cls,I⟩,(r.mono λa _ d=>d.1).ah l,λa d=>.inl d⟩
def Jw(d:bO w p F c self X)(a:X.S.l.length<=20000000):Calls XP 22 #[ZQ p] w (Ok (py jj 63 w X.S.l)):=by
 obtain⟨i,h,cls,b⟩:=d;refine lH ⟨p,0,rfl,_,ae b.bh rfl,PC.ok (qO (b.at' 3).1 a) ?_⟩;rintro _ j ⟨e,f,g,G,rfl,a⟩;exact⟨_,_,_,rfl,Ok.mk ⟨e,f,g,G,rfl,a⟩⟩
end
def vl{f:aw}:∀{b:List aj} {e:aj} {S':aw} {l':List aj},eC f b=some (e,S',l')->l'.length+1=b.length
 |[],e,S',l',a=>by simp[eC]at a
 |x::b,e,S',l',a=>by
  unfold eC at a;split at a
  ·simp only[Q1,Prod.mk.injEq]at a
   obtain⟨-,-,rfl⟩:=a;rfl
  ·cases c:eC f b with
   |none=>rw[c]at a;cases a
   |some d=>
    rw[c]at a;simp only[Option.map_some,Q1,Prod.mk.injEq]at a;obtain⟨rfl,rfl,rfl⟩:=a;have:=vl (e:=d.1) (S':=d.2.1) (l':=d.2.2) c;simp only[Xq];omega
def vm:∀(k:Nat) (c:aw) (b a:List aj),(dR k c b a).1.length+(dR k c b a).2.length=a.length+b.length
 |0,c,b,a=>rfl
 |k+1,c,b,a=>by
  unfold dR
  cases g:eC c b with
  |none=>rfl
  |some h=>
   obtain⟨d,e,f⟩:=h;have j:=vl g;have i:=vm k e f (a++[d]);show(dR k e f (a++[d])).1.length+(dR k e f (a++[d])).2.length=_;rw[i,QX,List.length_singleton];omega
def vo(b:aw)(a:List aj):(bt b a).1.length+(bt b a).2.length<=a.length:=by
 unfold bt;dsimp only;rw[vm];have:=List.length_filter_le (λc=>(b.get (aW c)).isNone) a;simp only[List.length_nil];omega
structure F_ (w:World) (wp most:Nat) (M0 D0 E:Nat->Prop) (s:Nat) (S:aw) (b:List aj) (oa:Option Addr) (on oc:Nat) (Lo:List (Bx aj)) (w1:World) (M Db Fs Do:Nat->Prop):Prop where
 buf:fZ w1 wp M Db most b
 set:cf w1 s Fs S
 Ms:∀x∈Lo,ml.In w1 Do x
 out:aO ml.jk 63 (λb=>aF oa=some b) w1 oa on oc Lo
 nM:∀b,M b->(M0 b\/w.heap.size<=b)/\¬Fs b
 nD:∀b,Db b->(D0 b\/w.heap.size<=b)/\¬Fs b
 nF:∀b,Fs b->w.heap.size<=b
 nO:∀b,Do b->(E b\/D0 b\/w.heap.size<=b)/\b<w1.heap.size/\¬M b/\¬Fs b
 nA:∀b,aF oa=some b->w.heap.size<=b/\¬M b/\¬Fs b/\¬Do b/\¬Db b
 af:ak M0 w w1
 cl:S.Cl
variable{a:Nat}{f:Nat->Prop}{d:Option Addr}{q:TypeId}{o:aj}
section
variable {w w' w0 w1 w2:World} {p wp most s on oc:Nat} {F E T Z M0 D0 M Db Fs Do:Nat->Prop} {cls:Nat->Nat} {h:jh} {c:bP} {self:Int} {X:bj} {S:aw} {b:List aj} {oa:Option Addr} {Lo:List (Bx aj)}
def fZ.NH(a:fZ w p M Db most b):∀b,M b->b<w.heap.size:=by obtain⟨-,e,f,c,g,d⟩:=a;exact d.dM
def fZ.Is(a:fZ w p M Db most b):∀b,Db b->b<w.heap.size/\¬M b:=by obtain⟨-,e,f,c,g,d⟩:=a;exact d.dD
def F_.ah(a:F_ w wp most M0 D0 E s S b oa on oc Lo w1 M Db Fs Do)(c:ai w1 w2):F_ w wp most M0 D0 E s S b oa on oc Lo w2 M Db Fs Do:=
 ⟨a.buf.ah c,a.set.ah c,λe f=>(a.Ms e f).af c λ_ _ h=>h,a.out.ah c,a.nM,a.nD,a.nF,λb d=>⟨(a.nO b d).1,by have:=(a.nO b d).2.1;have:=c.size;omega,(a.nO b d).2.2⟩,a.nA,a.af.ah c,a.cl⟩
def F_.add(c:F_ w wp most M0 D0 E s S b oa on oc Lo w1 M Db Fs Do){j n:Nat}(p:Row aJ 8 w1 f d j o.aP)(q:∀b,f b->b<w1.heap.size/\¬Fs b)(k:o.Ok)(z:S.l.length<=20000000):
  Calls XP 74 #[ZQ s,jA o d j n] w1 (Ok λl w'=>l= XH (S.add o).1/\∃h,F_ w wp most M0 D0 E s (S.add o).2 b oa on oc Lo w' M Db h Do/\ak Fs w1 w'/\∀b,h b->Fs b\/w1.heap.size<=b):=by
 refine(tO c.set p q k oM).mono ?_;rintro _ w2 ⟨l,rfl,rfl,m,r,e⟩;have t:=c.buf.NH;have u:=c.buf.Is;have A:=c.af.size;have g:∀b,b<w1.heap.size->¬Fs b->¬m b:=λb B v i=>(e.new b i).elim v oM;refine Ok.mk ⟨rfl,m,⟨c.buf.af e.af (λb a=>(c.nM b a).2) λb a=>(c.nD b a).2,r,λx y=>(c.Ms x y).af e.af λb a=>(c.nO b a).2.2.2,c.out.af e.af λb a=>(c.nA b a).2.2.1,λb a=>⟨(c.nM b a).1,g b (t b a) (c.nM b a).2⟩,λb a=>⟨(c.nD b a).1,g b (u b a).1 (c.nD b a).2⟩,
  λb a=>(e.new b a).elim (c.nF b) λY=>oM,λb a=>⟨(c.nO b a).1,by have:=(c.nO b a).2.1;have:=e.af.size;omega,(c.nO b a).2.2.1,g b (c.nO b a).2.1 (c.nO b a).2.2.2⟩,λb a=>⟨(c.nA b a).1,(c.nA b a).2.1,g b (c.out.aB b a) (c.nA b a).2.2.1,(c.nA b a).2.2.2⟩,c.af.new e.af λb a=>.inr (c.nF b a),c.cl.add k⟩,e.af,e.new⟩
def F_.push{u:Program}(d:F_ w wp most M0 D0 E s S b oa on oc Lo w1 M Db Fs Do)(z:jC u g 63 ml.jk.k 96){e:Bx aj}(A:ml.In w1 f e)(i:∀b,f b->(E b\/D0 b\/w.heap.size<=b)/\b<w1.heap.size/\¬M b/\¬Fs b/\aF oa≠some b){B:Nat×Nat}(C:w1.heap[a]? =some (.cells (aC e.x e.a e.n e.c).toArray 63 B))(Q:Lo.length<=1000000){v F:Value->World->Prop}(r:∀m p w' t,F_ w wp most M0 D0 E s S b m (on+1) p (Lo++[e]) w' M Db Fs t->ak (λb=>aF oa=some b) w1 w'->(∀b,aF m=some b->aF oa=some b\/w1.heap.size<=b)->v (.slice m (on+1) p) w'):
  aG u (Builtin.append_ #[g,g] q #[.slice oa on oc,.slice (ZX a) 1 1]) w1 v F:=by
 refine eV (c:=ml.jk) (x:=e) (D:=λ_=>False) d.out z C ⟨rfl,trivial⟩ (λb c=>c.elim) (by unfold aK;omega) (by unfold maxLen;omega) λm p w2 R x j I=>?_;have J:=x.alone;have y:∀b,aF m=some b->aF oa=some b\/w1.heap.size<=b:=λb c=>(I b (x.self b c)).imp id λh=>h.resolve_left id;have T:=j.size;have z1:=d.af.size;have K:=d.buf.NH;have L:=d.buf.Is;have N:=d.set.aB;have nA:=d.nA;refine r m p w2 (λb=>Do b\/f b) ⟨d.buf.af j (λb c k=>(nA b k).2.1 c) λb c k=>(nA b k).2.2.2.2 c,d.set.af j λb c k=>(nA b k).2.2.1 c,λO n=>?_,J,d.nM,d.nD,d.nF,λb c=>?_,λb c=>?_,d.af.new j λb c=>.inr (nA b c).1,d.cl⟩ j y
 ·rcases Q6.1 n with n|n
  ·exact((d.Ms O n).af j λb c k=>(nA b k).2.2.2.1 c).mono λb c=>.inl c
  ·simp at n;subst n
   exact(A.af j λb c=>(i b c).2.2.2.2).mono λb c=>.inr c
 ·rcases c with c|c
  ·exact⟨(d.nO b c).1,by have:=(d.nO b c).2.1;omega,(d.nO b c).2.2⟩
  ·exact⟨(i b c).1,by have:=(i b c).2.1;omega,(i b c).2.2.1,(i b c).2.2.2.1⟩
 ·rcases y b c with H|H
  ·exact⟨(nA b H).1,(nA b H).2.1,(nA b H).2.2.1,λo=>o.elim (nA b H).2.2.2.1 λP=>(i b P).2.2.2.2 H,(nA b H).2.2.2.2⟩
  ·exact⟨oM,λl=>by have:=K b l;omega,λl=>by have:=N b l;omega,λl=>l.elim (λo=>by have:=(d.nO b o).2.1;omega) λo=>by have:=(i b o).2.1;omega,λl=>by have:=(L b l).1;omega⟩
def F_.wait(a:F_ w wp most M0 D0 E s S b oa on oc Lo w1 M Db Fs Do){l q:Nat}(r:Row aJ 8 w1 f d l o.aP)(t:∀b,f b->b<w1.heap.size)(u:o.Ok):
  Calls XP 246 #[ZQ wp,jA o d l q] w1 (Ok λm w'=>∃v,m= .bool v/\∃i j,F_ w wp most M0 D0 E s S (eO most b o).2 oa on oc Lo w' i j Fs Do/\ak M w1 w'):=by
 refine(Jd a.buf r t u).mono ?_;rintro _ w2 ⟨m,rfl,rfl,i,x,y,h,k,n⟩;have p:=a.set.aB;have B:=a.af.size;have C:=h.size;refine Ok.mk ⟨_,rfl,i,x,⟨y,a.set.af h λb c g=>(a.nM b g).2 c,λz A=>(a.Ms z A).af h λb c=>(a.nO b c).2.2.1,a.out.af h λb c=>(a.nA b c).2.1,λb c=>?_,λb c=>?_,a.nF,λb c=>⟨(a.nO b c).1,by have:=(a.nO b c).2.1;omega,λg=>?_,(a.nO b c).2.2.2⟩,λb c=>⟨(a.nA b c).1,λg=>?_,(a.nA b c).2.2.1,(a.nA b c).2.2.2.1,λg=>?_⟩,?_,a.cl⟩,h⟩
 ·rcases k b c with e|e
  ·exact a.nM b e
  ·exact⟨.inr oM,λg=>by have:=p b g;omega⟩
 ·rcases n b c with e|e
  ·exact a.nD b e
  ·exact⟨.inr oM,λg=>by have:=p b g;omega⟩
 ·rcases k b g with e|e
  ·exact(a.nO b c).2.2.1 e
  ·have:=(a.nO b c).2.1;omega
 ·rcases k b g with e|e
  ·exact(a.nA b c).2.1 e
  ·have:=a.out.aB b c;omega
 ·rcases n b g with e|e
  ·exact(a.nA b c).2.2.2.2 e
  ·have:=a.out.aB b c;omega
 ·exact a.af.new h λb c=>(a.nM b c).1
def F_.ready(a:F_ w wp most M0 D0 E s S b oa on oc Lo w1 M Db Fs Do)(k:S.l.length<=19000000):
  Calls XP 247 #[ZQ wp,ZQ s] w1 (Ok λj w'=>∃d g h f,j= .slice d g h/\aO ml.jk 63 (λb=>aF d=some b) w' d g h f/\f.map (·.x)=(bt S b).1/\(∀i∈f,ml.In w' Db i)/\(∀b,aF d=some b->w1.heap.size<=b)/\
   F_ w wp most M0 D0 E s S (bt S b).2 oa on oc Lo w' M Db Fs Do/\ak M w1 w'):=by
 refine(Et a.buf a.set a.cl k).mono ?_;rintro _ w2 ⟨j,rfl,d,g,h,f,rfl,l,m,n,o,p,e⟩;have t:=e.size;exact Ok.mk ⟨d,g,h,f,rfl,l,m,n,o,⟨p,a.set.af e λb c q=>(a.nM b q).2 c,λi r=>(a.Ms i r).af e λb c=>(a.nO b c).2.2.1,a.out.af e λb c=>(a.nA b c).2.1,a.nM,a.nD,a.nF,λb c=>⟨(a.nO b c).1,by have:=(a.nO b c).2.1;omega,(a.nO b c).2.2⟩,a.nA,a.af.new e λb c=>(a.nM b c).1,a.cl⟩,e⟩
end
section
variable {w w' w0 w1 w2:World} {p wp most s on oc:Nat} {F E T Z M0 D0 M Db Fs Do:Nat->Prop} {cls:Nat->Nat} {h:jh} {c:bP} {self:Int} {X:bj} {S:aw} {b:List aj} {oa:Option Addr} {Lo:List (Bx aj)} {evs:List aj} {ea:Option Addr} {en ec:Nat}
def BE(most:Nat)(a:List aj)(b:aj):(eO most a b).2.length<=a.length+1:=by
 unfold eO;split
 ·show a.length<=_;omega
 ·show(dd b a).length<=_
  rw[(cV b a).length_eq];simp
def NG(N:cu w F cls p h c self X)(e5:iS c self)(hr:Row jj 96 w E ea en evs)(B:∀b,E b->b<w.heap.size/\¬F b)(m4:evs.length<=1000)(hl:X.S.l.length<=18000000):
  Calls XP 190 #[ZQ p,.slice ea en ec] w (Ok λf0 w'=>∃oa on oc Lo U q Do,f0= .slice oa on oc/\aO ml.jk 63 (λb=>aF oa=some b) w' oa on oc Lo/\Lo.map (·.x)=(ku c X evs).1/\(∀a∈Lo,ml.In w' Do a)/\
   cu w' U q p h c self {X with waits:=(ku c X evs).2}/\bK F w U w'/\(∀b,Do b->b<w'.heap.size/\aF oa≠some b/\¬(U b/\q b=2))/\(∀b,aF oa=some b->w.heap.size<=b/\¬U b)/\(ku c X evs).1.length<=evs.length+256):=by
 obtain⟨m9,n0,n1⟩:=e5.aD;have e6:=N.aB;have i7:=N.Ib;obtain⟨hS,a0,hn⟩:=(show cf w h.sp (λb=>F b/\cls b=3) X.S/\X.S.Cl/\X.S.n=c.aD.toNat from N.at' 3)
 obtain⟨M0,D0,u,c3,a1⟩:=(show Nj w (λb=>F b/\cls b=5) h.wp c.buffer.toNat X.waits from N.at' 5)
 have f1:X.waits.length<=256:=Xx u.1.2.le u.1.1;have n3:=hr.len;refine mN (PC.ok (Ip (evs:=[]) N e5 (cU w (λ_=>False)) (λb e=>e.elim) (by simp;omega)) ?_);rintro _ w4 ⟨s,i8,rfl,i9,b1,k4⟩;have e7:eK c X.S []=X.S:=(Io a0 hn []).trans rfl;have z4:=k4.size;have j0:(eK c X.S []).Cl:=by rw[e7];exact a0
 have j1:(eK c X.S []).l.length=X.S.l.length:=by rw[e7]
 have j2:F_ w h.wp c.buffer.toNat M0 D0 E s (eK c X.S []) X.waits none 0 0 [] w4 M0 D0 i8 (λ_=>False):=by
  have j3:=u.NH;have e8:=u.Is;refine⟨u.ah k4,i9,sM,(aO.nil w4).mono (λb e=>e.elim) (λb e=>(by cases e)),λb e=>⟨.inl e,λl=>by have:=j3 b e;have:=b1 b l;omega⟩,λb e=>⟨.inl e,λl=>by have:=(e8 b e).1;have:=b1 b l;omega⟩,b1,λb e=>e.elim,λb e=>(by cases e),ai.af k4,j0⟩
 have C:∀{w1:World},ak M0 w w1->w1.heap[p]? =some (.cells (h.cells c self) 105 (0,0)):=λ{w1} hk=>hk.get N.bh λm=>by
  have:=(c3 p m).2;rw[i7.2]at this;cases this
 have e9:∀b,E b->¬M0 b:=λb e m=>(B b e).2 (c3 b m).1;obtain⟨H,f2⟩:∃H,H=iD c.buffer.toNat evs (eK c X.S []) [] X.waits:=⟨_,rfl⟩
 have t:ku c X evs=vq (H.2.2.length+1) H.1 H.2.1 H.2.2:=by rw[f2];rfl
 refine⟨_,rfl,λI oa on oc J w'=>∃(f:Nat) (S:aw) (b:List aj) (Lo:List (Bx aj)) (M Db Fs Do:Nat->Prop),J=f/\f<=en/\I=en-f/\F_ w h.wp c.buffer.toNat M0 D0 E s S b oa on oc Lo w' M Db Fs Do/\iD c.buffer.toNat (evs.drop f) S (Lo.map (·.x)) b=H/\S.l.length<=X.S.l.length+Lo.length/\Lo.length<=f/\b.length<=256/\Lo.length+b.length<=X.waits.length+f,
  ⟨_,0,_,_,_,_,_,_,_,rfl,Qj _,rfl,j2,f2.symm,by simp[j1],sM,f1,sM⟩,?_⟩
 rintro I oa on oc _ _ f3 ⟨f,S,b,Lo,M,Db,Fs,Do,rfl,hj,rfl,l,v,V,f5,b3,f6⟩;have j4:=l.af.size;have j5:=l.out.len dC;refine al.dec (λj6=>?_) (λj7=>?_)
 ·obtain⟨a,j⟩:∃a,evs[f]? =some a:=⟨_,Qq oM⟩
  have a8:evs.drop f=a::evs.drop (f+1):=by
   rw[X4 oM]
   congr 1
   exact(Qv.1 j).2
  rw[a8]at v;obtain⟨gb,go,es,ha,j8,n4,d3,xa,xn,xc,rfl,d4,b4⟩:=(hr.af l.af e9).el f a j;refine⟨gb,go,ha,oM,oM,bA (es:=aC a xa xn xc) (k:=10) (aV _ _ _ _) rfl (λJ ht=>by rw[Qx];exact d3 J ht) (PA.mk λn8 j9 n9 k0=>az (aV a xa xn xc) k0 rfl λk1 k2 o0 f8=>au (aV a xa xn xc) f8 ?_)⟩;have a2:ai f3 k1:=j9.new k2 λb e=>.inr (by have e:b=f3.heap.size:=e;omega);have o1:=a2.size;have d5:∀b,E b->¬Fs b:=λb e m=>by have:=l.nF b m;have:=(B b e).1;omega
  refine PC.ok ((l.ah a2).add (d4.ah a2) (λb e=>⟨by have:=(B b e).1;omega,d5 b e⟩) b4 oM) ?_;rintro _ k3 ⟨rfl,O,K,a5,m5⟩;have o2:=a5.size;have b5:=l.set.aB;have x:=a5.get f8 λm=>by have:=b5 _ m;omega
  have g0:=S.yU a;have f4:iD c.buffer.toNat (a::evs.drop (f+1)) S (Lo.map (·.x)) b=if(S.add a).1=0 then iD c.buffer.toNat (evs.drop (f+1)) (S.add a).2 (Lo.map (·.x)++[a]) b else if(S.add a).1=16 then iD c.buffer.toNat (evs.drop (f+1)) S (Lo.map (·.x)) b else iD c.buffer.toNat (evs.drop (f+1)) S (Lo.map (·.x)) (eO c.buffer.toNat b a).2:=rfl
  rw[f4]at v;have a9:(S.add a).1≠0->(S.add a).2=S:=λW=>by
   rcases S.iG a with⟨-,g⟩|⟨g,-⟩
   ·exact g
   ·rw[g]at W;exact absurd rfl W
  refine⟨_,rfl,al.dA (λr=>?_) (λr=>al.dA (λd6=>?_) (λd6=>λk5 k6=>?_))⟩
  ·rw[if_pos r]at v
   have c5:(S.add a).2.l.length<=S.l.length+1:=g0;refine⟨_,_,_,_,_,_,_,_,_,_,_,_,ae x rfl,ae x rfl,ae x rfl,ae x rfl,ae x rfl,ae x rfl,ae x rfl,ae x rfl,ae x rfl,ae x rfl,PA.mk λk7 d7 o3 k8=>?_⟩;have g1:ml.In k7 E ⟨a,xa,xn,xc⟩:=⟨((d4.ah a2).af a5 λb e=>d5 b e).ah d7,b4⟩
   have g2:=K.ah d7;refine g2.push sI g1 (λb e=>⟨.inl e,by have:=(B b e).1;have:=d7.size;omega,λm=>?_,λm=>by have:=K.nF b m;have:=(B b e).1;omega,λo=>by have:=(K.nA b o).1;have:=(B b e).1;omega⟩) k8 oM λa' c' o4 P g3 m6 _=>⟨_,_,_,rfl,_,oM,f+1,_,_,_,M,Db,O,P,aq oM,oM,rfl,g3,?_,?_,?_,b3,?_⟩
   ·rcases(K.nM b m).1 with g|g
    ·exact e9 b e g
    ·have:=(B b e).1;omega
   ·rw[Q3];exact v
   ·rw[QX,List.length_singleton];omega
   ·rw[QX,List.length_singleton];omega
   ·rw[QX,List.length_singleton];omega
  ·rw[if_neg r,if_pos d6]at v
   rw[a9 r]at K;exact⟨_,oM,f+1,S,b,Lo,M,Db,O,Do,aq oM,oM,rfl,K,v,V,oM,b3,oM⟩
  ·rw[if_neg r,if_neg d6]at v
   rw[a9 r]at K;have c6:ai k3 k5:=k6.af;have c9:=K.ah c6;refine⟨p,0,rfl,_,ae (C c9.af) rfl,au (aV a xa xn xc) (c6.get x id) (PC.ok (c9.wait (((d4.ah a2).af a5 λb e=>d5 b e).ah c6) (λb e=>by have:=(B b e).1;have:=c6.size;omega) b4) ?_)⟩;rintro _ o5 ⟨J,rfl,M',b6,b7,m7⟩;have d8:=BE c.buffer.toNat b a;have g4:(eO c.buffer.toNat b a).2.length<=256:=Xx b7.buf.1.2.le b7.buf.1.1;exact⟨_,rfl,_,oM,f+1,S,_,Lo,M',b6,O,Do,aq oM,oM,rfl,b7,v,V,oM,g4,oM⟩
 have o6:f=evs.length:=oM
 rw[List.drop_eq_nil_of_le oM]at v;have d0:H=(S,Lo.map (·.x),b):=v.symm;rw[d0]at t;have b8:Lo.length+b.length<=evs.length+256:=oM
 refine⟨λI oa on oc w'=>∃(S:aw) (b:List aj) (Lo:List (Bx aj)) (M Db Fs Do:Nat->Prop) (k:Nat),I=b.length/\F_ w h.wp c.buffer.toNat M0 D0 E s S b oa on oc Lo w' M Db Fs Do/\b.length<=k/\vq (k+1) S (Lo.map (·.x)) b=ku c X evs/\S.l.length<=X.S.l.length+Lo.length/\Lo.length+b.length<=evs.length+256,
  ⟨_,S,b,Lo,M,Db,Fs,Do,b.length,rfl,l,Q4 _,t.symm,V,b8⟩,?_⟩
 clear l v V f5 b3 f6 b8 j5 j4 d0 t
 rintro I oa on oc _ o7 ⟨S,b,Lo,M,Db,Fs,Do,k,rfl,l,hk,t,V,f6⟩;have o8:=l.af.size;refine⟨p,0,rfl,_,ae (C l.af) rfl,PC.ok (l.ready oM) ?_⟩;rintro _ o9 ⟨Y,n2,f7,Z,rfl,g5,d9,k9,g6,n,g7⟩;have p0:=g5.len dC;have d8:=vo S b;have g8:Z.length=(bt S b).1.length:=by rw[<-d9,Q8]
 have l0:vq (k+1) S (Lo.map (·.x)) b=if(bt S b).1=[]then(Lo.map (·.x),(bt S b).2)else vq k (ey (bt S b).1 S (Lo.map (·.x))).1 (ey (bt S b).1 S (Lo.map (·.x))).2 (bt S b).2:=rfl
 rw[l0]at t;have p1:=g7.size;refine⟨_,_,_,rfl,al.dA (λr=>?_) (λr=>?_)⟩
 ·have g9:(bt S b).1=[]:=QW oM
  rw[if_pos g9]at t;rw[<-t];have hM:=n.buf.NH;have l3:=n.buf.Is;obtain⟨U,q,b9,a3,l4,c0,-⟩:=N.d_ bF (k:=5) (G':=λb=>M b\/Db b) (C2:=kQ p (h.cells c self) h c {X with waits:=(bt S b).2} X.S.l) (n.af.mono λb _ e=>c3 b e)
   (λa j=>j.elim (λg=>(n.nM a g).1.imp (c3 a) id) λg=>(n.nD a g).1.imp (a1 a) id) (λa j=>j.elim (hM a) λg=>(l3 a g).1) ⟨M,Db,n.buf,λ_ h=>.inl h,λ_ h=>.inr h⟩ λf G hj hc=>by
    rcases f with _|_|_|_|_|_|_|f<;>first|exact hc|exact absurd rfl hj
  refine Ok.mk ⟨oa,on,oc,Lo,U,q,Do,rfl,n.out,rfl,n.Ms,b9,a3,λa j=>⟨(n.nO a j).2.1,λo=>(n.nA a o).2.2.2.1 j,λQ=>?_⟩,λa j=>⟨(n.nA a j).1,λQ=>?_⟩,by rw[Q8];omega⟩
  ·have e0:F a/\cls a=2:=by
    have:=congrFun (c0 2 dC) a;exact this▸Q
   rcases(n.nO a j).1 with g|g|g
   ·exact(B a g).2 e0.1
   ·have:=(a1 a g).2;rw[e0.2]at this;cases this
   ·have:=e6 a e0.1;omega
  ·rcases l4 a Q with g|g
   ·have:=e6 a g.1;have:=(n.nA a j).1;omega
   ·exact g.elim (n.nA a j).2.1 (n.nA a j).2.2.2.2
 ·have W:(bt S b).1≠[]:=λo=>by rw[o,List.length_nil]at g8;omega
  rw[if_neg W]at t;obtain⟨k',rfl⟩:∃k',k=k'+1:=⟨k-1,by
   have:0<b.length:=by
    have:=List.length_pos_iff.2 W;omega
   omega⟩
  obtain⟨av,e1⟩:∃av,av=ey (bt S b).1 S (Lo.map (·.x)):=⟨_,rfl⟩
  rw[<-e1]at t;have h2:Lo.length+Z.length+(bt S b).2.length<=evs.length+256:=oM
  obtain⟨b2,b3⟩:∃b2,b2=(bt S b).2:=⟨_,rfl⟩
  rw[<-b3]at t n h2 d8;have e8:=n.buf.Is;obtain⟨y,hR⟩:∃y,y=(bt S b).1:=⟨_,rfl⟩
  rw[<-hR]at d9 g8 d8 e1;have f9:∀d,aF Y=some d->¬Fs d/\aF oa≠some d:=λd i=>by
   have g:=g6 d i;exact⟨λm=>by have:=l.set.aB d m;omega,λo=>by have:=l.out.aB d o;omega⟩
  have p2:∀d,aF Y=some d->¬Db d:=λd i m=>by
   have g:=g6 d i;have h6:=(l.buf.Is d m).1;omega
  refine⟨λI oa on oc J w'=>∃(f:Nat) (S:aw) (Lo:List (Bx aj)) (Fs Do:Nat->Prop),J=f/\f<=n2/\I=n2-f/\F_ w h.wp c.buffer.toNat M0 D0 E s S b2 oa on oc Lo w' M Db Fs Do/\ey (y.drop f) S (Lo.map (·.x))=av/\S.l.length<=X.S.l.length+Lo.length/\Lo.length+(n2-f)+b2.length<=evs.length+256/\aO ml.jk 63 (λb=>aF Y=some b) w' Y n2 f7 Z/\(∀a∈Z,ml.In w' Db a)/\∀d,aF Y=some d->¬Fs d/\aF oa≠some d,
   ⟨_,0,S,Lo,Fs,Do,rfl,Qj _,rfl,n,e1.symm,V,oM,g5,k9,f9⟩,?_⟩
  rintro I c2 h0 h1 _ _ h3 ⟨f,z,b0,l5,h4,rfl,hj,rfl,L,R,l6,b8,c5,h7,e3⟩;have p3:=L.af.size;have m8:=L.out.len dC;refine al.dec (λj6=>?_) (λj7=>?_)
  ·obtain⟨a,j⟩:∃a,Z[f]? =some a:=⟨_,Qq oM⟩
   have h8:y[f]? =some a.x:=by rw[<-d9,Q9,j];rfl
   have a8:y.drop f=a.x::y.drop (f+1):=by
    rw[X4 (Qv.1 h8).1]
    congr 1
    exact(Qv.1 h8).2
   have h9:ey (a.x::y.drop (f+1)) z (b0.map (·.x))=if(z.add a.x).1=0 then ey (y.drop (f+1)) (z.add a.x).2 (b0.map (·.x)++[a.x])else ey (y.drop (f+1)) (z.add a.x).2 (b0.map (·.x)):=rfl
   rw[a8,h9]at R;have d1:=h7 a (QZ j);obtain⟨gb,go,es,ha,j8,p4,d3,rfl,-⟩:=(c5.row (bytes:=96) dC (by unfold aK;omega)).el f a j;refine⟨gb,go,ha,oM,oM,bA (es:=aC a.x a.a a.n a.c) (k:=10) (aV _ _ _ _) rfl (λJ ht=>by rw[Qx];exact d3 J ht) (PA.mk λp5 l7 p6 l8=>az (aV a.x a.a a.n a.c) l8 rfl λl9 m0 p7 i0=>au (aV a.x a.a a.n a.c) i0 ?_)⟩;have a4:ai h3 l9:=l7.new m0 λb e=>.inr (by have e:b=h3.heap.size:=e;omega);have p8:=a4.size;have m1:=L.buf.Is;have i1:=c5.aB;refine PC.ok ((L.ah a4).add (d1.af a4 λ_ _ h=>h).1 (λd i=>⟨by have:=(m1 d i).1;omega,(L.nD d i).2⟩) d1.2 oM) ?_;rintro _ m2 ⟨rfl,e4,T,a6,i2⟩;have p9:=a6.size;have b5:=L.set.aB;have A:=a6.get i0 λm=>by have:=b5 _ m;omega
   have g0:=z.yU a.x;have c4:=(c5.ah a4).af a6 λd i=>(e3 d i).1;have c7:∀d∈Z,ml.In m2 Db d:=λd i=>((h7 d i).af a4 λ_ _ h=>h).af a6 λc8 Q=>(L.nD c8 Q).2;have a7:∀d,aF Y=some d->¬e4 d/\aF c2≠some d:=λd i=>⟨λm=>(i2 d m).elim (e3 d i).1 λg=>by have:=i1 d i;omega,(e3 d i).2⟩
   refine⟨_,rfl,al.dA (λr=>?_) (λr=>?_)⟩
   ·rw[if_pos r]at R
    refine⟨_,_,_,_,_,_,_,_,_,_,_,_,ae A rfl,ae A rfl,ae A rfl,ae A rfl,ae A rfl,ae A rfl,ae A rfl,ae A rfl,ae A rfl,ae A rfl,PA.mk λq0 c1 q1 m3=>?_⟩;have i3:=T.ah c1;have d2:=T.buf.Is;have q2:=c1.size;refine i3.push sI ((c7 a (QZ j)).af c1 λ_ _ h=>h) (λd i=>⟨.inr (T.nD d i).1,by have:=(d2 d i).1;omega,(d2 d i).2,(T.nD d i).2,λo=>(T.nA d o).2.2.2.2 i⟩) m3 oM λa' c' q3 P i4 e2 i5=>⟨_,_,_,rfl,_,oM,f+1,_,_,e4,P,aq oM,oM,rfl,i4,?_,?_,?_,(c4.ah c1).af e2 λd i o=>(a7 d i).2 o,λd i=>((c7 d i).af c1 λ_ _ h=>h).af e2 λc8 Q o=>(T.nA c8 o).2.2.2.2 Q,λd i=>⟨(a7 d i).1,λo=>?_⟩⟩
    ·rw[Q3];exact R
    ·rw[QX,List.length_singleton];omega
    ·rw[QX,List.length_singleton];omega
    ·rcases i5 d o with g|g
     ·exact(a7 d i).2 g
     ·have:=c4.aB d i;omega
   ·rw[if_neg r]at R
    have a9:(z.add a.x).2.l.length<=z.l.length:=by
     rcases z.iG a.x with⟨-,g⟩|⟨g,-⟩
     ·rw[g];exact Q4 _
     ·rw[g]at r;exact absurd rfl r
    exact⟨_,oM,f+1,_,b0,e4,h4,aq oM,oM,rfl,T,R,oM,oM,c4,c7,a7⟩
  ·rw[List.drop_eq_nil_of_le oM]at R
   have i6:av=(z,b0.map (·.x)):=R.symm;rw[i6]at t;have q4:0<y.length:=by have:=List.length_pos_iff.2 W;rw[<-hR]at this;exact this
   exact⟨b2.length,oM,z,b2,b0,M,Db,l5,h4,k',rfl,L,oM,t,l6,oM⟩
end
structure iU (X Y:bj):Prop where
 evs:Y.S.l.length<=X.S.l.length+300\/Y.S.l.length<=16777216
 asked:Y.fI.asked.length<=X.fI.asked.length+1
def iU.refl(a:bj):iU a a:=⟨.inl oM,oM⟩
def It{a b:Type}[BEq a][LawfulBEq a](c:a)(d:b):∀(e:List (a×b)),(aI e c d).length<=e.length+1
 |[]=>by simp[aI]
 |(g,h)::f=>by
  unfold aI;split
  ·simp
  ·have:=It c d f
   simp;omega
def DX{b e:Type}[BEq b][LawfulBEq b](a:b)(f:e):∀(d:List (b×e)),a∈d.map (·.1)->(aI d a f).map (·.1)=d.map (·.1)
 |[],h=>by simp at h
 |(i,k)::g,h=>by
  unfold aI
  by_cases c:(a==i)=true
  ·rw[if_pos c]
   have:=eq_of_beq c;subst this;rfl
  ·rw[if_neg c]
   have j:a∈g.map (·.1):=by
    rcases Q2.1 h with h|h
    ·exact absurd (by rw[h];simp) c
    ·exact h
   simp[DX a f g j]
def Iu{a d:Type}[BEq a][LawfulBEq a](b:a):∀(c:List (a×d)),(bV c b).length<=c.length
 |[]=>by simp[bV]
 |(f,g)::e=>by
  unfold bV;split
  ·simp
  ·have:=Iu b e
   simp;omega
def Gb(d a:Int)(b:List Int×List (Int×Int))(c:Int)(e:c∈b.2.map (·.1)):(fz d a b c).2.map (·.1)=b.2.map (·.1):=by
 unfold fz;split
 ·exact DX _ _ _ e
 ·rfl
def vr(d a:Int):∀(c:List Int) (b:List Int×List (Int×Int)),(∀x∈c,x∈b.2.map (·.1))->(c.foldl (fz d a) b).2.map (·.1)=b.2.map (·.1)
 |[],b,_=>rfl
 |x::c,b,e=>by
  have f:=Gb d a b x (e x (QV ..));rw[List.foldl_cons,vr d a c _ λg h=>by rw[f];exact e g (QJ _ h),f]
def jm.Pd(a:jm)(b:Int):(a.Qr b).asked.length=a.asked.length:=by
 have d:=vr a.cP b (a.open.take a.open.length) ([],a.asked) λe c=>by
  have c:=List.mem_of_mem_take c;unfold jm.open at c;exact(List.mergeSort_perm _ _).mem_iff.1 c
 have:=congrArg List.length d;rw[Q8,Q8]at this;exact this
def qY(a:Nat):∀(d:List aj) (f:aw) (b c:List aj),(iD a d f b c).2.1.length+(iD a d f b c).2.2.length<=b.length+c.length+d.length
 |[],f,b,c=>by simp[iD]
 |e::d,f,b,c=>by
  unfold iD;split
  ·have:=qY a d (f.add e).2 (b++[e]) c
   simp at this⊢;omega
  split
  ·have:=qY a d f b c
   simp;omega
  ·have:=qY a d f b (eO a c e).2
   have:=BE a c e;simp;omega
def qH:∀(b:List aj) (c:aw) (a:List aj),(ey b c a).2.length<=a.length+b.length
 |[],c,a=>by simp[ey]
 |e::b,c,a=>by
  unfold ey;split
  ·have:=qH b (c.add e).2 (a++[e])
   simp at this⊢;omega
  ·have:=qH b (c.add e).2 a
   simp;omega
def DY:∀(k:Nat) (b:aw) (a c:List aj),(vq k b a c).1.length<=a.length+c.length
 |0,b,a,c=>by simp[vq]
 |k+1,b,a,c=>by
  unfold vq;have d:=vo b c;dsimp only;split
  ·simp
  ·have e:=qH (bt b c).1 b a
   have f:=DY k (ey (bt b c).1 b a).1 (ey (bt b c).1 b a).2 (bt b c).2;omega
def KP(b:bP)(a:bj)(c:List aj):(ku b a c).1.length<=a.waits.length+c.length:=by
 have d:=qY b.buffer.toNat c (eK b a.S []) [] a.waits;have e:=DY ((iD b.buffer.toNat c (eK b a.S []) [] a.waits).2.2.length+1) (iD b.buffer.toNat c (eK b a.S []) [] a.waits).1 (iD b.buffer.toNat c (eK b a.S []) [] a.waits).2.1 (iD b.buffer.toNat c (eK b a.S []) [] a.waits).2.2;simp at d;unfold ku;dsimp only;omega
def NM(c:bP)(a:aw)(b:List aj):(eK c a b).l.length<=a.l.length+b.length:=by
 have:=aw.mu (a.l++b) ⟨c.aD.toNat,[]⟩;unfold eK;simp at this⊢;omega
def DZ(c:bP)(a:bj)(b:List aj):(fB c a b).2.S.l.length<=a.S.l.length+b.length/\(fB c a b).2.fI=a.fI:=by
 unfold fB
 cases a.log with
 |none=>exact⟨by dsimp only;omega,rfl⟩
 |some d=>
  dsimp only;split
  ·exact⟨by dsimp only;omega,rfl⟩
  split
  ·exact⟨by dsimp only;omega,rfl⟩
  ·exact⟨NM c a.S b,rfl⟩
def Ju(c:bP)(b:Int)(a:bj)(d:lF):iU a (eF c b a d).2.2:=by
 unfold eF
 cases a.log with
 |none=>exact iU.refl a
 |some e=>
  dsimp only;split
  ·exact iU.refl a
  split
  ·have:=DZ c a [(qG c.decl a.S (cm c.decl a.S.l) b c.start d).1]
   simp at this;split
   ·exact⟨.inl (by dsimp only;omega),by dsimp only;rw[this.2];omega⟩
   ·exact⟨.inl (by dsimp only;omega),by dsimp only;rw[this.2];omega⟩
  ·exact iU.refl a
def Ca(d:bP)(e:Int)(a:bj)(b:bR)(k:a.waits.length<=256)(l:d.chunk<=32):iU a (cg d e a b).2.2:=by
 unfold cg
 cases a.log with
 |none=>exact iU.refl a
 |some m=>
  dsimp only;split
  ·exact iU.refl a
  rename_i i;split
  ·exact iU.refl a
  split
  ·rename_i j
   have n:b.events.length<=32:=by
    rcases Nat.lt_or_ge 32 b.events.length with h|h
    ·exfalso
     apply i;unfold fl;rw[if_pos j];intro c;split at c
     ·cases c
     ·unfold eN at c
      split at c
      ·cases c
      ·rw[if_pos (.inr oM)]at c;cases c
    ·exact h
   unfold nm;have o:=KP d a b.events;dsimp only;split
   ·exact⟨.inl (by dsimp only;omega),by dsimp only;omega⟩
   ·have f:=DZ d {a with waits:=(ku d a b.events).2} (ku d a b.events).1
    dsimp only at f;split
    ·exact⟨.inl (by dsimp only;omega),by dsimp only;rw[f.2];omega⟩
    ·exact⟨.inl (by dsimp only;omega),by dsimp only;rw[f.2];omega⟩
  ·have g:(a.fI.yQ b.bw b.vec a.S.vec).asked.length<=a.fI.asked.length+1:=by
    unfold jm.yQ;dsimp only;split
    ·have:=Iu b.bw a.fI.asked;omega
    ·omega
   split
   ·exact⟨.inl (by dsimp only;omega),g⟩
   split
   ·exact⟨.inl (by dsimp only;omega),g⟩
   ·exact⟨.inl (by dsimp only;omega),g⟩
def Jt(e:bP)(a:Int)(c:bj)(b d:Int):iU c (gO e a c b d).2:=by
 unfold gO;split
 ·exact iU.refl c
 ·exact⟨.inl (by dsimp only;omega),It _ _ _⟩
def xm(b:bP)(a:bj):(ic b a).2.fI=a.fI:=by
 unfold ic;dsimp only;split<;>rfl
def Cb(b:bP)(a:bj):iU a (fJ b a).2:=by
 unfold fJ
 cases a.log with
 |none=>exact iU.refl a
 |some c=>
  dsimp only;split
  ·exact⟨.inl (by dsimp only;omega),by dsimp only;omega⟩
  ·exact⟨.inl (by dsimp only;omega),by dsimp only;omega⟩
end Go.Proofs.YtjgjkeponbeekaaGreatDoor

import Derived.Test.YtkpomgifkloklabGreatDoorKf17
set_option maxHeartbeats 4000000
set_option linter.all false
set_option maxRecDepth 20000
namespace Go.Proofs.YtkpomgifkloklabGreatDoor
open Go.aw
structure gF where
 code:Int
 id:Int×Int
 st:pA
 Gm:List cN
 rows:List eg
 more:Bool
def fU(n:gF)(P:bc)(a b:Nat)(c:bc)(d e:Nat)(f:bc)(g h:Nat):List Value:=
 [WP n.code,WP n.id.1,WP n.id.2,WP n.st.version,.slice P a b,.slice c d e,.slice f g h,.bool n.more]
def il(n:gF)(P:bc)(a b:Nat)(c:bc)(d e:Nat)(f:bc)(g h:Nat):iA LL 44 (fU n P a b c d e f g h)=true:=kR
def fV(h:World)(n:gF)(i:Value)(P:World):Prop:=∃(b:bc) (c j:Nat) (d:bc) (e k:Nat) (f:bc) (g l:Nat) (G:UL),i= .agg (fU n b c j d e k f g l).toArray/\
 Row gA 32 P G b c n.st.cells/\Row tJ 120 P G d e n.Gm/\Row KG 24 P G f g n.rows/\∀a,G a->h.heap.size<=a/\a<P.heap.size
abbrev bS(n:Int):gF:=⟨n,(0,0),⟨0,[]⟩,[],[],false⟩
abbrev ID(id:Int×Int):gF:=⟨0,id,⟨0,[]⟩,[],[],false⟩
structure kv.Ok (x:kv):Prop where
 aX:aK x.aX
 agg:aK x.agg
 field:aK x.field
 op:aK x.op
 arg:aK x.arg
 key:aK x.key
variable{o:Array Value}{s:List Int}{H:Nat×Nat}{N:Prop}{j:Type}{g:TypeId}{B:aq}{c6:kv}
section
variable {w w' w0:World} {p:Nat} {F E T:UL} {cls:Nat->Nat} {h:km} {c:bK} {self:Int} {X:bh} {evs lB:List ah} {ea:bc} {en ec:Nat}
def fV.plain{n:gF}(P:n.st.cells=[])(a:n.Gm=[])(b:n.rows=[]):fV w n (.agg (fU n none 0 0 none 0 0 none 0 0).toArray) w':=
 ⟨none,0,0,none,0,0,none,0,0,λ_=>False,rfl,by rw[P];exact di _ _,by rw[a];exact di _ _,by rw[b];exact di _ _,λd c=>c.elim⟩
def row_one{n:kq j}{bytes P:Nat}{w:World}{d:j}{D:UL}(e:w.heap[P]? =some (.cells o g H))(f:n.rep w D d o.toList)(h:bytes<=1000):Row n bytes w (λa=>a=P\/D a) (UV P) 1 [d]:=by
 have m:=n.len f;refine⟨rfl,by unfold aP;omega,λb p c=>?_⟩;obtain rfl:b=0:=by
  rcases b with _|b
  ·rfl
  ·simp at c
 simp at c;subst c;refine⟨P,0,o.toList,rfl,aA e,.inl rfl,λi k=>?_,n.mono f λa h=>.inr h⟩;have l:i<o.size:=by rw[<-m]at k;simpa using k
 rw[ae e (v:=o[i]) (by simp[l])];simp[l]
def WO(i:B.OK){M:Int}(d:0<=M)(e:∀n∈B.l,n.az<=M):B.top<=M:=by
 have:∀(a:List ah) (P:Int),P<=M->(∀n∈a,n.az<=M)->a.foldl (λP n=>max P n.az) P<=M:=by
  intro a
  induction a with
  |nil=>intro P b _;exact b
  |cons n a f=>
   intro P b c;refine f _ ?_ λg h=>c g (QJ _ h);have:=c n (QV ..);show max P n.az<=M;omega
 exact this B.l 0 d e
def MQ[Decidable N]{n P:ah×Bool×Int}(a:n.1.Ok)(b:P.1.Ok):(if N then n else P).1.Ok:=by
 split
 ·exact a
 ·exact b
def Kk{n a:Int}(P:c6.Ok)(e:aK n)(g:aK a)(b:∀f∈s,aK f):(aZ c6 n s a).2.Ok:=by
 have h:=CF b n;unfold aZ;dsimp only
 by_cases c:n<0\/(s.length:Int)<=n\/a<0
 ·rw[Zx c];exact CG
 rw[Zq c]
 by_cases d:fq s n=9223372036854775807\/a=9223372036854775807
 ·rw[Zx d];exact CG
 rw[Zq d];refine⟨e,?_,?_,FA b sM,P.aX,P.agg,P.field,P.op,P.arg,P.key⟩
 ·show aK (fq s n+1);unfold aK at*;omega
 ·show aK (a+1);unfold aK at*;omega
def UY(d:B.l.length<=20000000):∀P∈B.vec,aK P:=λP b=>by
 obtain⟨c,n,rfl⟩:=List.getElem_of_mem b;rw[B.bI]at n;have a:=B.lg n;rw[Qq (by rw[B.bI];exact n)]at a;rw[XJ a];have:=B.Mm c;unfold aK;omega
def Od(n:B.OK):aK B.top:=by
 have b:=WO n (M:=9223372036854775807) oM λP a=>by have:=(n.ok P a).az;unfold aK at this;omega
 have c:=B.MR;unfold aK;omega
def NJ{d:aR}{V:aY}{P n:Int}(b:c6.Ok)(a:B.OK)(c:aK P)(i:aK n)(e:B.l.length<=20000000):(fP d B V P n c6).1.Ok:=by
 have f:aK (max B.top n):=by
  have j:=Od a;unfold aK at*;omega
 rw[yi];refine MQ CG ?_
 cases g:B.keyed c6.key with
 |some h=>exact a.ok h (List.mem_of_find?_eq_some g)
 |none=>exact MQ CG (MQ CG (Kk b c f (UY e)))
end
section
variable {w w' w0:World} {p:Nat} {F E T:UL} {cls:Nat->Nat} {h:km} {c:bK} {self:Int} {X:bh}
def jW.Yj(n:jW c self):0<=self/\self<c.aD:=by
 have:=n.right;unfold fJ within at this;simp only[QK,Zk]at this;omega
def Iv(hr:bX w p F c self X)(J:Env w0 w F)(hx:c6.Ok)(hl:X.S.l.length+1<=20000000):
  be 36 #[RK p,A_ c6] w (Ok λa3 w'=>∃d,fV w (if(eO c self X c6).1≠0 then bS (eO c self X c6).1 else ID (eO c self X c6).2.1) a3 w'/\bX w' p d c self (eO c self X c6).2.2/\cm F w d w'):=by
 have b8:=hr;obtain⟨q,h,cls,l⟩:=hr;have u:=l.aE;have e3:=(l.J_)
 have g7:=u p e3.1;have c0:aK self:=by have:=q.Yj;have:=q.aD;unfold aK;omega
 refine lZ (PA.mk λC e4 g8 e5=>PA.mk λb2 c2 g9 d6=>?_);have a1:=e4.then c2;have e6:=cQ.af l a1;have E:∀{f:World} {d:UL} {k:bh} {y:gF},y.st.cells=[]->y.Gm=[]->y.rows=[]->(∃r,f.heap[C.heap.size]? =some (.cells r 44 (0,0))/\r.size=8)->bX f p d c self k->(∀n,d n->F n\/b2.heap.size<=n)->cm F w d f->(eO c self X c6).2.2=k->(if(eO c self X c6).1≠0 then bS (eO c self X c6).1 else ID (eO c self X c6).2.1)=y->
   nw LL 44 (RK C.heap.size) (.agg (fU y none 0 0 none 0 0 none 0 0).toArray) f λc3=>jO LL 44 (RK C.heap.size) c3 λa=>Ok (λa3 w'=>∃d,fV w (if(eO c self X c6).1≠0 then bS (eO c self X c6).1 else ID (eO c self X c6).2.1) a3 w'/\bX w' p d c self (eO c self X c6).2.2/\cm F w d w') (.returned a) c3:=λ{f d k y} y1 y2 y3 hz b3 b4 Q hX hy=>by
  obtain⟨r,hg,e7⟩:=hz;refine aC (il y none 0 0 none 0 0 none 0 0) hg (by rw[e7];rfl) λc3 d7 h2 e8=>ar (il y none 0 0 none 0 0 none 0 0) e8 (Ok.mk ⟨d,by rw[hy];exact fV.plain y1 y2 y3,?_,Q.keep.new d7 λn P=>.inr (by have P:n=C.heap.size:=P;omega),Q.new⟩);rw[hX];refine b3.keep d7 λn P e=>?_;have e:n=C.heap.size:=e;rcases b4 n P with h1|h1
  ·have:=u n h1;omega
  ·omega
 refine⟨p,0,rfl,_,ae e6.bw rfl,jy Tryz.underlying110 ⟨_,rfl,?_⟩⟩;have d8:DL w (λn=>F n/\cls n=2) h.dp h.lp X.D X.log:=l.at' 2;obtain⟨hS,R,hn⟩:=(show cJ w h.sp (λn=>F n/\cls n=3) X.S/\X.S.Cl/\X.S.n=c.aD.toNat from l.at' 3)
 cases S:X.log with
 |none=>
  obtain⟨Fd,-,-,h3⟩:=d8;rw[S]at h3;have h3:h.lp=none:=h3;rw[h3];refine al.tt rfl ?_;have m:eO c self X c6=(15,(0,0),X):=by unfold eO;rw[S]
  exact E (y:=bS 15) rfl rfl rfl ⟨_,d6,rfl⟩ (b8.af a1) (λn P=>.inl P) ⟨ai.keep a1,λn P=>.inl P⟩ (by rw[m]) (by rw[m];rfl)
 |some f1=>
 obtain⟨f3,a4,c4,-⟩:=DL.PX (S▸d8) (J.sub λn P=>P.1) λn P=>u n P.1;rw[a4];refine al.ff rfl λe9 f2=>⟨λ_=>False,?_⟩
 have b5:ai b2 e9:=f2.keep;have a2:=a1.then b5;have c5:=cQ.af l a2;refine⟨p,0,rfl,id,_,_,_,_,_,_,ae c5.bw rfl,ae c5.bw rfl,p,0,rfl,_,ae c5.bw rfl,PC.ok (sd (hS.af a2) oM) ?_⟩;rintro _ h4 ⟨la,ln,lc,G,rfl,a5,K,hG⟩;have h6:=a5.len dC;have f4:=a5.aE;have T:=a2.then K;have h7:=cQ.af l T;have b9:∀{f:World},ai w f->bt f (λn=>F n/\cls n=1) c.decl h.ta h.tn h.pa h.pn:=λ{f} H=>(cQ.af l H).at' 1;refine⟨_,_,_,rfl,K,PC.ok (HO q.decl (J.p_.af (J.gr.then T)) (b9 T) (λn P=>by have:=u n P.1;have:=T.size;omega) (a5.row dC ce) (λn P=>f4 n P) oM) ?_⟩;rintro _ I ⟨vp,Fv,rfl,hv,h8,L⟩;have M:=T.then L;have c1:=((c2.then b5).then K).then L;obtain⟨g5,f5⟩:=HY q.decl X.S.l;obtain⟨a,c7⟩:∃a,a=fP c.decl X.S (bR c.decl X.S.l) self c.start c6:=⟨_,rfl⟩
 have h9:=a2.size;have i0:=K.size;have i1:=L.size;have v:∀{f:World},ai I f->be 61 #[.agg #[.slice h.ta h.tn h.tc,.slice h.pa h.pn h.pc],RK h.sp,RK vp,WP self,WP c.start,A_ c6] f (Ok (wL f a)):=λ{f} H=>by
  rw[c7];exact D_ (J.p_.af ((J.gr.then M).then H)) (b9 (M.then H)) (λn P=>by have:=u n P.1;have:=(M.then H).size;omega) q.decl (hS.af (M.then H)) oM (hv.af H) f5
   (by have:=q.start;unfold aK at this;omega) (by have:=Od R.ok;unfold aK at this;omega)
 refine⟨_,rfl,L,λU eo o no w'=>eo=0/\∃g i j G,w'.heap[U]? =some (.cells (aF a.1 g i j).toArray 57 (0,0))/\Row aO 8 w' G g i a.1.aM/\(∀n,G n->I.heap.size<=n/\n<w'.heap.size)/\I.heap.size<=U/\o=a.2.1/\no=a.2.2/\ai I w',?_,?_⟩
 ·intro x d9
  have N:ai I x:=d9.keep;have i2:x.heap.size=I.heap.size:=by rw[d9.heap]
  have e0:=M.then N;have V:=cQ.af l e0;have e1:=N.get (c1.get e5 id) id;have nS:¬x.heap.size<=p:=oM
  have f7:¬x.heap.size<=w.heap.size:=by have:=b5.size;have:=K.size;have:=L.size;omega
  refine⟨λn=>x.heap.size<=n,p,0,rfl,nS,_,_,_,_,_,_,ae V.bw rfl,ae V.bw rfl,p,0,rfl,nS,_,ae V.bw rfl,p,0,rfl,nS,_,ae V.bw rfl,p,0,rfl,nS,_,ae V.bw rfl,f7,ar (Es c6) e1 ⟨PC.ok (v N) ?_,PA.mk λi3 c8 i4 f9=>⟨ai.keep c8,PC.ok (v (N.then c8)) ?_⟩⟩⟩
  ·rintro _ c9 ⟨g,i,j,G,rfl,W,s,d0⟩
   have i5:=d0.size;refine cu (sx a.1 g i j) ⟨_,_,rfl,ai.keep d0,PA.mk λi6 d1 i7 g0=>⟨ai.keep d1,aC (bb a.1 g i j) g0 rfl λi8 d2 i9 g1=>⟨d2.mono λn _ e=>by have e:n=c9.heap.size:=e;omega,rfl,g,i,j,G,g1,?_,λn P=>⟨by have:=s n P;omega,by have:=s n P;omega⟩,oM,rfl,rfl,?_⟩⟩⟩
   ·exact(W.af d1).keep d2 λn P e=>by have e:n=c9.heap.size:=e;have:=(s n P).2;omega
   ·exact((N.then d0).then d1).new d2 λn P=>.inr (by have P:n=c9.heap.size:=P;omega)
  ·rintro _ j0 ⟨g,i,j,G,rfl,W,s,b6⟩
   have j1:=b6.size;refine cu (sx a.1 g i j) ⟨_,_,rfl,ai.keep b6,aC (bb a.1 g i j) (b6.get f9 id) rfl λj2 d3 j3 g2=>⟨d3.mono λn _ e=>by have e:n=x.heap.size:=e;omega,rfl,g,i,j,G,g2,?_,λn P=>⟨by have:=s n P;omega,by have:=s n P;omega⟩,oM,rfl,rfl,?_⟩⟩
   ·exact W.keep d3 λn P e=>by have e:n=x.heap.size:=e;have:=(s n P).1;omega
   ·exact((N.then c8).then b6).new d3 λn P=>.inr (by have P:n=x.heap.size:=P;omega)
 rintro U _ o no _ O ⟨rfl,g,i,j,G2,b,W,s,j4,rfl,rfl,d4⟩;have Y:=M.then d4;have j5:=cQ.af l Y;have g6:=c1.then d4;have b0:=d4.get (L.get (K.get (b5.get d6 id) id) id) id;have a6:a.1.Ok:=by rw[c7];exact NJ hx R.ok c0 q.start oM
 have a7:∀{z:Int×(Int×Int)×bh},(if a.2.2≠0 then(a.2.2,(0,0),X)else if a.2.1 then(if(dt c X [a.1]).1≠0 then((dt c X [a.1]).1,(0,0),(dt c X [a.1]).2)else(0,bd a.1,(dt c X [a.1]).2))else(0,bd a.1,X))=z->eO c self X c6=z:=λ{z} ht=>by
  rw[<-ht,c7];unfold eO;rw[S]
 have j6:=Y.size;have d5:=aA b;refine⟨λz w'=>∃d k,bX w' p d c self k/\cm F w d w'/\(∀n,d n->F n\/b2.heap.size<=n)/\w'.heap[U]? =some (.cells (aF a.1 g i j).toArray 57 (0,0))/\(∃r,w'.heap[C.heap.size]? =some (.cells r 44 (0,0))/\r.size=8)/\eO c self X c6=(if z≠0 then(z,(0,0),k)else(0,bd a.1,k)),?_,?_⟩
 ·have A:eO c self X c6=(if a.2.2≠0 then(a.2.2,(0,0),X)else(0,bd a.1,X))->∃d k,bX O p d c self k/\cm F w d O/\(∀n,d n->F n\/b2.heap.size<=n)/\O.heap[U]? =some (.cells (aF a.1 g i j).toArray 57 (0,0))/\(∃r,O.heap[C.heap.size]? =some (.cells r 44 (0,0))/\r.size=8)/\eO c self X c6=(if a.2.2≠0 then(a.2.2,(0,0),k)else(0,bd a.1,k)):=λm=>
   ⟨F,X,b8.af Y,⟨ai.keep Y,λn P=>.inl P⟩,λn P=>.inl P,b,⟨_,b0,rfl⟩,m⟩
  refine al.ey (λB=>al.mk (λt=>?_) (λt=>A (a7 (by rw[Zq (by simpa using B),Zq (by simpa using t),Zq (by simpa using B)])))) (λB=>A (a7 (by rw[Zx B,Zx B])));refine⟨_,_,_,_,_,_,_,_,_,_,_,_,ae b rfl,ae b rfl,ae b rfl,ae b rfl,ae b rfl,ae b rfl,ae b rfl,ae b rfl,ae b rfl,ae b rfl,PA.mk λe2 b7 j7 g3=>?_⟩;have a9:=Y.then b7;have f0:Row jh 96 e2 (λn=>n=O.heap.size\/G2 n) (UV O.heap.size) 1 [a.1]:=row_one g3 ⟨g,i,j,rfl,W.af b7,a6⟩ dC;refine PC.ok (Ka (cQ.af l a9) q (J.af a9) S f0 (λn P=>?_) (by simpa using hl)) ?_
  ·have g4:I.heap.size<=n/\n<e2.heap.size:=P.elim (λe=>⟨oM,oM⟩) λh5=>by have:=s n h5;omega
   exact⟨g4.2,λt=>by have:=u n t.1;omega⟩
  rintro _ j8 ⟨rfl,h',d,Z,a8,a0,-⟩;refine⟨_,rfl,d,(dt c X [a.1]).2,⟨q,h',Z,a8⟩,⟨(ai.keep a9).then a0.keep,λn P=>(a0.new n P).imp id λh1=>oM⟩,λn P=>(a0.new n P).imp id λh1=>by have:=c2.size;omega,a0.keep.get (b7.get b id) λt=>by have:=u _ t;omega,⟨_,a0.keep.get (b7.get b0 id) λt=>by have:=u _ t;omega,rfl⟩,?_⟩;exact a7 (by rw[Zq (by simpa using B),Zx t])
 ·rintro z _ j9 ⟨d,k,b3,Q,b4,b1,hz,m⟩
  refine al.eP (λc4=>?_) (λB=>⟨_,_,ae b1 rfl,ae b1 rfl,?_⟩)
  ·rw[Zx c4]at m
   exact E (y:=bS z) rfl rfl rfl hz b3 b4 Q (by rw[m]) (by rw[m];exact Zx c4)
  ·rw[Zq (by simpa using B)]at m
   exact E (y:=ID (bd a.1)) rfl rfl rfl hz b3 b4 Q (by rw[m]) (by rw[m];rfl)
end
def fO(c:World)(d:UL)(g:List bD)(h:Value)(a:World):Prop:=
 ∃(P:bc) (e f:Nat) (b:List KH) (D:UL),h= .slice P e f/\aT Pk 92 (λn=>aH P=some n) a P e f b/\b.map (·.m)=g/\(∀n∈b,n.In a D)/\(∀n,D n->c.heap.size<=n/\n<a.heap.size/\aH P≠some n/\¬d n)/\∀n,aH P=some n->c.heap.size<=n/\¬d n
variable{e:Int}
section
variable {w w' w0 w1:World} {p:Nat} {F E T Z:UL} {cls:Nat->Nat} {h:km} {c:bK} {self:Int} {X:bh} {ms:List bD} {v:Value}
def bl.out(e:bl w1 ms v w')(c:∀n,Z n->n<w1.heap.size)(o:w.heap.size<=w1.heap.size):fO w Z ms v w':=by
 obtain⟨f,g,h,i,D,j,k,l,m,a,d,p⟩:=e;exact⟨f,g,h,i,D,j,k,l,m,λn P=>⟨by have:=(a n P).1;omega,(a n P).2.1,(a n P).2.2,λb=>by have:=c n b;have:=(a n P).1;omega⟩,λn P=>⟨by have:=d n P;omega,λb=>by have:=c n b;have:=d n P;omega⟩⟩
def fO.nil(w0 w:World)(Z:UL):fO w0 Z [] (.slice none 0 0) w:=⟨none,0,0,[],λ_=>False,rfl,(aT.nil w).mono (λP n=>n.elim) (λP n=>(by cases n)),rfl,sM,λP n=>n.elim,λP n=>(by cases n)⟩
def bl.one{m:bD}{va b:bc}{vn vc c d a:Nat}{D:UL}(f:w.heap[a]? =some (.cells (ef m va vn vc b c d).toArray 92 (0,0)))(h:(⟨m,va,vn,vc,b,c,d⟩:KH).In w D)(e:∀P,D P->w0.heap.size<=P/\P<w.heap.size/\P≠a)(j:w0.heap.size<=a)(i:ai w0 w):
  bl w0 [m] (.slice (UV a) 1 1) w:=by
 have k:=aA f;refine⟨UV a,1,1,[⟨m,va,vn,vc,b,c,d⟩],D,rfl,⟨⟨ef m va vn vc b c d,λ_=>False,Own.AB f rfl (by unfold maxLen;omega),cd.one ⟨rfl,trivial⟩,λP n=>n.elim⟩,λP n=>n,λP n=>?_⟩,rfl,λP n=>?_,λP n=>⟨(e P n).1,(e P n).2.1,λg=>?_⟩,λP n=>?_,i⟩
 ·simp only[aH,Q1]at n;omega
 ·simp at n;subst n;exact h
 ·simp only[aH,Q1]at g;exact(e P n).2.2 g.symm
 ·simp only[aH,Q1]at n;omega
def Gs(q:bX w p F c self X){n P:Int}(A:aK n):
  be 35 #[RK p,WP n,WP P] w (Ok λv w'=>∃a,fO w a (eX c self X n P).1 v w'/\bX w' p a c self (eX c self X n P).2/\cm F w a w'):=by
 have B:=q;obtain⟨C,h,cls,e⟩:=q;have no:(n<0\/n>=c.aD\/n=self)->Ok (λv w'=>∃a,fO w a (eX c self X n P).1 v w'/\bX w' p a c self (eX c self X n P).2/\cm F w a w') (.returned (.slice none 0 0)) w:=λj=>by
  have:eX c self X n P=([],X):=by unfold eX;rw[Zx j]
  rw[this];exact Ok.mk ⟨F,fO.nil _ _ _,B,cm.refl _ _⟩
 refine lG (al.dec (λk=>no (.inl k)) (λk=>⟨p,0,rfl,_,ae e.bw rfl,al.dec (λl=>no (.inr (.inl l))) (λl=>⟨p,0,rfl,_,ae e.bw rfl,al.ey (λm=>no (.inr (.inr m))) (λm=>⟨p,0,rfl,_,ae e.bw rfl,?_⟩)⟩)⟩));have E:eX c self X n P=([ll X.S self n],{X with gB:={X.gB with asked:=aI X.gB.asked n P}}):=by unfold eX;rw[Zq (by rintro(h|h|h);exact k h;exact l h;exact m h)]
 refine PC.ok (Kl (e.at' 6) A) ?_;rintro _ r ⟨rfl,H,s⟩;have I:cQ r F cls p h c self {X with gB:={X.gB with asked:=aI X.gB.asked n P}}:=bg.same e cg (k:=6) s H λt G J j=>by
  rcases t with _|_|_|_|_|_|_|t<;>first|exact j|exact Zz rfl J
 refine⟨rfl,λo K=>?_⟩;have u:ai r o:=K.keep;have d:=cQ.af I u;refine⟨p,0,rfl,_,ae d.bw rfl,p,0,rfl,_,ae d.bw rfl,PC.ok (yN (d.at' 3).1) ?_⟩;rintro _ L ⟨S,T,U,G,rfl,x,M,g⟩;have y:=x.aE;have N:=g.size;refine⟨_,_,_,_,_,_,_,_,_,rfl,PA.mk λO i V Q=>?_⟩;rw[E];have R:bl o [ll X.S self n] (.slice (UV L.heap.size) 1 1) O:=bl.one (D:=G) Q ⟨(x.af i).row dC (by show X.S.vec.length*8<=aP;rw[X.S.bI];have:=(d.at' 3).1.1.n;have:X.S.n<=64:=this;unfold aP;omega),di _ _⟩ (λf b=>⟨M f b,by have:=y f b;omega,by have:=y f b;omega⟩) N (g.then i);have z:aj F w o:=(s.mono λf _ b=>b.1).af u;exact Ok.mk ⟨F,R.out d.aE z.size,⟨C,h,cls,cQ.af d (g.then i)⟩,(z.af g).af i,λf b=>.inl b⟩
def UZ(T:kr)(b:Int):∀n∈T.due b,n∈T.open:=by
 have:∀(c:List Int) (d:List Int×List (Int×Int)),∀n∈(c.foldl (gw T.de b) d).1,n∈d.1\/n∈c:=by
  intro c
  induction c with
  |nil=>intro d n P;exact .inl P
  |cons g c f=>
   intro d n P;rcases f _ n P with a|a
   ·unfold gw at a
    split at a
    ·rcases Q6.1 a with e|e
     ·exact .inl e
     ·simp at e;subst e;exact .inr (QV ..)
    ·exact .inl a
   ·exact .inr (QJ _ a)
 intro n P;unfold kr.due kr.jw at P;rw[List.take_length]at P;exact(this T.open ([],T.asked) n P).resolve_left sM
def Ta{T:kr}(a:∀n∈T.asked,aK n.1):∀P∈T.open,aK P:=λP b=>by
 have:P∈T.asked.map (·.1):=(List.mergeSort_perm _ _).mem_iff.1 b;obtain⟨n,c,rfl⟩:=Xk.1 this;exact a n c
def Nu(T:kr)(n:Int):(T.due n).length<=T.asked.length:=by
 have:∀(a:List Int) (P:List Int×List (Int×Int)),(a.foldl (gw T.de n) P).1.length<=P.1.length+a.length:=by
  intro a
  induction a with
  |nil=>intro P;simp
  |cons b a d=>
   intro P;have c:=d (gw T.de n P b);have e:(gw T.de n P b).1.length<=P.1.length+1:=by
    unfold gw;split
    ·simp
    ·omega
   simp only[List.foldl_cons,Xq];omega
 have c:=this T.open ([],T.asked);unfold kr.due kr.jw;rw[List.take_length];have e:T.open.length=T.asked.length:=by simp[kr.open,wM]
 simp only[ZQ]at c;omega
def Ry(M:bX w p F c self X)(a:X.gB.asked.length<=1000):
  be 34 #[RK p,WP e] w (Ok λv w'=>∃l,fO w l (pJ self X e).1 v w'/\bX w' p l c self (pJ self X e).2/\cm F w l w'):=by
 obtain⟨N,h,cls,m⟩:=M;have u:ep w h.tp (λn=>F n/\cls n=6) X.gB:=m.at' 6;have O:∀b∈X.gB.due e,aK b:=λb f=>Ta u.tl b (UZ _ _ b f);have b0:=Nu X.gB e;refine oL ⟨p,0,rfl,_,ae m.bw rfl,PC.ok (Qd u ce) ?_⟩;rintro _ g ⟨Q,o,cc,rfl,x,R,q,hn⟩;have y:cQ g F cls p h c self {X with gB:=X.gB.Tb e}:=bg.same m cg (k:=6) q R λP G z S=>by
  rcases P with _|_|_|_|_|_|_|P<;>first|exact S|exact Zz rfl z
 have T:=x.length;rw[jV,Nat.mul_one]at T;have U:Ints g Q o (X.gB.due e):=x.ints ce O;have V:=y.aE;have W:=q.size;refine⟨_,_,_,rfl,λA B C E Y w'=>∃P:Nat,Y=P/\P<=o/\A=o-P/\bl g (((X.gB.due e).take P).map λd=>ll X.S self d) (.slice B C E) w',⟨_,0,rfl,Qj _,rfl,bl.nil g⟩,?_⟩;rintro A B C E _ _ Z ⟨P,rfl,z,rfl,i⟩;have r:=i;obtain⟨a3,n1,c1,a4,D,he,g2,g3,g4,g5,g6,j⟩:=r
 cases he
 have H:=cQ.af y j;have b1:=j.size;refine al.dec (λb2=>?_) (λb3=>?_)
 ·obtain⟨n,s,b,rfl,b4,f,b5,a0⟩:=(U.af j).at (i:=(P:Int)) oM oM
  rw[Qx]at f;refine⟨n,s,rfl,oM,oM,b,a0,λa6 a7=>?_⟩;have t:ai Z a6:=a7.keep;have k:=cQ.af H t;refine⟨p,0,rfl,_,ae k.bw rfl,p,0,rfl,_,ae k.bw rfl,PC.ok (yN (k.at' 3).1) ?_⟩;rintro _ b6 ⟨va,vn,vc,G,rfl,I,J,K⟩;have a8:=I.aE;have b7:=t.size;have b8:=K.size;refine⟨_,_,_,_,_,_,_,_,_,rfl,PA.mk λb9 L c2 a9=>?_⟩;refine bl.push (m:=ll X.S self b) (E:=G) (i.af ((t.then K).then L)) EH ⟨(I.af L).row dC (by show X.S.vec.length*8<=aP;rw[X.S.bI];have:X.S.n<=64:=(k.at' 3).1.1.n;unfold aP;omega),di _ _⟩ (λn a=>⟨by have:=J n a;omega,by have:=a8 n a;omega,λa1=>by have:=g2.aE n a1;have:=J n a;omega⟩) a9 (by rw[Q8,Qy];omega) λa' c' c3 a2 c4=>⟨_,_,_,rfl,_,?_,P+1,an oM,oM,rfl,?_⟩
  ·omega
  ·rw[Qw,f,Q3];exact a2
 ·rw[Qz oM]at i
  exact Ok.mk ⟨F,i.out V W,⟨N,h,cls,H⟩,(q.mono λn _ a=>a.1).af j,λn a=>.inl a⟩
def TY(P:bX w p F c self X):be 29 #[RK p] w (Ok (pQ aO 3 w X.S.vec)):=by
 obtain⟨f,h,cls,n⟩:=P;refine qg ⟨p,0,rfl,_,ae n.bw rfl,PC.ok (mq (n.at' 3).1) ?_⟩;rintro _ g ⟨a,b,d,G,rfl,e⟩;exact⟨_,_,_,rfl,Ok.mk ⟨a,b,d,G,rfl,e⟩⟩
def Ll(a:bX w p F c self X)(n:X.S.l.length<=20000000):be 25 #[RK p] w (Ok (pQ jh 57 w X.S.l)):=by
 obtain⟨f,h,cls,P⟩:=a;refine mP ⟨p,0,rfl,_,ae P.bw rfl,PC.ok (sd (P.at' 3).1 n) ?_⟩;rintro _ g ⟨b,d,e,G,rfl,n⟩;exact⟨_,_,_,rfl,Ok.mk ⟨b,d,e,G,rfl,n⟩⟩
end
def wN{c:aq}:∀{P:List ah} {e:ah} {S':aq} {l':List ah},dK c P=some (e,S',l')->l'.length+1=P.length
 |[],e,S',l',n=>by simp[dK]at n
 |x::P,e,S',l',n=>by
  unfold dK at n;split at n
  ·simp only[Q1,Prod.mk.injEq]at n
   obtain⟨-,-,rfl⟩:=n;rfl
  ·cases a:dK c P with
   |none=>rw[a]at n;cases n
   |some b=>
    rw[a]at n;simp only[Option.map_some,Q1,Prod.mk.injEq]at n;obtain⟨rfl,rfl,rfl⟩:=n;have:=wN (e:=b.1) (S':=b.2.1) (l':=b.2.2) a;simp only[Xq];omega
def wO:∀(k:Nat) (a:aq) (P n:List ah),(dm k a P n).1.length+(dm k a P n).2.length=n.length+P.length
 |0,a,P,n=>rfl
 |k+1,a,P,n=>by
  unfold dm
  cases e:dK a P with
  |none=>rfl
  |some f=>
   obtain⟨b,c,d⟩:=f;have h:=wN e;have g:=wO k c d (n++[b]);show(dm k c d (n++[b])).1.length+(dm k c d (n++[b])).2.length=_;rw[g,QX,List.length_singleton];omega
def wP(P:aq)(n:List ah):(bJ P n).1.length+(bJ P n).2.length<=n.length:=by
 unfold bJ;dsimp only;rw[wO];have:=List.length_filter_le (λa=>(P.get (bd a)).isNone) n;simp only[ZQ];omega
structure HA (w:World) (wp most:Nat) (M0 D0 E:UL) (s:Nat) (S:aq) (b:List ah) (oa:bc) (on oc:Nat) (Lo:List (Bx ah)) (w1:World) (M Db Fs Do:UL):Prop where
 buf:ij w1 wp M Db most b
 set:cJ w1 s Fs S
 Oy:∀x∈Lo,nu.In w1 Do x
 out:aT nu.kp 57 (λb=>aH oa=some b) w1 oa on oc Lo
 nM:∀b,M b->(M0 b\/w.heap.size<=b)/\¬Fs b
 nD:∀b,Db b->(D0 b\/w.heap.size<=b)/\¬Fs b
 nF:∀b,Fs b->w.heap.size<=b
 nO:∀b,Do b->(E b\/D0 b\/w.heap.size<=b)/\b<w1.heap.size/\¬M b/\¬Fs b
 nA:∀b,aH oa=some b->w.heap.size<=b/\¬M b/\¬Fs b/\¬Do b/\¬Db b
 keep:aj M0 w w1
 cl:S.Cl
variable{a:Nat}{f:UL}{d:bc}{q:TypeId}{m t:ac}{l:ah}
section
variable {w w' w0 w1 w2:World} {p wp most s on oc:Nat} {F E T Z M0 D0 M Db Fs Do:UL} {cls:Nat->Nat} {h:km} {c:bK} {self:Int} {X:bh} {S:aq} {b:List ah} {oa:bc} {Lo:List (Bx ah)}
def ij.P_(n:ij w p M Db most b):∀b,M b->b<w.heap.size:=by obtain⟨-,a,d,c,e,P⟩:=n;exact P.dM
def ij.Km(n:ij w p M Db most b):∀b,Db b->b<w.heap.size/\¬M b:=by obtain⟨-,a,d,c,e,P⟩:=n;exact P.dD
def HA.af(n:HA w wp most M0 D0 E s S b oa on oc Lo w1 M Db Fs Do)(P:ai w1 w2):HA w wp most M0 D0 E s S b oa on oc Lo w2 M Db Fs Do:=
 ⟨n.buf.af P,n.set.af P,λc d=>(n.Oy c d).keep P λ_ _ h=>h,n.out.af P,n.nM,n.nD,n.nF,λb a=>⟨(n.nO b a).1,by have:=(n.nO b a).2.1;have:=P.size;omega,(n.nO b a).2.2⟩,n.nA,n.keep.af P,n.cl⟩
def HA.add(P:HA w wp most M0 D0 E s S b oa on oc Lo w1 M Db Fs Do){h m:Nat}(o:Row aO 8 w1 f d h l.aM)(p:∀b,f b->b<w1.heap.size/\¬Fs b)(i:l.Ok)(y:S.l.length<=20000000):
  be 84 #[RK s,kM l d h m] w1 (Ok λj w'=>j= WP (S.add l).1/\∃e,HA w wp most M0 D0 E s (S.add l).2 b oa on oc Lo w' M Db e Do/\aj Fs w1 w'/\∀b,e b->Fs b\/w1.heap.size<=b):=by
 refine(uX P.set o p i oM).mono ?_;rintro _ w2 ⟨j,rfl,rfl,k,q,a⟩;have r:=P.buf.P_;have t:=P.buf.Km;have z:=P.keep.size;have c:∀b,b<w1.heap.size->¬Fs b->¬k b:=λb A u g=>(a.new b g).elim u oM;refine Ok.mk ⟨rfl,k,⟨P.buf.keep a.keep (λb n=>(P.nM b n).2) λb n=>(P.nD b n).2,q,λv x=>(P.Oy v x).keep a.keep λb n=>(P.nO b n).2.2.2,P.out.keep a.keep λb n=>(P.nA b n).2.2.1,λb n=>⟨(P.nM b n).1,c b (r b n) (P.nM b n).2⟩,λb n=>⟨(P.nD b n).1,c b (t b n).1 (P.nD b n).2⟩,
  λb n=>(a.new b n).elim (P.nF b) λY=>oM,λb n=>⟨(P.nO b n).1,by have:=(P.nO b n).2.1;have:=a.keep.size;omega,(P.nO b n).2.2.1,c b (P.nO b n).2.1 (P.nO b n).2.2.2⟩,λb n=>⟨(P.nA b n).1,(P.nA b n).2.1,c b (P.out.aE b n) (P.nA b n).2.2.1,(P.nA b n).2.2.2⟩,P.keep.new a.keep λb n=>.inr (P.nF b n),P.cl.add i⟩,a.keep,a.new⟩
def HA.push{v:Program}(P:HA w wp most M0 D0 E s S b oa on oc Lo w1 M Db Fs Do)(z:jU v g 57 nu.kp.k 96){c:Bx ah}(A:nu.In w1 f c)(d:∀b,f b->(E b\/D0 b\/w.heap.size<=b)/\b<w1.heap.size/\¬M b/\¬Fs b/\aH oa≠some b){B:Nat×Nat}(C:w1.heap[a]? =some (.cells (aF c.x c.a c.n c.c).toArray 57 B))(Q:Lo.length<=1000000)(r:∀k p w' u,HA w wp most M0 D0 E s S b k (on+1) p (Lo++[c]) w' M Db Fs u->aj (λb=>aH oa=some b) w1 w'->(∀b,aH k=some b->aH oa=some b\/w1.heap.size<=b)->m (.slice k (on+1) p) w'):
  aJ v (Builtin.append_ #[g,g] q #[.slice oa on oc,.slice (UV a) 1 1]) w1 m t:=by
 refine fN (c:=nu.kp) (x:=c) (D:=λ_=>False) P.out z C ⟨rfl,trivial⟩ (λb n=>n.elim) ce (by unfold maxLen;omega) λk p w2 R x e F=>?_;have I:=x.alone;have y:∀b,aH k=some b->aH oa=some b\/w1.heap.size<=b:=λb n=>(F b (x.self b n)).imp id λh=>h.resolve_left id;have T:=e.size;have z1:=P.keep.size;have J:=P.buf.P_;have K:=P.buf.Km;have L:=P.set.aE;have nA:=P.nA;refine r k p w2 (λb=>Do b\/f b) ⟨P.buf.keep e (λb n i=>(nA b i).2.1 n) λb n i=>(nA b i).2.2.2.2 n,P.set.keep e λb n i=>(nA b i).2.2.1 n,λN l=>?_,I,P.nM,P.nD,P.nF,λb n=>?_,λb n=>?_,P.keep.new e λb n=>.inr (nA b n).1,P.cl⟩ e y
 ·rcases Q6.1 l with l|l
  ·exact((P.Oy N l).keep e λb n i=>(nA b i).2.2.2.1 n).mono λb n=>.inl n
  ·simp at l;subst l
   exact(A.keep e λb n=>(d b n).2.2.2.2).mono λb n=>.inr n
 ·rcases n with n|n
  ·exact⟨(P.nO b n).1,by have:=(P.nO b n).2.1;omega,(P.nO b n).2.2⟩
  ·exact⟨(d b n).1,by have:=(d b n).2.1;omega,(d b n).2.2.1,(d b n).2.2.2.1⟩
 ·rcases y b n with H|H
  ·exact⟨(nA b H).1,(nA b H).2.1,(nA b H).2.2.1,λo=>o.elim (nA b H).2.2.2.1 λO=>(d b O).2.2.2.2 H,(nA b H).2.2.2.2⟩
  ·exact⟨oM,λj=>by have:=J b j;omega,λj=>by have:=L b j;omega,λj=>j.elim (λo=>by have:=(P.nO b o).2.1;omega) λo=>by have:=(d b o).2.1;omega,λj=>by have:=(K b j).1;omega⟩
def HA.wait(n:HA w wp most M0 D0 E s S b oa on oc Lo w1 M Db Fs Do){j p:Nat}(q:Row aO 8 w1 f d j l.aM)(r:∀b,f b->b<w1.heap.size)(t:l.Ok):
  be 210 #[RK wp,kM l d j p] w1 (Ok λk w'=>∃u,k= .bool u/\∃g h,HA w wp most M0 D0 E s S (eT most b l).2 oa on oc Lo w' g h Fs Do/\aj M w1 w'):=by
 refine(KQ n.buf q r t).mono ?_;rintro _ w2 ⟨k,rfl,rfl,g,v,x,e,i,m⟩;have o:=n.set.aE;have A:=n.keep.size;have B:=e.size;refine Ok.mk ⟨_,rfl,g,v,⟨x,n.set.keep e λb P c=>(n.nM b c).2 P,λy z=>(n.Oy y z).keep e λb P=>(n.nO b P).2.2.1,n.out.keep e λb P=>(n.nA b P).2.1,λb P=>?_,λb P=>?_,n.nF,λb P=>⟨(n.nO b P).1,by have:=(n.nO b P).2.1;omega,λc=>?_,(n.nO b P).2.2.2⟩,λb P=>⟨(n.nA b P).1,λc=>?_,(n.nA b P).2.2.1,(n.nA b P).2.2.2.1,λc=>?_⟩,?_,n.cl⟩,e⟩
 ·rcases i b P with a|a
  ·exact n.nM b a
  ·exact⟨.inr oM,λc=>by have:=o b c;omega⟩
 ·rcases m b P with a|a
  ·exact n.nD b a
  ·exact⟨.inr oM,λc=>by have:=o b c;omega⟩
 ·rcases i b c with a|a
  ·exact(n.nO b P).2.2.1 a
  ·have:=(n.nO b P).2.1;omega
 ·rcases i b c with a|a
  ·exact(n.nA b P).2.1 a
  ·have:=n.out.aE b P;omega
 ·rcases m b c with a|a
  ·exact(n.nA b P).2.2.2.2 a
  ·have:=n.out.aE b P;omega
 ·exact n.keep.new e λb P=>(n.nM b P).1
def HA.ready(n:HA w wp most M0 D0 E s S b oa on oc Lo w1 M Db Fs Do)(i:S.l.length<=19000000):
  be 211 #[RK wp,RK s] w1 (Ok λh w'=>∃a e f d,h= .slice a e f/\aT nu.kp 57 (λb=>aH a=some b) w' a e f d/\d.map (·.x)=(bJ S b).1/\(∀g∈d,nu.In w' Db g)/\(∀b,aH a=some b->w1.heap.size<=b)/\
   HA w wp most M0 D0 E s S (bJ S b).2 oa on oc Lo w' M Db Fs Do/\aj M w1 w'):=by
 refine(FZ n.buf n.set n.cl i).mono ?_;rintro _ w2 ⟨h,rfl,a,e,f,d,rfl,j,k,l,m,o,c⟩;have r:=c.size;exact Ok.mk ⟨a,e,f,d,rfl,j,k,l,m,⟨o,n.set.keep c λb P p=>(n.nM b p).2 P,λg q=>(n.Oy g q).keep c λb P=>(n.nO b P).2.2.1,n.out.keep c λb P=>(n.nA b P).2.1,n.nM,n.nD,n.nF,λb P=>⟨(n.nO b P).1,by have:=(n.nO b P).2.1;omega,(n.nO b P).2.2⟩,n.nA,n.keep.new c λb P=>(n.nM b P).1,n.cl⟩,c⟩
end
section
variable {w w' w0 w1 w2:World} {p wp most s on oc:Nat} {F E T Z M0 D0 M Db Fs Do:UL} {cls:Nat->Nat} {h:km} {c:bK} {self:Int} {X:bh} {S:aq} {b:List ah} {oa:bc} {Lo:List (Bx ah)} {evs:List ah} {ea:bc} {en ec:Nat}
def CH(most:Nat)(n:List ah)(P:ah):(eT most n P).2.length<=n.length+1:=by
 unfold eT;split
 ·show n.length<=_;omega
 ·show(dz P n).length<=_
  rw[(cO P n).length_eq];simp
def PZ(L:cQ w F cls p h c self X)(e5:jW c self)(hr:Row jh 96 w E ea en evs)(A:∀b,E b->b<w.heap.size/\¬F b)(m4:evs.length<=1000)(hl:X.S.l.length<=18000000):
  be 151 #[RK p,.slice ea en ec] w (Ok λf0 w'=>∃oa on oc Lo U o Do,f0= .slice oa on oc/\aT nu.kp 57 (λb=>aH oa=some b) w' oa on oc Lo/\Lo.map (·.x)=(iV c X evs).1/\(∀n∈Lo,nu.In w' Do n)/\
   cQ w' U o p h c self {X with waits:=(iV c X evs).2}/\cm F w U w'/\(∀b,Do b->b<w'.heap.size/\aH oa≠some b/\¬(U b/\o b=2))/\(∀b,aH oa=some b->w.heap.size<=b/\¬U b)/\(iV c X evs).1.length<=evs.length+256):=by
 obtain⟨m9,n0,n1⟩:=e5.aD;have e6:=L.aE;have i7:=L.J_;obtain⟨hS,a0,hn⟩:=(show cJ w h.sp (λb=>F b/\cls b=3) X.S/\X.S.Cl/\X.S.n=c.aD.toNat from L.at' 3)
 obtain⟨M0,D0,t,c3,a1⟩:=(show Pu w (λb=>F b/\cls b=5) h.wp c.buffer.toNat X.waits from L.at' 5)
 have f1:X.waits.length<=256:=Xx t.1.2.le t.1.1;have n3:=hr.len;refine nV (PC.ok (Kj (evs:=[]) L e5 (di w (λ_=>False)) (λb a=>a.elim) cS) ?_);rintro _ w4 ⟨s,i8,rfl,i9,b1,k4⟩;have e7:fg c X.S []=X.S:=(wg a0 hn []).trans rfl;have z4:=k4.size;have j0:(fg c X.S []).Cl:=by rw[e7];exact a0
 have j1:(fg c X.S []).l.length=X.S.l.length:=by rw[e7]
 have j2:HA w h.wp c.buffer.toNat M0 D0 E s (fg c X.S []) X.waits none 0 0 [] w4 M0 D0 i8 (λ_=>False):=by
  have j3:=t.P_;have e8:=t.Km;refine⟨t.af k4,i9,sM,(aT.nil w4).mono (λb a=>a.elim) (λb a=>(by cases a)),λb a=>⟨.inl a,λi=>by have:=j3 b a;have:=b1 b i;omega⟩,λb a=>⟨.inl a,λi=>by have:=(e8 b a).1;have:=b1 b i;omega⟩,b1,λb a=>a.elim,λb a=>(by cases a),ai.keep k4,j0⟩
 have B:∀{w1:World},aj M0 w w1->w1.heap[p]? =some (.cells (h.cells c self) 116 (0,0)):=λ{w1} hk=>hk.get L.bw λj=>by
  have:=(c3 p j).2;rw[i7.2]at this;cases this
 have e9:∀b,E b->¬M0 b:=λb a j=>(A b a).2 (c3 b j).1;obtain⟨C,f2⟩:∃C,C=gN c.buffer.toNat evs (fg c X.S []) [] X.waits:=⟨_,rfl⟩
 have r:iV c X evs=pM (C.2.2.length+1) C.1 C.2.1 C.2.2:=by rw[f2];rfl
 refine⟨_,rfl,λH oa on oc I w'=>∃(d:Nat) (S:aq) (b:List ah) (Lo:List (Bx ah)) (M Db Fs Do:UL),I=d/\d<=en/\H=en-d/\HA w h.wp c.buffer.toNat M0 D0 E s S b oa on oc Lo w' M Db Fs Do/\gN c.buffer.toNat (evs.drop d) S (Lo.map (·.x)) b=C/\S.l.length<=X.S.l.length+Lo.length/\Lo.length<=d/\b.length<=256/\Lo.length+b.length<=X.waits.length+d,
  ⟨_,0,_,_,_,_,_,_,_,rfl,Qj _,rfl,j2,f2.symm,by simp[j1],sM,f1,sM⟩,?_⟩
 rintro H oa on oc _ _ f4 ⟨d,S,b,Lo,M,Db,Fs,Do,rfl,hj,rfl,i,u,V,f5,b3,f7⟩;have j4:=i.keep.size;have j5:=i.out.len dC;refine al.dec (λj6=>?_) (λj7=>?_)
 ·obtain⟨n,g⟩:∃n,evs[d]? =some n:=⟨_,Qq oM⟩
  have a8:evs.drop d=n::evs.drop (d+1):=by
   rw[X4 oM]
   congr 1
   exact(Qv.1 g).2
  rw[a8]at u;obtain⟨gb,go,es,ha,j8,n4,d3,xa,xn,xc,rfl,d4,b4⟩:=(hr.keep i.keep e9).el d n g;refine⟨gb,go,ha,oM,oM,bT (es:=aF n xa xn xc) (k:=10) (bb _ _ _ _) rfl (λI ht=>by rw[Qx];exact d3 I ht) (PA.mk λn8 j9 n9 k0=>aC (bb n xa xn xc) k0 rfl λk1 k2 o0 f9=>ar (bb n xa xn xc) f9 ?_)⟩;have a2:ai f4 k1:=j9.new k2 λb a=>.inr (by have a:b=f4.heap.size:=a;omega);have o1:=a2.size;have d5:∀b,E b->¬Fs b:=λb a j=>by have:=i.nF b j;have:=(A b a).1;omega
  refine PC.ok ((i.af a2).add (d4.af a2) (λb a=>⟨by have:=(A b a).1;omega,d5 b a⟩) b4 oM) ?_;rintro _ k3 ⟨rfl,N,J,a5,m5⟩;have o2:=a5.size;have b5:=i.set.aE;have v:=a5.get f9 λj=>by have:=b5 _ j;omega
  have g0:=S.Ai n;have f3:gN c.buffer.toNat (n::evs.drop (d+1)) S (Lo.map (·.x)) b=if(S.add n).1=0 then gN c.buffer.toNat (evs.drop (d+1)) (S.add n).2 (Lo.map (·.x)++[n]) b else if(S.add n).1=16 then gN c.buffer.toNat (evs.drop (d+1)) S (Lo.map (·.x)) b else gN c.buffer.toNat (evs.drop (d+1)) S (Lo.map (·.x)) (eT c.buffer.toNat b n).2:=rfl
  rw[f3]at u;have a9:(S.add n).1≠0->(S.add n).2=S:=λW=>by
   rcases S.eU n with⟨-,e⟩|⟨e,-⟩
   ·exact e
   ·rw[e]at W;exact Zz rfl W
  refine⟨_,rfl,al.ey (λq=>?_) (λq=>al.ey (λd6=>?_) (λd6=>λk5 k6=>?_))⟩
  ·rw[Zx q]at u
   have c5:(S.add n).2.l.length<=S.l.length+1:=g0;refine⟨_,_,_,_,_,_,_,_,_,_,_,_,ae v rfl,ae v rfl,ae v rfl,ae v rfl,ae v rfl,ae v rfl,ae v rfl,ae v rfl,ae v rfl,ae v rfl,PA.mk λk7 d7 o3 k8=>?_⟩;have g1:nu.In k7 E ⟨n,xa,xn,xc⟩:=⟨((d4.af a2).keep a5 λb a=>d5 b a).af d7,b4⟩
   have g2:=J.af d7;refine g2.push tO g1 (λb a=>⟨.inl a,by have:=(A b a).1;have:=d7.size;omega,λj=>?_,λj=>by have:=J.nF b j;have:=(A b a).1;omega,λm=>by have:=(J.nA b m).1;have:=(A b a).1;omega⟩) k8 oM λa' c' o4 O g3 m6 _=>⟨_,_,_,rfl,_,oM,d+1,_,_,_,M,Db,N,O,an oM,oM,rfl,g3,?_,?_,?_,b3,?_⟩
   ·rcases(J.nM b j).1 with e|e
    ·exact e9 b a e
    ·have:=(A b a).1;omega
   ·rw[Q3];exact u
   ·rw[QX,List.length_singleton];omega
   ·rw[QX,List.length_singleton];omega
   ·rw[QX,List.length_singleton];omega
  ·rw[Zq q,Zx d6]at u
   rw[a9 q]at J;exact⟨_,oM,d+1,S,b,Lo,M,Db,N,Do,an oM,oM,rfl,J,u,V,oM,b3,oM⟩
  ·rw[Zq q,Zq d6]at u
   rw[a9 q]at J;have c6:ai k3 k5:=k6.keep;have c9:=J.af c6;refine⟨p,0,rfl,_,ae (B c9.keep) rfl,ar (bb n xa xn xc) (c6.get v id) (PC.ok (c9.wait (((d4.af a2).keep a5 λb a=>d5 b a).af c6) (λb a=>by have:=(A b a).1;have:=c6.size;omega) b4) ?_)⟩;rintro _ o5 ⟨I,rfl,M',b6,b7,m7⟩;have d8:=CH c.buffer.toNat b n;have g4:(eT c.buffer.toNat b n).2.length<=256:=Xx b7.buf.1.2.le b7.buf.1.1;exact⟨_,rfl,_,oM,d+1,S,_,Lo,M',b6,N,Do,an oM,oM,rfl,b7,u,V,oM,g4,oM⟩
 have o6:d=evs.length:=oM
 rw[List.drop_eq_nil_of_le oM]at u;have d0:C=(S,Lo.map (·.x),b):=u.symm;rw[d0]at r;have b8:Lo.length+b.length<=evs.length+256:=oM
 refine⟨λH oa on oc w'=>∃(S:aq) (b:List ah) (Lo:List (Bx ah)) (M Db Fs Do:UL) (k:Nat),H=b.length/\HA w h.wp c.buffer.toNat M0 D0 E s S b oa on oc Lo w' M Db Fs Do/\b.length<=k/\pM (k+1) S (Lo.map (·.x)) b=iV c X evs/\S.l.length<=X.S.l.length+Lo.length/\Lo.length+b.length<=evs.length+256,
  ⟨_,S,b,Lo,M,Db,Fs,Do,b.length,rfl,i,Q4 _,r.symm,V,b8⟩,?_⟩
 clear i u V f5 b3 f7 b8 j5 j4 d0 r
 rintro H oa on oc _ o7 ⟨S,b,Lo,M,Db,Fs,Do,k,rfl,i,hk,r,V,f7⟩;have o8:=i.keep.size;refine⟨p,0,rfl,_,ae (B i.keep) rfl,PC.ok (i.ready oM) ?_⟩;rintro _ o9 ⟨Y,n2,f6,Z,rfl,g5,d9,k9,g6,l,g7⟩;have p0:=g5.len dC;have d8:=wP S b;have g8:Z.length=(bJ S b).1.length:=by rw[<-d9,Q8]
 have l0:pM (k+1) S (Lo.map (·.x)) b=if(bJ S b).1=[]then(Lo.map (·.x),(bJ S b).2)else pM k (eG (bJ S b).1 S (Lo.map (·.x))).1 (eG (bJ S b).1 S (Lo.map (·.x))).2 (bJ S b).2:=rfl
 rw[l0]at r;have p1:=g7.size;refine⟨_,_,_,rfl,al.ey (λq=>?_) (λq=>?_)⟩
 ·have g9:(bJ S b).1=[]:=QW oM
  rw[Zx g9]at r;rw[<-r];have hM:=l.buf.P_;have l3:=l.buf.Km;obtain⟨U,o,b9,a3,l4,c0,-⟩:=L.fm cg (k:=5) (G':=λb=>M b\/Db b) (C2:=mi p (h.cells c self) h c {X with waits:=(bJ S b).2} X.S.l) (l.keep.mono λb _ a=>c3 b a)
   (λn g=>g.elim (λe=>(l.nM n e).1.imp (c3 n) id) λe=>(l.nD n e).1.imp (a1 n) id) (λn g=>g.elim (hM n) λe=>(l3 n e).1) ⟨M,Db,l.buf,λ_ h=>.inl h,λ_ h=>.inr h⟩ λd G hj hc=>by
    rcases d with _|_|_|_|_|_|_|d<;>first|exact hc|exact Zz rfl hj
  refine Ok.mk ⟨oa,on,oc,Lo,U,o,Do,rfl,l.out,rfl,l.Oy,b9,a3,λn g=>⟨(l.nO n g).2.1,λm=>(l.nA n m).2.2.2.1 g,λQ=>?_⟩,λn g=>⟨(l.nA n g).1,λQ=>?_⟩,by rw[Q8];omega⟩
  ·have e0:F n/\cls n=2:=by
    have:=congrFun (c0 2 dC) n;exact this▸Q
   rcases(l.nO n g).1 with e|e|e
   ·exact(A n e).2 e0.1
   ·have:=(a1 n e).2;rw[e0.2]at this;cases this
   ·have:=e6 n e0.1;omega
  ·rcases l4 n Q with e|e
   ·have:=e6 n e.1;have:=(l.nA n g).1;omega
   ·exact e.elim (l.nA n g).2.1 (l.nA n g).2.2.2.2
 ·have W:(bJ S b).1≠[]:=λm=>by rw[m,ZQ]at g8;omega
  rw[Zq W]at r;obtain⟨k',rfl⟩:∃k',k=k'+1:=⟨k-1,by
   have:0<b.length:=by
    have:=List.length_pos_iff.2 W;omega
   omega⟩
  obtain⟨av,e1⟩:∃av,av=eG (bJ S b).1 S (Lo.map (·.x)):=⟨_,rfl⟩
  rw[<-e1]at r;have h2:Lo.length+Z.length+(bJ S b).2.length<=evs.length+256:=oM
  obtain⟨b2,b3⟩:∃b2,b2=(bJ S b).2:=⟨_,rfl⟩
  rw[<-b3]at r l h2 d8;have e8:=l.buf.Km;obtain⟨x,hR⟩:∃x,x=(bJ S b).1:=⟨_,rfl⟩
  rw[<-hR]at d9 g8 d8 e1;have f8:∀P,aH Y=some P->¬Fs P/\aH oa≠some P:=λP f=>by
   have e:=g6 P f;exact⟨λj=>by have:=i.set.aE P j;omega,λm=>by have:=i.out.aE P m;omega⟩
  have p2:∀P,aH Y=some P->¬Db P:=λP f j=>by
   have e:=g6 P f;have h6:=(i.buf.Km P j).1;omega
  refine⟨λH oa on oc I w'=>∃(d:Nat) (S:aq) (Lo:List (Bx ah)) (Fs Do:UL),I=d/\d<=n2/\H=n2-d/\HA w h.wp c.buffer.toNat M0 D0 E s S b2 oa on oc Lo w' M Db Fs Do/\eG (x.drop d) S (Lo.map (·.x))=av/\S.l.length<=X.S.l.length+Lo.length/\Lo.length+(n2-d)+b2.length<=evs.length+256/\aT nu.kp 57 (λb=>aH Y=some b) w' Y n2 f6 Z/\(∀n∈Z,nu.In w' Db n)/\∀P,aH Y=some P->¬Fs P/\aH oa≠some P,
   ⟨_,0,S,Lo,Fs,Do,rfl,Qj _,rfl,l,e1.symm,V,oM,g5,k9,f8⟩,?_⟩
  rintro H c2 h0 h1 _ _ h3 ⟨d,y,b0,l5,h4,rfl,hj,rfl,K,R,l6,b8,c5,h7,e3⟩;have p3:=K.keep.size;have m8:=K.out.len dC;refine al.dec (λj6=>?_) (λj7=>?_)
  ·obtain⟨n,g⟩:∃n,Z[d]? =some n:=⟨_,Qq oM⟩
   have h8:x[d]? =some n.x:=by rw[<-d9,Q9,g];rfl
   have a8:x.drop d=n.x::x.drop (d+1):=by
    rw[X4 (Qv.1 h8).1]
    congr 1
    exact(Qv.1 h8).2
   have h9:eG (n.x::x.drop (d+1)) y (b0.map (·.x))=if(y.add n.x).1=0 then eG (x.drop (d+1)) (y.add n.x).2 (b0.map (·.x)++[n.x])else eG (x.drop (d+1)) (y.add n.x).2 (b0.map (·.x)):=rfl
   rw[a8,h9]at R;have d1:=h7 n (QZ g);obtain⟨gb,go,es,ha,j8,p4,d3,rfl,-⟩:=(c5.row (bytes:=96) dC ce).el d n g;refine⟨gb,go,ha,oM,oM,bT (es:=aF n.x n.a n.n n.c) (k:=10) (bb _ _ _ _) rfl (λI ht=>by rw[Qx];exact d3 I ht) (PA.mk λp5 l7 p6 l8=>aC (bb n.x n.a n.n n.c) l8 rfl λl9 m0 p7 i0=>ar (bb n.x n.a n.n n.c) i0 ?_)⟩;have a4:ai h3 l9:=l7.new m0 λb a=>.inr (by have a:b=h3.heap.size:=a;omega);have p8:=a4.size;have m1:=K.buf.Km;have i1:=c5.aE;refine PC.ok ((K.af a4).add (d1.keep a4 λ_ _ h=>h).1 (λP f=>⟨by have:=(m1 P f).1;omega,(K.nD P f).2⟩) d1.2 oM) ?_;rintro _ m2 ⟨rfl,e4,T,a6,i2⟩;have p9:=a6.size;have b5:=K.set.aE;have z:=a6.get i0 λj=>by have:=b5 _ j;omega
   have g0:=y.Ai n.x;have c4:=(c5.af a4).keep a6 λP f=>(e3 P f).1;have c7:∀P∈Z,nu.In m2 Db P:=λP f=>((h7 P f).keep a4 λ_ _ h=>h).keep a6 λc8 Q=>(K.nD c8 Q).2;have a7:∀P,aH Y=some P->¬e4 P/\aH c2≠some P:=λP f=>⟨λj=>(i2 P j).elim (e3 P f).1 λe=>by have:=i1 P f;omega,(e3 P f).2⟩
   refine⟨_,rfl,al.ey (λq=>?_) (λq=>?_)⟩
   ·rw[Zx q]at R
    refine⟨_,_,_,_,_,_,_,_,_,_,_,_,ae z rfl,ae z rfl,ae z rfl,ae z rfl,ae z rfl,ae z rfl,ae z rfl,ae z rfl,ae z rfl,ae z rfl,PA.mk λq0 c1 q1 m3=>?_⟩;have i3:=T.af c1;have d2:=T.buf.Km;have q2:=c1.size;refine i3.push tO ((c7 n (QZ g)).keep c1 λ_ _ h=>h) (λP f=>⟨.inr (T.nD P f).1,by have:=(d2 P f).1;omega,(d2 P f).2,(T.nD P f).2,λm=>(T.nA P m).2.2.2.2 f⟩) m3 oM λa' c' q3 O i4 e2 i5=>⟨_,_,_,rfl,_,oM,d+1,_,_,e4,O,an oM,oM,rfl,i4,?_,?_,?_,(c4.af c1).keep e2 λP f m=>(a7 P f).2 m,λP f=>((c7 P f).keep c1 λ_ _ h=>h).keep e2 λc8 Q m=>(T.nA c8 m).2.2.2.2 Q,λP f=>⟨(a7 P f).1,λm=>?_⟩⟩
    ·rw[Q3];exact R
    ·rw[QX,List.length_singleton];omega
    ·rw[QX,List.length_singleton];omega
    ·rcases i5 P m with e|e
     ·exact(a7 P f).2 e
     ·have:=c4.aE P f;omega
   ·rw[Zq q]at R
    have a9:(y.add n.x).2.l.length<=y.l.length:=by
     rcases y.eU n.x with⟨-,e⟩|⟨e,-⟩
     ·rw[e];exact Q4 _
     ·rw[e]at q;exact Zz rfl q
    exact⟨_,oM,d+1,_,b0,e4,h4,an oM,oM,rfl,T,R,oM,oM,c4,c7,a7⟩
  ·rw[List.drop_eq_nil_of_le oM]at R
   have i6:av=(y,b0.map (·.x)):=R.symm;rw[i6]at r;have q4:0<x.length:=by have:=List.length_pos_iff.2 W;rw[<-hR]at this;exact this
   exact⟨b2.length,oM,y,b2,b0,M,Db,l5,h4,k',rfl,K,oM,r,l6,oM⟩
end
structure Ub where
 kind:Int
 n:Int
 now:Int
 cmd:kv
 m:bD
section
variable (c:bK) (self:Int)
def RE(P:bh)(n:Ub):Int×bh:=
 if n.kind=0 then((eO c self P n.cmd).1,(eO c self P n.cmd).2.2)else
 if n.kind=1 then(0,(eX c self P n.n (pick n.now 4611686018427387904)).2)else
 if n.kind=2 then(cx c self P n.m).2 else
 if n.kind=3 then(0,(pJ self P (pick n.now 4611686018427387904)).2)else
 if n.kind=4 then gU c P n.n else
 if n.kind=5 then(0,{P with D:=P.D.Gu n.n})else
 if n.kind=6 then dN c P else(0,P)
end
structure jX (X Y:bh):Prop where
 evs:Y.S.l.length<=X.S.l.length+300\/Y.S.l.length<=16777216
 asked:Y.gB.asked.length<=X.gB.asked.length+1
def jX.refl(n:bh):jX n n:=⟨.inl oM,oM⟩
def Kn{n P:Type}[BEq n][LawfulBEq n](a:n)(b:P):∀(c:List (n×P)),(aI c a b).length<=c.length+1
 |[]=>by simp[aI]
 |(e,f)::d=>by
  unfold aI;split
  ·simp
  ·have:=Kn a b d
   simp;omega
def FB{P c:Type}[BEq P][LawfulBEq P](n:P)(d:c):∀(b:List (P×c)),n∈b.map (·.1)->(aI b n d).map (·.1)=b.map (·.1)
 |[],h=>by simp at h
 |(f,i)::e,h=>by
  unfold aI
  by_cases a:(n==f)=true
  ·rw[Zx a]
   have:=eq_of_beq a;subst this;rfl
  ·rw[Zq a]
   have g:n∈e.map (·.1):=by
    rcases Q2.1 h with h|h
    ·exact Zz (by rw[h];simp) a
    ·exact h
   simp[FB n d e g]
def Ko{n b:Type}[BEq n][LawfulBEq n](P:n):∀(a:List (n×b)),(bQ a P).length<=a.length
 |[]=>by simp[bQ]
 |(d,e)::c=>by
  unfold bQ;split
  ·simp
  ·have:=Ko P c
   simp;omega
def HB(b n:Int)(P:List Int×List (Int×Int))(a:Int)(c:a∈P.2.map (·.1)):(gw b n P a).2.map (·.1)=P.2.map (·.1):=by
 unfold gw;split
 ·exact FB _ _ _ c
 ·rfl
def wQ(b n:Int):∀(a:List Int) (P:List Int×List (Int×Int)),(∀x∈a,x∈P.2.map (·.1))->(a.foldl (gw b n) P).2.map (·.1)=P.2.map (·.1)
 |[],P,_=>rfl
 |x::a,P,c=>by
  have d:=HB b n P x (c x (QV ..));rw[List.foldl_cons,wQ b n a _ λe f=>by rw[d];exact c e (QJ _ f),d]
def kr.RF(n:kr)(P:Int):(n.Tb P).asked.length=n.asked.length:=by
 have b:=wQ n.de P (n.open.take n.open.length) ([],n.asked) λc a=>by
  have a:=List.mem_of_mem_take a;unfold kr.open at a;exact(List.mergeSort_perm _ _).mem_iff.1 a
 have:=Zj List.length b;rw[Q8,Q8]at this;exact this
def ss(n:Nat):∀(b:List ah) (c:aq) (P a:List ah),(gN n b c P a).2.1.length+(gN n b c P a).2.2.length<=P.length+a.length+b.length
 |[],c,P,a=>by simp[gN]
 |e::b,c,P,a=>by
  unfold gN;split
  ·have:=ss n b (c.add e).2 (P++[e]) a
   simp at this⊢;omega
  split
  ·have:=ss n b c P a
   simp;omega
  ·have:=ss n b c P (eT n a e).2
   have:=CH n a e;simp;omega
def rV:∀(P:List ah) (a:aq) (n:List ah),(eG P a n).2.length<=n.length+P.length
 |[],a,n=>by simp[eG]
 |e::P,a,n=>by
  unfold eG;split
  ·have:=rV P (a.add e).2 (n++[e])
   simp at this⊢;omega
  ·have:=rV P (a.add e).2 n
   simp;omega
def FC:∀(k:Nat) (P:aq) (n a:List ah),(pM k P n a).1.length<=n.length+a.length
 |0,P,n,a=>by simp[pM]
 |k+1,P,n,a=>by
  unfold pM;have b:=wP P a;dsimp only;split
  ·simp
  ·have c:=rV (bJ P a).1 P n
   have d:=FC k (eG (bJ P a).1 P n).1 (eG (bJ P a).1 P n).2 (bJ P a).2;omega
def Ce(P:bK)(n:bh)(a:List ah):(iV P n a).1.length<=n.waits.length+a.length:=by
 have b:=ss P.buffer.toNat a (fg P n.S []) [] n.waits;have c:=FC ((gN P.buffer.toNat a (fg P n.S []) [] n.waits).2.2.length+1) (gN P.buffer.toNat a (fg P n.S []) [] n.waits).1 (gN P.buffer.toNat a (fg P n.S []) [] n.waits).2.1 (gN P.buffer.toNat a (fg P n.S []) [] n.waits).2.2;simp at b;unfold iV;dsimp only;omega
def Qe(a:bK)(n:aq)(P:List ah):(fg a n P).l.length<=n.l.length+P.length:=by
 have:=aq.nz (n.l++P) ⟨a.aD.toNat,[]⟩;unfold fg;simp at this⊢;omega
def FD(a:bK)(n:bh)(P:List ah):(dt a n P).2.S.l.length<=n.S.l.length+P.length/\(dt a n P).2.gB=n.gB:=by
 unfold dt
 cases n.log with
 |none=>exact⟨by dsimp only;omega,rfl⟩
 |some b=>
  dsimp only;split
  ·exact⟨by dsimp only;omega,rfl⟩
  split
  ·exact⟨by dsimp only;omega,rfl⟩
  ·exact⟨Qe a n.S P,rfl⟩
def Lj(a:bK)(P:Int)(n:bh)(b:kv):jX n (eO a P n b).2.2:=by
 unfold eO
 cases n.log with
 |none=>exact jX.refl n
 |some c=>
  dsimp only;split
  ·exact jX.refl n
  split
  ·have:=FD a n [(fP a.decl n.S (bR a.decl n.S.l) P a.start b).1]
   simp at this;split
   ·exact⟨.inl dg,by dsimp only;rw[this.2];omega⟩
   ·exact⟨.inl dg,by dsimp only;rw[this.2];omega⟩
  ·exact jX.refl n
def Dh(b:bK)(c:Int)(n:bh)(P:bD)(i:n.waits.length<=256)(j:b.chunk<=32):jX n (cx b c n P).2.2:=by
 unfold cx
 cases n.log with
 |none=>exact jX.refl n
 |some k=>
  dsimp only;split
  ·exact jX.refl n
  rename_i g;split
  ·exact jX.refl n
  split
  ·rename_i h
   have l:P.events.length<=32:=by
    rcases Nat.lt_or_ge 32 P.events.length with f|f
    ·exfalso
     apply g;unfold fh;rw[Zx h];intro a;split at a
     ·cases a
     ·unfold fj at a
      split at a
      ·cases a
      ·rw[Zx (.inr oM)]at a;cases a
    ·exact f
   unfold lE;have m:=Ce b n P.events;dsimp only;split
   ·exact⟨.inl dg,by dsimp only;omega⟩
   ·have d:=FD b {n with waits:=(iV b n P.events).2} (iV b n P.events).1
    dsimp only at d;split
    ·exact⟨.inl dg,by dsimp only;rw[d.2];omega⟩
    ·exact⟨.inl dg,by dsimp only;rw[d.2];omega⟩
  ·have e:(n.gB.Ae P.bM P.vec n.S.vec).asked.length<=n.gB.asked.length+1:=by
    unfold kr.Ae;dsimp only;split
    ·have:=Ko P.bM n.gB.asked;omega
    ·omega
   split
   ·exact⟨.inl dg,e⟩
   split
   ·exact⟨.inl dg,e⟩
   ·exact⟨.inl dg,e⟩
def Li(c:bK)(n:Int)(a:bh)(P b:Int):jX a (eX c n a P b).2:=by
 unfold eX;split
 ·exact jX.refl a
 ·exact⟨.inl dg,Kn _ _ _⟩
def yq(P:bK)(n:bh):(fE P n).2.gB=n.gB:=by
 unfold fE;dsimp only;split<;>rfl
def Dk(P:bK)(n:bh):jX n (dN P n).2:=by
 unfold dN
 cases n.log with
 |none=>exact jX.refl n
 |some a=>
  dsimp only;split
  ·exact⟨.inl dg,by dsimp only;omega⟩
  ·exact⟨.inl dg,by dsimp only;omega⟩
section
variable {w w' w0 w1 w2:World} {p:Nat} {F E Dv:UL} {cls:Nat->Nat} {h:km} {c:bK} {self:Int} {X:bh} {m:bD} {va ea:bc} {vn vc en ec:Nat}
def PY(hr:bX w p F c self X)(he:Env w0 w F){V:dx}(a6:X.log=some V)(c4:Row jh 96 w E ea en m.events)(N:∀n,E n->n<w.heap.size/\¬F n)(a7:m.events.length<=1000)(hl:X.S.l.length<=18000000):
  be 88 #[RK p,iK m va vn vc ea en ec] w (Ok λa5 w'=>∃O d,a5= .tuple #[O,WP (lE c self X m).2.1]/\fO w d (lE c self X m).1 O w'/\bX w' p d c self (lE c self X m).2.2/\cm F w d w'):=by
 obtain⟨f,h,cls,Q⟩:=hr;have R:=Q.aE;refine nU (PA.mk λS q s8 T=>?_);obtain⟨P,U⟩:∃P,P=iV c X m.events:=⟨_,rfl⟩
 have y:∀{z},(if P.1=[]then([Ad X.S self m.bM],0,{X with waits:=P.2})else
   if(dt c {X with waits:=P.2} P.1).1≠0 then([],(dt c {X with waits:=P.2} P.1).1,{(dt c {X with waits:=P.2} P.1).2 with waits:=[]})else([Ad (dt c {X with waits:=P.2} P.1).2.S self m.bM],0,(dt c {X with waits:=P.2} P.1).2))=z->lE c self X m=z:=λ{z} b=>by rw[<-b,U];rfl
 refine⟨λw'=>∃d e,bX w' p d c self e/\cm F w d w'/\(∀n,d n->F n\/S.heap.size<=n)/\w'.heap[w.heap.size]? =some (.cells (ef m va vn vc ea en ec).toArray 92 (0,0))/\lE c self X m=([Ad e.S self m.bM],0,e),?_,?_⟩
 ·refine⟨_,_,_,ae T rfl,PC.ok (PZ (cQ.af Q q) f (c4.af q) (λn a=>⟨by have:=(N n a).1;omega,(N n a).2⟩) a7 hl) ?_⟩
  rw[<-U];rintro _ W ⟨Y,on,oc,Lo,A,b0,Do,rfl,B,Z,c5,b2,g,r,c6,e1⟩;have hn:=B.len dC;have c7:Lo.length=P.1.length:=by rw[<-Z,Q8]
  have b3:=fp.unbox B c5 λn a=>⟨(r n a).1,(r n a).2.1⟩
  rw[Un,Z]at b3;have b4:Row jh 96 W (λn=>aH Y=some n\/Do n) Y on P.1:=b3.row dC ce;have C:cm F w A W:=⟨(ai.keep q).then g.keep,λn a=>(g.new n a).imp id λh1=>oM⟩
  have H:∀n,A n->F n\/S.heap.size<=n:=g.new;have b5:=g.keep.get T λb=>by have:=R _ b;omega
  have c8:=(he.af q).nh g;refine⟨_,_,_,rfl,al.dec (λe0=>?_) (λhz=>?_)⟩
  rotate_left
  ·have b6:P.1=[]:=QW oM
   exact⟨A,{X with waits:=P.2},⟨f,h,b0,b2⟩,C,H,b5,y (Zx b6)⟩
  have b7:P.1≠[]:=λs=>by rw[s,ZQ]at c7;omega
  refine PC.ok (Ka b2 f c8 (V:=V) a6 b4 (λn a=>a.elim (λs=>⟨B.aE n s,λb=>(c6 n s).2 b.1⟩) λb=>⟨(r n b).1,(r n b).2.2⟩) (by show X.S.l.length+_<=_;omega)) ?_;rintro _ c9 ⟨rfl,j,F2,a1,t,I,-⟩;have a0:=C.trans I;have e2:=C.keep.size;refine⟨_,rfl,al.eP (λb8=>?_) (λh0=>?_)⟩
  ·obtain⟨a2,Db,a,hM,hD⟩:=(show Pu c9 (λn=>F2 n/\a1 n=5) j.wp c.buffer.toNat (dt c {X with waits:=P.2} P.1).2.waits from t.at' 5)
   refine⟨p,0,rfl,_,ae (t.at' 0).2 rfl,PC.ok (uW a) ?_⟩;rintro _ e3 ⟨rfl,a3,d0⟩;obtain⟨F3,k,J,l,-⟩:=t.nh cg (k:=5) (G':=a2) (C2:=mi p (j.cells c self) j c {(dt c {X with waits:=P.2} P.1).2 with waits:=[]} (dt c {X with waits:=P.2} P.1).2.S.l) ⟨d0.mono λn _ a=>hM n a,λn a=>.inl (hM n a)⟩ a3.P_ ⟨a2,_,a3,λ_ h=>h,λn a=>a.elim⟩ λa4 G hj hc=>by
    rcases a4 with _|_|_|_|_|_|_|a4<;>first|exact hc|exact Zz rfl hj
   refine⟨rfl,Ok.mk ?_⟩;rw[y ((Zq b7).trans (Zx b8))];exact⟨_,F3,rfl,fO.nil _ _ _,⟨f,j,k,J⟩,a0.trans l⟩
  ·refine⟨F2,(dt c {X with waits:=P.2} P.1).2,⟨f,j,a1,t⟩,a0,λn a=>(I.new n a).elim (H n) λK=>.inr (by have:=g.keep.size;omega),I.keep.get b5 λb=>?_,y ((Zq b7).trans (Zq (by simpa using h0)))⟩
   rcases H _ b with K|K
   ·have:=R _ K;omega
   ·omega
 ·rintro _ d1 ⟨d,e,d2,L,e4,d3,d4⟩ b9 d5
  obtain⟨-,h',o,M⟩:=d2;have u:ai d1 b9:=d5.keep;have i:=cQ.af M u;refine⟨p,0,rfl,_,ae i.bw rfl,p,0,rfl,_,ae i.bw rfl,_,ae (u.get d3 id) rfl,PC.ok (JN (i.at' 3).1) ?_⟩;rintro _ d6 ⟨a8,n2,c2,G,rfl,c1,hG,v⟩;have c3:=c1.aE;have e5:=L.keep.size;have z2:=u.size;have d7:=v.size;refine⟨_,_,_,_,_,_,_,_,_,rfl,PA.mk λd8 x e6 d9=>?_⟩;have hm:bl b9 [Ad e.S self m.bM] (.slice (UV d6.heap.size) 1 1) d8:=bl.one (D:=G) d9 ⟨(c1.af x).row dC (by show e.S.vec.length*8<=aP;rw[e.S.bI];have:e.S.n<=64:=(i.at' 3).1.1.n;unfold aP;omega),di _ _⟩ (λn a=>⟨hG n a,by have:=c3 n a;omega,by have:=c3 n a;omega⟩) d7 (v.then x);rw[d4];exact Ok.mk ⟨_,d,rfl,hm.out i.aE oM,⟨f,h',o,cQ.af i (v.then x)⟩,((L.keep.af u).af v).af x,L.new⟩
end
section
variable {w w' w0 w1 w2:World} {p:Nat} {F E Dv:UL} {cls:Nat->Nat} {h:km} {c:bK} {self:Int} {X:bh} {m:bD} {va ea:bc} {vn vc en ec:Nat}
def jW.Lg(n:jW c self):1<=c.chunk/\c.chunk<=32:=by
 have:=n.right;unfold fJ within at this;simp only[QK,Zk]at this;omega
def Ir(hr:bX w p F c self X)(he:Env w0 w F)(V:Row aO 8 w Dv va vn m.vec)(f4:∀n,Dv n->n<w.heap.size/\¬F n)(c8:Row jh 96 w E ea en m.events)(hE:∀n,E n->n<w.heap.size/\¬F n)(hl:X.S.l.length<=18000000):
  be 54 #[RK p,iK m va vn vc ea en ec] w (Ok λW w'=>∃q e,W= .tuple #[q,WP (cx c self X m).2.1]/\fO w e (cx c self X m).1 q w'/\bX w' p e c self (cx c self X m).2.2/\cm F w e w'):=by
 have b0:=hr;obtain⟨x,h,cls,f⟩:=hr;have I:=f.aE;obtain⟨f5,h9,i0⟩:=x.aD;have i1:=x.Lg;refine mf (PA.mk λw8 Y s8 g8=>?_);have h8:=cQ.af f Y;have no:∀{w1:World} {g:Int},ai w w1->cx c self X m=([],g,X)->Ok (λW w'=>∃q e,W= .tuple #[q,WP (cx c self X m).2.1]/\fO w e (cx c self X m).1 q w'/\bX w' p e c self (cx c self X m).2.2/\cm F w e w') (.returned (.tuple #[.slice none 0 0,WP g])) w1:=λ{w1 g} J Z=>by
  rw[Z];exact Ok.mk ⟨_,F,rfl,fO.nil _ _ _,b0.af J,ai.keep J,λn P=>.inl P⟩
 refine⟨p,0,rfl,_,ae h8.bw rfl,jy Tryz.underlying110 ⟨_,rfl,?_⟩⟩;have c9:DL w (λn=>F n/\cls n=2) h.dp h.lp X.D X.log:=f.at' 2
 cases y:X.log with
 |none=>
  obtain⟨Fd,-,-,i⟩:=c9;rw[y]at i;have i:h.lp=none:=i;rw[i];exact al.tt rfl (no Y (by unfold cx;rw[y]))
 |some a8=>
 obtain⟨a9,a0,a6,-⟩:=DL.PX (y▸c9) (he.sub λn P=>P.1) λn P=>I n P.1;have K:∀{r},(if fh m c.aD.toNat c.chunk≠0 then([],fh m c.aD.toNat c.chunk,X)else if m.nk≠self then([],1,X)else if m.kind=3 then lE c self X m else
   if m.kind≠4 then(k_ X.S self m c.chunk,0,{X with gB:=X.gB.Ae m.bM m.vec X.S.vec})else
   if X.S.missing m.vec c.chunk=[]then([],0,{X with gB:=X.gB.Ae m.bM m.vec X.S.vec})else([⟨3,self,m.bM,[],X.S.missing m.vec c.chunk⟩],0,{X with gB:=X.gB.Ae m.bM m.vec X.S.vec}))=r->cx c self X m=r:=λ{r} k=>by rw[<-k];unfold cx;rw[y]
 rw[a0];refine al.ff rfl λf7 d0=>?_;have L:ai w f7:=Y.then d0.keep;have d1:=cQ.af f L;have d2:=(d0.keep (S:=λ_=>False)).get g8 id;refine ar (eW m va vn vc ea en ec) d2 ⟨p,0,rfl,_,ae d1.bw rfl,p,0,rfl,_,ae d1.bw rfl,?_⟩;rw[f5];refine PC.ok (PN (V.af L) (c8.af L) oM) ?_;rintro _ i2 ⟨rfl,d3⟩;have a1:=L.then d3;have f9:=cQ.af f a1;have d4:=d3.get d2 id;refine⟨_,rfl,al.eP (λs=>no a1 (K (Zx s))) (λs=>⟨_,ae d4 rfl,p,0,rfl,_,ae f9.bw rfl,λg0 d5=>?_⟩)⟩;have j:ai w g0:=a1.then d5.keep;have i3:=cQ.af f j;have b8:=(d5.keep (S:=λ_=>False)).get d4 id;have b9:¬fh m c.aD.toNat c.chunk≠0:=by simpa using s
 refine al.eP (λM=>no j (K ((Zq b9).trans (Zx M)))) (λM=>⟨_,ae b8 rfl,al.ey (λi=>?_) (λi=>λd6 d7=>?_)⟩)
 ·have Z:=K (((Zq b9).trans (Zq (by simpa using M))).trans (Zx i))
  have d8:m.events.length<=1000:=by
   have b:=s;unfold fh at b;simp only at b;rw[Zx i]at b;split at b
   ·cases b
   ·unfold fj at b
    split at b
    ·cases b
    split at b
    ·cases b
    ·omega
  refine ar (eW m va vn vc ea en ec) b8 (PC.ok (PY (b0.af j) (he.af j) y (c8.af j) (λn P=>⟨by have:=(hE n P).1;have:=j.size;omega,(hE n P).2⟩) d8 hl) ?_);rintro _ i4 ⟨q,e,rfl,b1,g1,b2⟩;have g2:=b1;obtain⟨a2,n2,c2,a7,D,rfl,o2,o3,o4,o5,o6⟩:=b1;refine⟨_,_,_,_,rfl,Ok.mk ?_⟩;have c0:=j.size;rw[Z];exact⟨_,e,rfl,⟨a2,n2,c2,a7,D,rfl,o2,o3,o4,λn P=>⟨by have:=(o5 n P).1;omega,(o5 n P).2⟩,λn P=>⟨by have:=(o6 n P).1;omega,(o6 n P).2⟩⟩,g1,(ai.keep j).then b2.keep,λn P=>(b2.new n P).imp id λb=>oM⟩
 ·have c1:ai w d6:=j.then d7.keep
  have N:=cQ.af f c1;have c4:=(d7.keep (S:=λ_=>False)).get b8 id;have d9:ep d6 h.tp (λn=>F n/\cls n=6) X.gB:=N.at' 6;have fQ:=(N.at' 3).1;have nS:¬(F p/\cls p=6):=λg=>by have:=g.2;rw[f.J_.2]at this;cases this
  have e0:¬(F w.heap.size/\cls w.heap.size=6):=λg=>by have:=I _ g.1;omega
  refine⟨λn=>F n/\cls n=6,p,0,rfl,nS,_,ae N.bw rfl,e0,_,ae c4 rfl,e0,_,_,_,ae c4 rfl,p,0,rfl,_,ae N.bw rfl,PC.ok (mq fQ) ?_⟩;rintro _ g3 ⟨a2,n2,c2,G,rfl,e1,z,hG⟩;have hN:X.S.n<=64:=fQ.1.n;have g4:Row aO 8 g3 G a2 n2 X.S.vec:=e1.row dC (by rw[X.S.bI];unfold aP;omega);have i5:=c1.size;have i6:=z.size;have A:=c1.then z;refine⟨_,_,_,rfl,ai.keep z,PC.ok (Kb (d9.af z) ((V.af A).qJ) g4.qJ λ_=>dy.2 λn P k=>?_) ?_⟩
  ·have:=hG n (e1.self n P);have:=I n k.1;omega
  rintro _ c5 ⟨G6,rfl,a3,b3⟩;obtain⟨O,d,B,a,-⟩:=(cQ.af f A).nh cg (k:=6) (G':=G6) (C2:=mi p (h.cells c self) h c {X with gB:=X.gB.Ae m.bM m.vec X.S.vec} X.S.l) b3 a3.aE a3 λa4 G hj s=>by
   rcases a4 with _|_|_|_|_|_|_|a4<;>first|exact s|exact Zz rfl hj
  have l:cm F w O c5:=⟨(ai.keep A).then a.keep,λn P=>(a.new n P).imp id λb=>by have:=A.size;omega⟩
  have Q:=a.keep.get (z.get c4 id) λk=>by have:=I _ k;omega
  have b4:=(V.af A).keep a.keep λn P=>(f4 n P).2;have i7:=l.keep.size;have c6:=λ{r} k=>K (r:=r) (((Zq b9).trans (Zq (by simpa using M))).trans ((Zq i).trans k));refine⟨_,rfl,b3.keep,_,ae Q rfl,al.eP (λR=>λe2 g5=>?_) (λR=>λe3 g6=>?_)⟩
  ·have C:ai c5 e2:=g5.keep
   have t:=cQ.af B C;have i8:=C.size;refine⟨p,0,rfl,_,ae t.bw rfl,p,0,rfl,_,ae t.bw rfl,ar (eW m va vn vc ea en ec) (C.get Q id) ⟨p,0,rfl,_,ae t.bw rfl,PC.ok (Kc (t.at' 3).1 (show X.S.l.length<=20000000 by omega) (b4.af C)) ?_⟩⟩;rintro _ g7 c7;obtain⟨a5,S,c3,rfl⟩:=c7.sl;have b5:ai e2 g7:=by obtain⟨_,_,_,_,_,_,_,_,_,_,_,J⟩:=c7;exact J
   refine⟨_,_,_,rfl,Ok.mk ?_⟩;rw[c6 (Zx R)];exact⟨_,O,rfl,c7.out t.aE oM,⟨x,h,d,cQ.af t b5⟩,(l.keep.af C).af b5,l.new⟩
  ·have o:ai c5 e3:=g6.keep
   have H:=cQ.af B o;have i9:=o.size;refine⟨p,0,rfl,_,ae H.bw rfl,_,_,_,ae (o.get Q id) rfl,p,0,rfl,_,ae H.bw rfl,PC.ok (yT (H.at' 3).1 (by show X.S.l.length<=_;omega) (b4.af o)) ?_⟩;rintro _ e4 ⟨a5,S,c3,G3,rfl,T,u,g9⟩;have e5:=T.len dC;have b6:=T.aE;have e6:=cQ.af H u;have j0:=u.size;have d8:(X.S.missing m.vec c.chunk).length<=32:=by
    unfold aq.missing;rw[Qy];omega
   change aT jh 57 G3 e4 a5 S c3 (X.S.missing m.vec c.chunk)at T
   refine⟨_,_,_,rfl,al.dec (λh7=>λe7 h0=>?_) (λhz=>Ok.mk ?_)⟩
   ·have e8:X.S.missing m.vec c.chunk≠[]:=λg=>by
     have b7:S=(X.S.missing m.vec c.chunk).length:=e5;rw[g,ZQ]at b7;omega
    have v:ai e4 e7:=h0.keep;have e9:=cQ.af e6 v;have j1:=v.size;refine⟨p,0,rfl,_,ae e9.bw rfl,_,ae (v.get (u.get (o.get Q id) id) id) rfl,PA.mk λh2 U j2 h6=>Ok.mk ?_⟩;have hm:bl e3 [⟨3,self,m.bM,[],X.S.missing m.vec c.chunk⟩] (.slice (UV e7.heap.size) 1 1) h2:=bl.one (m:=⟨3,self,m.bM,[],X.S.missing m.vec c.chunk⟩) (va:=none) (vn:=0) (vc:=0) (D:=G3) h6 ⟨di _ _,((T.af v).af U).row dC ce⟩ (λn P=>⟨g9 n P,by have:=b6 n P;omega,by have:=b6 n P;omega⟩) oM ((u.then v).then U);rw[c6 ((Zq (by simpa using R)).trans (Zq e8))];exact⟨_,O,rfl,hm.out H.aE oM,⟨x,h,d,cQ.af e9 U⟩,(((l.keep.af o).af u).af v).af U,l.new⟩
   ·have f2:X.S.missing m.vec c.chunk=[]:=QW (by
     have b7:S=(X.S.missing m.vec c.chunk).length:=e5;omega)
    rw[c6 ((Zq (by simpa using R)).trans (Zx f2))];exact⟨_,O,rfl,fO.nil _ _ _,⟨x,h,d,e6⟩,(l.keep.af o).af u,l.new⟩
end
section
variable {w w' w0 w1 w2:World} {p:Nat} {F E Dv:UL} {cls:Nat->Nat} {h:km} {c:bK} {self:Int} {X:bh}
def OH(O:bX w p F c self X)(t:Env w0 w F)(Q:aK e):
  be 37 #[RK p,WP e] w (Ok λR w'=>∃r,R= WP (gU c X e).1/\bX w' p r c self (gU c X e).2/\cm F w r w'/\(gU c X e).2.S.l.length<=16777216):=by
 obtain⟨B,h,cls,s⟩:=O;have b8:=s.aE;have b9:=s.J_;have u:bg w F cls (recC p (yh h c self h.lp (UV h.sp) (UV h.bp)) {h with lp:=none} c {X with log:=none} false):=
  ⟨λk=>by
   have d:=s.at' k;rcases k with _|_|_|_|_|_|_|k<;>first|exact d|trivial|(intro S;cases S)|(obtain⟨Fd,g,v,T⟩:=d;exact⟨Fd,g,v,rfl⟩),s.aE⟩
 obtain⟨Fd,U,m,-⟩:=(show DL w (λn=>F n/\cls n=2) h.dp none X.D none from u.at' 2)
 refine nR ⟨p,0,rfl,_,ae (u.at' 0).2 rfl,PC.ok (Ma U Q) ?_⟩;rintro _ V ⟨C,rfl,E,H⟩;obtain⟨W,Y,x,o,-⟩:=u.nh iw (k:=2) (G':=C) (C2:=recC p (yh h c self h.lp (UV h.sp) (UV h.bp)) {h with lp:=none} c {X with log:=none,D:=X.D.ej e} false) ⟨H.keep.mono λn _ P=>m n P,λn P=>(H.new n P).imp (m n) id⟩ (λn P=>E.aE n P) ⟨C,E,λn P=>P,rfl⟩ λa G i d=>by
  rcases a with _|_|_|_|_|_|_|a<;>first|exact d|exact Zz rfl i
 obtain⟨I,Db,P,J,hD⟩:=(show Pu V (λn=>W n/\Y n=5) h.wp c.buffer.toNat X.waits from x.at' 5)
 refine⟨rfl,p,0,rfl,_,ae (x.at' 0).2 rfl,PC.ok (uW P) ?_⟩;rintro _ c1 ⟨rfl,K,Z⟩;obtain⟨j,f,b,l,-⟩:=x.nh iw (k:=5) (G':=I) (C2:=recC p (yh h c self h.lp (UV h.sp) (UV h.bp)) {h with lp:=none} c {X with log:=none,D:=X.D.ej e,waits:=[]} false) ⟨Z.mono λn _ P=>J n P,λn P=>.inl (J n P)⟩ K.P_ ⟨I,_,K,λ_ h=>h,λn P=>P.elim⟩ λa G i d=>by
  rcases a with _|_|_|_|_|_|_|a<;>first|exact d|exact Zz rfl i
 refine⟨rfl,p,0,rfl,_,ae (b.at' 0).2 rfl,PC.ok (Kd (b.at' 6)) ?_⟩;rintro _ y ⟨rfl,a3,L⟩;have z:bg y j f (recC p (yh h c self h.lp (UV h.sp) (UV h.bp)) {h with lp:=none} c {X with log:=none,D:=X.D.ej e,waits:=[],gB:=⟨X.gB.de,[],[]⟩} false):=b.same iw (k:=6) L a3 λa G i d=>by
  rcases a with _|_|_|_|_|_|_|a<;>first|exact d|exact Zz rfl i
 have M:cm F w j y:=by
  have g:=o.trans l;exact⟨g.keep.new (L.mono λn _ P=>P.1) λn P=>g.new n P,g.new⟩
 have a5:=t.nh M;have b3:=DL.uI (show DL y (λn=>j n/\f n=2) h.dp none (X.D.ej e) none from z.at' 2) (a5.sub λn P=>P.1);refine⟨rfl,p,0,rfl,_,ae (z.at' 0).2 rfl,PC.ok (OS t.laid b3) ?_⟩;rintro _ c2 ⟨rfl,a0,b4⟩;obtain⟨G2,b5,a6,b6,-⟩:=DL.Oc (Y:=λ_=>False) (a0.mono λn P=>P.elim id False.elim) b4;obtain⟨c3,b7,a7,a1,-⟩:=z.nh iw (k:=2) (G':=G2) (C2:=recC p (yh h c self h.lp (UV h.sp) (UV h.bp)) {h with lp:=none} c {X with log:=none,D:=dq (X.D.ej e),waits:=[],gB:=⟨X.gB.de,[],[]⟩} false) a6 b6 (by
   obtain⟨Fd,g,v,T⟩:=b5;exact⟨Fd,g,v,rfl⟩) λa G i d=>by
  rcases a with _|_|_|_|_|_|_|a<;>first|exact d|exact Zz rfl i
 have N:=M.trans a1;refine⟨rfl,PC.ok (yU (h:={h with lp:=none}) (z1:=h.lp) (z2:=UV h.sp) (z3:=UV h.bp) a7 B (t.nh N)) ?_⟩;rintro _ c4 ⟨rfl,a8,h',r,q,A,a9⟩;exact⟨_,rfl,Ok.mk ⟨r,rfl,⟨B,h',q,A⟩,N.trans a9,a8⟩⟩
def Rv(r:bX w p F c self X)(s:aK e):
  be 42 #[RK p,WP e] w (Ok λt w'=>∃k,t= .tuple #[]/\bX w' p k c self {X with D:=X.D.Gu e}/\cm F w k w'):=by
 obtain⟨u,h,cls,f⟩:=r;obtain⟨Fd,v,g,a⟩:=(show DL w (λn=>F n/\cls n=2) h.dp h.lp X.D X.log from f.at' 2)
 refine oN ⟨p,0,rfl,_,ae f.bw rfl,PC.ok (Pf s v) ?_⟩;rintro _ l ⟨rfl,x,i⟩;have y:cQ l F cls p h c self {X with D:=X.D.Gu e}:=bg.same f cg (k:=2) (i.keep.mono λn _ P=>g n P) (by
  refine⟨Fd,x,g,?_⟩;show match X.log with
   |none=>h.lp=none
   |some j=>j.bf≠[]/\∃b d,h.lp=some ⟨b,0,none⟩/\jt l h.dp b d j/\∀n,d n->(F n/\cls n=2)/\¬Fd n
  cases m:X.log with
  |none=>rw[m]at a;exact a
  |some j=>
   rw[m]at a;obtain⟨z,b,d,A,B,o⟩:=a;exact⟨z,b,d,A,B.keep i.keep λn P=>(o n P).2,o⟩) λq G C E=>by
  rcases q with _|_|_|_|_|_|_|q<;>first|exact E|exact Zz rfl C
 exact⟨rfl,Ok.mk ⟨F,rfl,⟨u,h,cls,y⟩,i.keep.mono λn _ P=>(g n P).1,λn P=>.inl P⟩⟩
def DZ{V:dx}{D:ak}{l:List ah}{size:Int}(P:(aS V D l size).no=0):(aS V D l size).V.bf≠[]:=by
 revert P
 unfold aS;split
 ·rename_i n;intro h;exact Zz h n
 split
 ·rename_i n;intro h;exact Zz h n
 ·exact CC
def Iw(R:bX w p F c self X)(A:Env w0 w F)(hl:X.S.l.length<=18000000):
  be 38 #[RK p] w (Ok λa2 w'=>∃S,a2= WP (dN c X).1/\bX w' p S c self (dN c X).2/\cm F w S w'):=by
 have a6:=R;obtain⟨T,h,cls,m⟩:=R;have a8:=m.aE;refine mg ⟨p,0,rfl,_,ae m.bw rfl,jy Tryz.underlying110 ⟨_,rfl,?_⟩⟩;have U:DL w (λn=>F n/\cls n=2) h.dp h.lp X.D X.log:=m.at' 2
 cases k:X.log with
 |none=>
  obtain⟨Fd,-,-,g⟩:=U;rw[k]at g;have g:h.lp=none:=g;rw[g];have o:dN c X=(15,X):=by unfold dN;rw[k]
  rw[o];exact al.tt rfl (Ok.mk ⟨F,rfl,a6,cm.refl _ _⟩)
 |some a=>
 obtain⟨y,d,B,-⟩:=DL.PX (k▸U) (A.sub λn P=>P.1) λn P=>a8 n P.1;have C:∀{i},(if(aS a X.D X.S.l c.bj).no≠0 then((aS a X.D X.S.l c.bj).no,{X with D:=(aS a X.D X.S.l c.bj).D})else(0,{X with D:=(aS a X.D X.S.l c.bj).D,log:=some (aS a X.D X.S.l c.bj).V}))=i->dN c X=i:=λ{i} E=>by rw[<-E];unfold dN;rw[k]
 rw[d];refine al.ff rfl λw9 d9=>?_;have V:ai w w9:=d9.keep;have l:=cQ.af m V;have W:=m.J_;have H:¬(F p/\cls p=2):=λq=>by have:=q.2;rw[W.2]at this;cases this
 refine⟨λn=>F n/\cls n=2,p,0,rfl,H,_,ae l.bw rfl,p,0,rfl,H,_,ae l.bw rfl,p,0,rfl,_,ae l.bw rfl,p,0,rfl,H,_,ae l.bw rfl,PC.ok (sd (l.at' 3).1 oM) ?_⟩;rintro _ r ⟨b6,b7,cc,G,rfl,Y,I,hG⟩;have z:=cQ.af l I;have s:=V.then I;have a9:=Y.aE;obtain⟨Z,f,-,J⟩:=DL.PX (show DL r (λn=>F n/\cls n=2) h.dp h.lp X.D (some a)from k▸z.at' 2) ((A.af s).sub λn P=>P.1) λn P=>z.aE n P.1;have E:Z=y:=by rw[d]at f;cases f;rfl
 subst E;refine⟨_,_,_,rfl,ai.keep I,?_⟩;rw[d];refine PC.ok (IU A.laid J (Y.row dC ce) a9 oM) ?_;have a0:=DZ (V:=a) (D:=X.D) (l:=X.S.l) (size:=c.bj);generalize aS a X.D X.S.l c.bj=i at C a0;rintro _ a3 ⟨K,a4,b0,a5,⟨t,rfl,b1⟩|⟨t,q3,rfl,b2⟩⟩
 ·obtain⟨Fd,h1,h2,g,h4⟩:=b1
  have L:∀n,¬(n<r.heap.size/\¬(F n/\cls n=2))->(F n/\cls n=2)\/r.heap.size<=n:=λn P=>by
   rcases Nat.lt_or_ge n r.heap.size with M|M
   ·exact .inl (Classical.byContradiction λh8=>P ⟨M,h8⟩)
   ·exact .inr M
  have a1:aj (λn=>F n/\cls n=2) r a3:=a5.mono λn b8 P=>(L n P).resolve_right oM;obtain⟨N,j,e,u,-⟩:=z.fm cg (k:=2) (G':=λn=>Fd n\/K n) (C2:=mi p (h.cells c self) h c {X with D:=i.D} X.S.l) a1 (λn P=>P.elim (λv=>L n λh6=>(g n v).2 (.inl h6)) λv=>L n (b0 n v).2) (λn P=>P.elim (h1.aE n) (a4.aE n)) (by
    refine⟨Fd,h1,λn P=>.inl P,?_⟩;show match X.log with
     |none=>h.lp=none
     |some a=>a.bf≠[]/\∃y Fl,h.lp=some ⟨y,0,none⟩/\jt a3 h.dp y Fl a/\∀n,Fl n->(Fd n\/K n)/\¬Fd n
    rw[k];exact⟨B,Z,K,d,a4,λn P=>⟨.inr P,λhd=>(g n hd).2 (.inr P)⟩⟩) λx G O o=>by
   rcases x with _|_|_|_|_|_|_|x<;>first|exact o|exact Zz rfl O
  refine⟨_,_,rfl,a1,al.ey (λQ=>Zz Q t) (λ_=>Ok.mk ?_)⟩;rw[C (Zx t)];exact⟨N,rfl,⟨T,h,j,e⟩,(ai.keep s).then u.keep,λn P=>(u.new n P).imp id λv=>by have:=s.size;omega⟩
 ·obtain⟨G2,b3,u,b4,hY⟩:=DL.Hw b2 a5 (a0 t)
  obtain⟨N,j,e,b,-⟩:=z.nh cg (k:=2) (G':=G2) (C2:=mi p (h.cells c self) {h with lp:=UV q3} c {X with D:=i.D,log:=some i.V} X.S.l) u b4 b3 λx G O o=>by
   rcases x with _|_|_|_|_|_|_|x<;>first|exact o|exact Zz rfl O
  refine⟨_,_,rfl,u.keep,al.ey (λ_=>⟨p,0,rfl,PS.mk (e.at' 0).2 sM λb9 a7 c0 b5=>Ok.mk ?_⟩) (λQ=>Zz rfl Q)⟩;rw[C (Zq (by simpa using t))];exact⟨N,rfl,⟨T,{h with lp:=UV q3},j,cQ.store e a7 b5⟩,((ai.keep s).then b.keep).then (a7.mono λn _ q=>by have q:n=p:=q;rw[q];exact W.1),λn P=>(b.new n P).imp id λv=>by have:=s.size;omega⟩
end
variable{c5:List bu}{v:bc}{S:aR}
section
variable {w w' w0 w1 w2:World} {p:Nat} {F E D:UL} {c:bK} {self:Int}
def eY(c:bK)(n:bc)(tn P:Nat)(a:bc)(b d:Nat):List Value:=[WP c.aD,WP c.uI,WP c.bj,WP c.chunk,WP c.buffer,WP c.de,WP c.every,WP c.start,.slice n tn P,.slice a b d]
abbrev xi(c:bK)(n:bc)(tn P:Nat)(a:bc)(b d:Nat):Value:=.agg (eY c n tn P a b d).toArray
def Iy(c:bK)(n:bc)(tn P:Nat)(a:bc)(b d:Nat):iA LL 27 (eY c n tn P a b d)=true:=kR
def pB{n P a:Int}:be 79 #[WP n,WP P,WP a] w (Ok λb w'=>b= .bool (within n P a)/\w=w'):=by
 refine vk (al.dec (λc=>Ok.mk ⟨?_,rfl⟩) (λc=>Ok.mk ⟨?_,rfl⟩))
 ·simp[within];omega
 ·simp[within];omega
def Qa{tn z A B:Nat}:be 47 #[xi c d tn z v A B,WP self] w (Ok λj w'=>j= .bool (fJ c self)/\ai w w'):=by
 refine zy (PA.mk λw1 s I P=>?_);have J:∀{k l m:Int} {o:Bool->Prop} {t:List PanicEntry->ba},o (within k l m)->∃p u x,(Value.func (.func 79) #[] #[])= .func (.func p) u x/\enters LL p=true/\PC LL p (u++ #[WP k,WP l,WP m]++x) w1 (λC E=>∃(y:Bool),C= .bool y/\E=w1/\o y) t:=λ{k l m o t} q=>by
  refine⟨_,_,_,rfl,kR,PC.ok pB ?_⟩;rintro _ _ ⟨rfl,rfl⟩;exact⟨_,rfl,rfl,q⟩
 have no:fJ c self=false->Ok (λj w'=>j= .bool (fJ c self)/\ai w w') (.returned (.bool false)) w1:=λF=>Ok.mk ⟨by rw[F],s⟩;have a:fJ c self=(within c.aD 1 64&&(within self 0 (c.aD-1)&&(within c.uI 64 262144&&(decide (c.bj>=1)&&(decide (c.every>=1)&&(within c.chunk 1 32&&(within c.buffer 1 256&&(within c.de 1 1048576&&decide (c.start>=0))))))))):=by
  unfold fJ;simp only[Bool.and_assoc]
 refine⟨_,ae P rfl,_,_,_,rfl,kR,PC.ok pB ?_⟩;rintro _ _ ⟨rfl,rfl⟩;refine⟨_,rfl,al.mk (λn=>⟨_,ae P rfl,_,_,_,rfl,kR,PC.ok pB ?_⟩) (λn=>no (by rw[a,n];rfl))⟩;have H:IntKind.wrap .i64 (c.aD-1)=c.aD-1:=wrap_i64 (by have:=bN.1 n;unfold aK;omega);rw[H];rintro _ _ ⟨rfl,rfl⟩;refine⟨_,rfl,al.mk (λb=>⟨_,ae P rfl,_,_,_,rfl,kR,PC.ok pB ?_⟩) (λb=>no (by rw[a,n,b];rfl))⟩;rintro _ _ ⟨rfl,rfl⟩;refine⟨_,rfl,al.mk (λe=>⟨_,ae P rfl,al.mk (λf=>⟨_,ae P rfl,al.mk (λg=>⟨_,ae P rfl,_,_,_,rfl,kR,PC.ok pB ?_⟩) (λg=>no (by rw[a,n,b,e,f,g];rfl))⟩) (λf=>no (by rw[a,n,b,e,f];rfl))⟩) (λe=>no (by rw[a,n,b,e];rfl))⟩;rintro _ _ ⟨rfl,rfl⟩;refine⟨_,rfl,al.mk (λh=>⟨_,ae P rfl,_,_,_,rfl,kR,PC.ok pB ?_⟩) (λh=>no (by rw[a,n,b,e,f,g,h];rfl))⟩;rintro _ _ ⟨rfl,rfl⟩;refine⟨_,rfl,al.mk (λi=>⟨_,ae P rfl,_,_,_,rfl,kR,PC.ok pB ?_⟩) (λi=>no (by rw[a,n,b,e,f,g,h,i];rfl))⟩;rintro _ _ ⟨rfl,rfl⟩;refine⟨_,rfl,al.mk (λr=>⟨_,ae P rfl,Ok.mk ⟨by rw[a,n,b,e,f,g,h,i,r];rfl,s⟩⟩) (λr=>no (by rw[a,n,b,e,f,g,h,i,r];rfl))⟩
def SY{n P:Nat}(a:S.types[n]? =some c5)(c:P<c5.length):S.DY (n:Int) (P:Int)=c5[P]? :=by
 have d:=(Qv.1 a).1;have b:S.at (n:Int)=c5:=by
  unfold aR.at;rw[Zx (bN.2 ⟨oM,oM⟩),Qx,QQ,a];rfl
 unfold aR.DY;rw[b,Zx (by simp only[QK,bN];exact⟨⟨oM,oM⟩,oM,oM⟩),Qx]
end
section
variable {w w' w0 w1 w2:World} {p:Nat} {F E D:UL} {c:bK} {self:Int}
def MO{tn tc L pc:Nat}(g:bt w D S d tn v L)(hD:∀n,D n->n<w.heap.size):
  be 49 #[.agg #[.slice d tn tc,.slice v L pc]] w (Ok λc4 w'=>∃t Nw a2 c u j G,c4= .agg #[.slice t Nw a2,.slice c u j]/\bt w' G S t Nw c u/\(∀n,G n->w.heap.size<=n/\n<w'.heap.size)/\ai w w'):=by
 have f5:=g.aX.len;have b8:=g.aX.eR;have f7:=g.FQ.len;have f9:=g.FQ.eR;refine xo (PA.mk λM k4 s4 g4=>PA.mk λw5 k5 s5 g5=>⟨_,_,_,ae (k5.get g4 id) rfl,?_⟩);have x:=k4.then k5;refine vW (aT.nil (c:=Jj) (e:=156) w5) RU (g.FQ.af x) (λn P=>⟨by have:=hD n P;omega,λa=>by cases a⟩) (by rw[ZQ];unfold aP at*;omega) (by rw[ZQ];unfold aP at*;unfold maxLen;omega) λc j e Fp d1 k8 j6 d2=>⟨_,_,_,rfl,PA.mk λj7 g0 j8 g1=>PS.mk g1 sM λj9 g2 k0 g3=>PS.mk g3 sM λr g6 k1 g7=>?_⟩
 rw[List.nil_append,Xz]at d1;have a9:=d1.alone;have b9:∀n,aH c=some n->w5.heap.size<=n/\n<e.heap.size:=λn P=>⟨(d2 n P).elim False.elim id,a9.aE n P⟩
 have z8:=k8.size;have y:ai w5 e:=k8.mono λn _ a=>by cases a
 have z:ai e r:=(g0.new g2 λn P=>.inr (by have P:n=e.heap.size:=P;omega)).new g6 λn P=>.inr (by have P:n=e.heap.size:=P;omega);have b0:ai w r:=(x.then y).then z;have gp:=z.get (y.get (k5.get g4 id) id) id;have gr:=z.get (y.get g5 id) id;have b1:r.heap[e.heap.size]? =some (.cells #[.slice none 0 0,.slice c (0+L) j] 25 (0,0)):=g7;rw[Xz]at b1;have k2:=z.size;refine⟨_,_,_,ae gp rfl,λA a3 w'=>∃h:Nat,a3=h/\h<=tn/\A=tn-h/\aj (·=e.heap.size) r w'/\∃N O oc Q,w'.heap[e.heap.size]? =some (.cells #[.slice N O oc,.slice c L j] 25 (0,0))/\aT ns 88 Q w' N O oc (S.types.take h)/\∀n,Q n->r.heap.size<=n,
  ⟨_,0,rfl,Qj _,rfl,aj.refl _,none,0,0,λ_=>False,b1,aT.nil _,λ_ g=>g.elim⟩,?_⟩
 rintro A _ _ R ⟨h,rfl,hj,rfl,s,N,O,oc,Q,T,l,B⟩;have U:ai w R:=b0.new s λn P=>.inr (by have P:n=e.heap.size:=P;have:=x.size;have:=y.size;omega);have zk:=s.size;have b2:=s.get gp λa=>by have a:w.heap.size=e.heap.size:=a;have:=k4.size;omega
 refine al.dec (λk3=>?_) (λk6=>?_)
 ·have g8:h<S.types.length:=oM
  have V:S.types[h]? =some S.types[h]:=Qq g8;generalize S.types[h]=m at V;obtain⟨n,d5,es,ha,P,k7,d6,fa,fn,fc,rfl,W⟩:=(g.aX.af U).el h m V;have c0:=d6 0 dC;have g9:ns.k=1:=rfl;rw[g9,Nat.mul_one]at c0;have h0:=W.len;have c2:=W.eR;refine⟨n,d5,ha,oM,oM,fa,fn,fc,by rw[Qx];exact c0,PA.mk λk9 h3 l0 h4=>PS.mk h4 sM λi h6 l3 h7=>PA.mk λl4 d3 l5 h8=>PS.mk h8 sM λC d4 l6 h9=>?_⟩;have p:ai R C:=((h3.new h6 λn P=>.inr (by have P:n=R.heap.size:=P;omega)).then d3).new d4 λn P=>.inr (by have P:n=i.heap.size:=P;omega);have d7:=d4.get (d3.get h7 id) oM;have e3:=p.get b2 id;have l7:=p.size;have e4:=U.then p;refine⟨_,_,_,ae d7 rfl,λA a3 w'=>∃f:Nat,a3=f/\f<=fn/\A=fn-f/\aj (·=i.heap.size) C w'/\∃E F X Y,w'.heap[i.heap.size]? =some (.cells #[.slice E F X] 88 (0,0))/\aT tR 85 Y w' E F X (m.take f)/\∀n,Y n->C.heap.size<=n,
   ⟨_,0,rfl,Qj _,rfl,aj.refl _,none,0,0,λ_=>False,h9,aT.nil _,λ_ g=>g.elim⟩,?_⟩
  rintro A _ _ d8 ⟨f,rfl,hk,rfl,q,E,F,X,Y,gx,o,H⟩;have zx:=q.size;have b3:ai w d8:=e4.new q λn P=>.inr (by have P:n=i.heap.size:=P;have:=U.size;omega);have b4:=q.get e3 λa=>by have a:w.heap.size=i.heap.size:=a;have:=aA b2;omega
  refine al.dec (λj4=>?_) (λj5=>?_)
  ·have d9:f<m.length:=oM
   have I:m[f]? =some m[f]:=Qq d9;have a4:=SY V d9;rw[I]at a4;obtain⟨fb,fo,e6,-,-,-,-,ya,yn,yc,rfl,-,b5⟩:=(W.af p).el f m[f] I;generalize m[f]=J at I a4 b5;refine⟨_,_,_,_,_,_,ae b4 rfl,ae b4 rfl,PC.ok (pC (g.af b3) λn P=>by have:=hD n P;have:=b3.size;omega) ?_⟩;rw[a4];rintro _ e0 ⟨e1,Z,a0,cc,Fm,rfl,c3,e2⟩;have e8:=c3.aE;have l8:=e1.size;refine cu (Ke J Z a0 cc) ⟨_,rfl,PA.mk λl9 i0 m0 i1=>aC (gJ J Z a0 cc) i1 rfl λi2 i3 m1 a7=>?_⟩;have a5:ai e0 i2:=i0.new i3 λn P=>.inr (by have P:n=e0.heap.size:=P;omega);have b6:=e1.then a5;have e9:=b6.get gx id;refine⟨_,_,_,ae e9 rfl,_,_,_,_,_,_,ae a7 rfl,ae a7 rfl,ae a7 rfl,ae a7 rfl,PA.mk λi4 e5 m2 i5=>?_⟩;have a1:=b6.then e5;have f0:=(c3.af a5).af e5;have m3:=c3.len dC;have a8:Row kO 32 i4 Fm Z a0 J.bL:=f0.row dC (by
    obtain⟨_,_,_,_,_,_,_,_,_,_,hq,a8,_⟩:=(W.af p).el f J I;have h1:=a8.eR;have h2:=a8.len;rw[<-h2];exact h1)
   refine fN (c:=tR) (x:=J) (o.af a1) Vu i5 (D:=Fm) ⟨Z,a0,cc,rfl,a8,b5⟩ (λn P=>⟨by have:=e8 n P;have:=a5.size;omega,λa=>by have:=o.aE n (o.self n a);have:=e2 n P;omega⟩) (by rw[Qy];unfold aP at*;omega) (by rw[Qy];unfold aP at c2;unfold maxLen;omega) λa' c' m4 K f1 c5 c6=>⟨_,_,_,rfl,?_⟩
   have i6:¬aH E=some i.heap.size:=λa=>by have:=H _ (o.self _ a);omega
   have m5:=a1.size;have m6:=c5.size;have b:∀n,K n->C.heap.size<=n:=λn P=>by
    rcases c6 n P with k|k|k
    ·exact H n k
    ·have:=e2 n k;omega
    ·omega
   refine PS.mk (c5.get (a1.get gx id) i6) sM λm7 e7 m8 i7=>⟨_,oM,f+1,an (by unfold aP at c2;omega),oM,rfl,((q.af a1).new c5 λn P=>.inr (H n (o.self n P))).then e7,a',F+1,c',K,i7,?_,b⟩
   rw[Qw,I];exact f1.keep e7 λn P a=>by have a:n=i.heap.size:=a;have:=b n P;omega
  ·rw[Qz oM]at o
   have i8:aj (·=i.heap.size) C d8:=q;have b7:=q.get (p.get T id) λa=>by have a:e.heap.size=i.heap.size:=a;have:=aA T;omega
   refine⟨_,_,_,ae b7 rfl,_,_,_,ae gx rfl,PA.mk λi9 c7 m9 j0=>?_⟩;have a6:ai R i9:=(p.new q λn P=>.inr (by have P:n=i.heap.size:=P;omega)).then c7;refine fN (c:=ns) (x:=m) (l.af a6) QU j0 (D:=Y) ⟨E,F,X,rfl,(o.af c7).row dC (by rw[<-h0];exact c2)⟩ (λn P=>⟨by have:=o.aE n P;omega,λa=>by have:=l.aE n (l.self n a);have:=H n P;omega⟩) (by rw[Qy];unfold aP at*;omega) (by rw[Qy];unfold aP at b8;unfold maxLen;omega) λa' c' n0 K f2 c8 c6=>⟨_,_,_,rfl,?_⟩
   have j1:¬aH N=some e.heap.size:=λa=>by have:=B _ (l.self _ a);omega
   have n1:=a6.size;have n2:=c8.size;have b:∀n,K n->r.heap.size<=n:=λn P=>by
    rcases c6 n P with k|k|k
    ·exact B n k
    ·have:=H n k;omega
    ·omega
   refine PS.mk (c8.get (c7.get b7 id) j1) sM λn3 c1 n4 j2=>⟨_,oM,h+1,an (by unfold aP at b8;omega),oM,rfl,((s.af a6).new c8 λn P=>.inr (B n (l.self n P))).then c1,a',O+1,c',K,j2,?_,b⟩
   rw[Qw,V];exact f2.keep c1 λn P a=>by have a:n=e.heap.size:=a;have:=b n P;omega
 ·rw[Qz oM]at l
  have z5:=y.size;have f3:=s.get gr λa=>by have a:M.heap.size=e.heap.size:=a;omega
  have f6:=((a9.af z).keep s λn P a=>by have a:n=e.heap.size:=a;have:=b9 n P;omega)
  refine⟨_,_,_,_,_,_,ae T rfl,ae T rfl,PS.mk f3 sM λn8 c9 n9 j3=>PS.mk j3 sM λo0 d0 o1 f4=>⟨_,_,_,_,_,_,ae f4 rfl,ae f4 rfl,Ok.mk ⟨_,_,_,_,_,_,λn=>Q n\/aH c=some n,rfl,⟨?_,?_⟩,?_,?_⟩⟩⟩
  ·exact(((l.row (bytes:=24) dC (by rw[<-f5];exact b8)).keep (c9.then d0) λn P a=>by have a:n=M.heap.size:=a;have:=B n P;omega)).mono λn P=>.inl P
  ·exact(((f6.row (bytes:=40) dC (by rw[<-f7];exact f9)).keep (c9.then d0) λn P a=>by have a:n=M.heap.size:=a;have:=b9 n P;omega)).mono λn P=>.inr P
  ·rintro n (P|P)
   ·have:=B n P;have:=l.aE n P;have:=x.size;have:=b0.size;omega
   ·have:=b9 n P;have:=x.size;omega
  ·exact U.new (c9.then d0) λn P=>.inr (by have P:n=M.heap.size:=P;have:=k4.size;omega)
end
section
variable {w w':World} {D D' S:UL} {d:aR} {ta pa:bc} {tn tc pn pc:Nat}
def tF(n:bu):Bool:=if n.kind==4 then !within n.bL.length 1 16 else decide (0<n.bL.length)
def CI(n:List bu):Bool:=!within n.length 1 8||n.any tF
def Kt{n:j->Bool}{P:List j}{b:j}(c:P[a]? =some b)(d:(P.take a).any n=false)(e:n b=false):(P.take (a+1)).any n=false:=by
 rw[Qw,c,List.any_append,d];simp[e]
def MX{P:j->Bool}{b:List j}{n:j}(c:b[a]? =some n)(d:P n=true):b.any P=true:=List.any_eq_true.2 ⟨n,QZ c,d⟩
def fZ{e:Type}{f:e->Int}:∀{P:List e} {a:Nat} {b:e},P[a]? =some b->cK f (P.take a)=0->cK f (P.take (a+1))=f b
 |[],a,b,n,_=>by simp at n
 |y::P,0,b,n,_=>by simp at n;subst n;simp[cK];intro n;exact n.symm
 |y::P,a+1,b,n,c=>by
  simp only[Zw,cK]at c⊢;split at c
  ·rename_i d;simp at d;exact Zz c d
  ·rename_i d;rw[Zq d];exact fZ (by simpa using n) c
def pF{a:Type}{P:a->Int}:∀{l:List a} {j:Nat},cK P (l.take j)≠0->cK P l=cK P (l.take j)
 |[],j,n=>by simp at n⊢
 |y::l,0,n=>by simp[cK]at n
 |y::l,j+1,n=>by
  simp only[Zw,cK]at n⊢;split
  ·rfl
  ·rename_i b;rw[Zq b]at n;exact pF n
def Ku(b:bt w D d ta tn pa pn):be 76 #[.agg #[.slice ta tn tc,.slice pa pn pc]] w (Ok λc w'=>c= .bool (rU d)/\ai w w'):=by
 have r:=b.aX.len;have s:=b.aX.eR;have hp:=b.FQ.len;unfold aP at s;refine Du (PA.mk λY t s1 u=>⟨_,_,_,ae u rfl,PC.ok cD ?_⟩);rintro _ _ ⟨rfl,rfl⟩;refine⟨_,rfl,al.not (al.mk (λg=>⟨_,_,_,ae u rfl,al.dec (λZ=>Ok.mk ⟨?_,t⟩) (λZ=>⟨_,_,_,ae u rfl,λh j w'=>∃P:Nat,j=P/\P<=tn/\h=tn-P/\(d.types.take P).any CI=false/\ai Y w',⟨_,0,rfl,Qj _,rfl,sM,aj.refl _⟩,?_⟩)⟩) (λg=>Ok.mk ⟨?_,t⟩))⟩
 ·unfold rU;rw[<-r,g,Zx cS]
 rotate_left
 ·unfold rU;rw[<-r,g];rfl
 have v:rU d=d.types.any CI:=by unfold rU CI tF;rw[<-r,g,Zq cS]
 rintro h j _ w2 ⟨P,rfl,hj,rfl,x,K⟩;have k:=t.then K;refine al.dec (λa8=>?_) (λa9=>?_)
 rotate_left
 ·rw[Qz oM]at x
  exact Ok.mk ⟨by rw[v,x],k⟩
 obtain⟨y,z,A,es,rfl,_,_,B,e,a2,f,c1,rfl,C⟩:=((b.af k).aX).AV (i:=P) oM;have L:=C.len;have a0:=C.eR;unfold aP at a0;have M:=e 0 dC;simp only[ns,Nat.mul_one,Nat.add_zero]at M;refine⟨y,z,rfl,oM,oM,_,_,_,M,PA.mk λw3 k3 s3 g3=>PS.mk g3 sM λl k4 s4 N=>⟨_,_,_,ae N rfl,PC.ok cD ?_⟩⟩;rintro _ _ ⟨rfl,rfl⟩;have m:ai w2 l:=k3.new k4 λy s=>.inr oM;have E:CI A=true->Ok (λc w'=>c= .bool (rU d)/\ai w w') (.returned (.bool true)) l:=λn=>Ok.mk ⟨by rw[v,MX B n],k.then m⟩;refine⟨_,rfl,al.not (al.mk (λF=>⟨_,_,_,ae N rfl,λh j w'=>∃i:Nat,j=i/\i<=f/\h=f-i/\(A.take i).any tF=false/\ai l w',⟨_,0,rfl,Qj _,rfl,sM,aj.refl _⟩,?_⟩) (λF=>E (by unfold CI;rw[<-L,F];rfl)))⟩;rintro m' t' _ w5 ⟨i,rfl,hi,rfl,H,o⟩;have a3:=(k.then m).then o;refine al.dec (λa6=>?_) (λa7=>?_)
 rotate_left
 ·rw[Qz oM]at H
  exact⟨_,oM,P+1,an oM,oM,rfl,Kt B x (by unfold CI;rw[<-L,F,H];rfl),(K.then m).then o⟩
 obtain⟨b2,a1,p,b0,rfl,_,_,O,a4,Q,R,S,rfl,T,b1,b3⟩:=((C.af m).af o).AV (i:=i) oM;have U:=T.len;have a5:=T.eR;unfold aP at a5;refine⟨b2,a1,rfl,oM,oM,bT (gJ p Q R S) rfl a4 (PA.mk λw6 k6 s6 g6=>aC (gJ p Q R S) g6 rfl λI k7 s7 J=>⟨_,ae J rfl,?_⟩)⟩;have V:ai w5 I:=k6.new k7 λy s=>.inr oM;have W:tF p=true->Ok (λc w'=>c= .bool (rU d)/\ai w w') (.returned (.bool true)) I:=λn=>Ok.mk ⟨by rw[v,MX B (by unfold CI;rw[MX O n];simp)],a3.then V⟩;have next:tF p=false->∃X,X<f-i/\∃q:Nat,IntKind.wrap .i64 ((i:Int)+1)=q/\q<=f/\X=f-q/\(A.take q).any tF=false/\ai l I:=λn=>
  ⟨_,oM,i+1,an oM,oM,rfl,Kt O H n,o.then V⟩
 refine al.ey (λa=>⟨_,_,_,ae J rfl,PC.ok cD ?_⟩) (λa=>al.not (al.ey (λe=>Zz e a) (λ_=>⟨_,_,_,ae J rfl,al.dec (λb=>W ?_) (λb=>next ?_)⟩)))
 ·rintro _ _ ⟨rfl,rfl⟩
  refine⟨_,rfl,al.not (al.mk (λn=>al.not (al.ey (λ_=>next ?_) (λe=>Zz a e))) (λn=>W ?_))⟩
  ·unfold tF;rw[a,<-U,n];rfl
  ·unfold tF;rw[a,<-U,n];rfl
 ·unfold tF;rw[Zq (by simpa using a)];simp only[Zk];omega
 ·unfold tF;rw[Zq (by simpa using a)];simp only[decide_eq_false_iff_not];omega
def Hx(hT:fy w)(f:bt w D d ta tn pa pn)(hD:∀P,D P->P<w.heap.size):
  be 46 #[.agg #[.slice ta tn tc,.slice pa pn pc]] w (Ok λB w'=>B= WP (dj d)/\ai w w'):=by
 have hl:=f.aX.len;have e:=f.aX.eR;have b1:=f.FQ.len;have a6:=f.FQ.eR;unfold aP at e a6;refine Bg (PA.mk λw1 U s1 C=>⟨_,_,_,_,_,_,ae C rfl,ae C rfl,PC.ok (Ku (f.af U)) ?_⟩);rintro _ w2 ⟨rfl,V⟩;have W:=U.then V;have X:=V.get C id;refine⟨_,rfl,al.mk (λt=>Ok.mk ⟨by unfold dj;rw[t];rfl,W⟩) (λt=>⟨_,_,_,ae X rfl,λj a w'=>∃n:Nat,a=n/\n<=tn/\j=tn-n/\cK (λa=>cK (fM a) a) (d.types.take n)=0/\ai w2 w',⟨_,0,rfl,Qj _,rfl,rfl,aj.refl _⟩,?_⟩)⟩;rintro j a _ Y ⟨n,rfl,hj,rfl,u,E⟩;have v:=W.then E;have Z:=E.get X id;have F:∀{w':World},ai w w'->∀n b,d.types[n]? =some b->cK (λa=>cK (fM a) a) (d.types.take n)=0->∀x:Int,cK (fM b) b=x->x≠0->Ok (λB w'=>B= WP (dj d)/\ai w w') (.returned (WP x)) w':=by
  intro w' a2 n b y h0 x hr h;have k:=fZ y h0;rw[hr]at k;have h2:=pF (l:=d.types) (j:=n+1) (by rw[k];exact h);refine Ok.mk ⟨?_,a2⟩;unfold dj;rw[t,h2,k];simp[h]
 refine al.dec (λb2=>?_) (λb3=>⟨_,_,_,ae Z rfl,λj a w'=>∃i:Nat,a=i/\i<=pn/\j=pn-i/\cK (mJ d) (d.projs.take i)=0/\ai Y w',⟨_,0,rfl,Qj _,rfl,rfl,aj.refl _⟩,?_⟩)
 ·obtain⟨P,H,I,es,rfl,_,_,y,hc,b4,n1,c1,rfl,z⟩:=((f.af v).aX).AV (i:=n) oM
  have b5:=z.len;have a7:=z.eR;unfold aP at a7;have a0:=hc 0 dC;simp only[ns,Nat.mul_one,Nat.add_zero]at a0;refine⟨P,H,rfl,oM,oM,_,_,_,a0,PA.mk λw4 o s4 g4=>PS.mk g4 sM λJ K s5 A=>⟨_,_,_,ae A rfl,λj a w'=>∃i:Nat,a=i/\i<=n1/\j=n1-i/\cK (fM I) (I.take i)=0/\ai J w',⟨_,0,rfl,Qj _,rfl,rfl,aj.refl _⟩,?_⟩⟩;have a8:ai Y J:=o.new K λP e=>.inr oM;rintro m' t' _ L ⟨i,rfl,hi,rfl,c,l⟩;have p:=a8.then l;refine al.dec (λa3=>?_) (λa9=>?_)
  ·obtain⟨M,N,b,b0,rfl,_,_,m,O,Q,R,S,rfl,hM,b6,b7⟩:=(z.af p).AV (i:=i) oM
   refine⟨M,N,rfl,oM,oM,bT (gJ b Q R S) rfl O (PA.mk λw7 g s7 g7=>aC (gJ b Q R S) g7 rfl λw8 q s8 g8=>⟨_,_,_,ae (q.get (g.get (l.get A id) id) (by have:=l.size;omega)) rfl,ar (gJ b Q R S) g8 (PC.ok (HD (hT.af ?_) (z.af ?_) (hM.af ?_)) ?_)⟩)⟩
   ·exact(v.then p).then (g.new q λP e=>.inr oM)
   ·exact p.then (g.new q λP e=>.inr oM)
   ·exact g.new q λP e=>.inr oM
   ·rintro _ w9 ⟨rfl,k9⟩
    have a4:ai L w9:=aj.then (g.new q λP e=>.inr oM) k9;refine⟨_,rfl,al.eP (λh=>?_) (λT=>⟨_,oM,i+1,an oM,oM,rfl,by rw[fZ m c];exact T,l.then a4⟩)⟩;have k:=fZ m c;exact F ((v.then p).then a4) n I y u _ (by rw[pF (j:=i+1) (by rw[k];exact h),k]) h
  ·rw[Qz oM]at c
   refine⟨_,oM,n+1,an oM,oM,rfl,by rw[fZ y u];exact c,E.then p⟩
 ·rw[Qz oM]at u
  rintro m' t' _ w4 ⟨i,rfl,hi,rfl,c,o⟩;have r:=v.then o;have a1:dj d=cK (mJ d) d.projs:=by unfold dj;rw[t,u];simp
  refine al.dec (λa3=>?_) (λa9=>?_)
  ·obtain⟨M,N,b,b0,rfl,_,_,m,O,rfl,_⟩:=((f.af r).FQ).AV (i:=i) oM
   refine⟨M,N,rfl,oM,oM,bT (qu b) rfl O (PA.mk λJ K s5 A=>aC (qu b) A rfl λL l s6 g6=>?_)⟩;have s:ai w4 L:=K.new l λP e=>.inr oM;have a5:=s.get (o.get Z id) id;refine⟨_,_,_,_,_,_,ae a5 rfl,ae a5 rfl,ar (qu b) g6 (PC.ok (HE (f.af (r.then s)) λP e=>by have:=hD P e;have:=(r.then s).size;omega) ?_)⟩;rintro _ w7 ⟨rfl,g⟩;refine⟨_,rfl,al.eP (λh=>Ok.mk ⟨?_,(r.then s).then g⟩) (λT=>⟨_,oM,i+1,an oM,oM,rfl,by rw[fZ m c];exact T,(o.then s).then g⟩)⟩;rw[a1,pF (j:=i+1) (by rw[fZ m c];exact h),fZ m c]
  ·rw[Qz oM]at c
   exact Ok.mk ⟨by rw[a1,c],r⟩
end
def cB(n:bK)(P:Int):Int×bh:=
 if dj n.decl≠0 then(dj n.decl,(Cc n).2)else if fJ n P=false then(1,(Cc n).2)else Cc n
def WN(a:World)(P:bK)(n:Int)(b:Value)(c:World):Prop:=ai a c/\
 (((cB P n).1≠0/\b= .tuple #[.pointer none,WP (cB P n).1])\/
  ((cB P n).1=0/\∃d e,b= .tuple #[RK d,WP 0]/\bX c d e P n (cB P n).2/\(∀f,e f->a.heap.size<=f)/\(cB P n).2.S.l.length<=16777216))
section
variable {w w' w0 w1 w2:World} {p:Nat} {F E D:UL} {c:bK} {self:Int}
def TZ(hT:fy w0)(hL:Laid w0)(A:ai w0 w){tn Q B R:Nat}(hd:bt w D c.decl d tn v B)(hD:∀n,D n->n<w.heap.size)(hs:aK c.bj)(d4:aK c.every)(d5:aK c.start):
  be 28 #[xi c d tn Q v B R,WP self] w (Ok (WN w c self)):=by
 refine Ds (PA.mk λf5 C f7 E=>⟨_,_,_,_,_,_,ae E rfl,ae E rfl,PC.ok (Hx (hT.af (A.then C)) (hd.af C) λn P=>by have:=hD n P;omega) ?_⟩);rintro _ d6 ⟨rfl,b8⟩;have a3:=C.then b8;have b9:d6.heap[w.heap.size]? =some (.cells (eY c d tn Q v B R).toArray 27 (0,0)):=b8.get E id;refine⟨_,rfl,al.eP (λj=>Ok.mk ⟨a3,.inl ?_⟩) (λS=>ar (Iy c d tn Q v B R) b9 (PC.ok Qa ?_))⟩
 ·have:cB c self=(dj c.decl,(Cc c).2):=by unfold cB;rw[Zx j]
  rw[this];exact⟨j,rfl⟩
 rintro _ T ⟨rfl,c1⟩;have F:=a3.then c1;have U:=c1.get b9 id;refine⟨_,rfl,al.not (al.mk (λl=>?_) (λl=>Ok.mk ⟨F,.inl ?_⟩))⟩
 rotate_left
 ·have:cB c self=(1,(Cc c).2):=by unfold cB;rw[Zq (by simpa using S),Zx l]
  rw[this];exact⟨show(1:Int)≠0 by decide,rfl⟩
 have a4:cB c self=Cc c:=by unfold cB;rw[Zq (by simpa using S),Zq (by rw[l];simp)]
 have c2:jW c self:=⟨l,S,hs,d4,d5⟩
 have c3:=l;unfold fJ within at c3;simp only[QK,Zk]at c3;refine⟨_,ae U rfl,PC.ok (tL (A.then F) oM oM) ?_⟩;rintro _ c4 ⟨dp,rfl,d7,V⟩;obtain⟨Fd,c5,-,d8,-⟩:=d7;have H:∀n,Fd n->T.heap.size<=n/\n<c4.heap.size:=λn P=>⟨Nat.le_of_not_lt (d8 n P).2,c5.aE n P⟩
 have W:=F.then V;have X:=V.get U id;refine⟨_,_,rfl,al.eP (λj=>Zz rfl j) (λ_=>⟨_,_,_,_,_,_,ae X rfl,ae X rfl,PC.ok (MO (hd.af W) λn P=>by have:=hD n P;have:=W.size;omega) ?_⟩)⟩;rintro _ c6 ⟨m,Nw,o,p,q,r,I,rfl,d9,J,K⟩;have c7:=W.then K;have e0:=K.get X id;have f9:=C.size;have g1:=F.size;have g2:=V.size;have g3:=K.size;have g4:=aA E;have e9:w.heap.size<T.heap.size:=aA U;refine⟨_,_,_,_,_,_,rfl,PS.mk e0 (by simp[eY]) λg5 e1 g6 e2=>PS.mk e2 (by simp[eY]) λY e3 g7 e4=>λs c8=>?_⟩;have Z:aj (λn=>n=w.heap.size) c6 Y:=e1.then e3;have L:ai Y s:=c8.keep;have g8:s.heap.size=Y.heap.size:=by rw[c8.heap]
 have b:s.heap[w.heap.size]? =some (.cells (eY c m Nw o p q r).toArray 27 (0,0)):=L.get e4 id;have c9:ai w s:=(c7.new Z λn P=>.inr (by have P:n=w.heap.size:=P;omega)).then L;have g:∀{n:Nat},T.heap.size<=n->n≠w.heap.size:=λ{n} P=>by omega
 refine⟨λ_=>False,id,_,_,_,_,_,_,_,_,_,_,_,_,_,_,ae b rfl,ae b rfl,ae b rfl,ae b rfl,ae b rfl,ae b rfl,ae b rfl,ae b rfl,ae b rfl,ae b rfl,_,ae b rfl,id,_,ae b rfl,PC.ok (KN oM) ?_⟩;rintro _ e5 ⟨h,rfl,d0,f2,f4,b4⟩;refine⟨_,rfl,b4,PC.ok Kf ?_⟩;rintro _ f ⟨tp,M,rfl,a5,N,d1⟩;have g9:=b4.size;have h2:=N.size;have d2:=a5.aE;refine⟨_,rfl,N,PA.mk λb5 O h3 e6=>⟨O,?_⟩⟩
 let e:km:=⟨m,Nw,o,p,q,r,dp,none,0,0,h,tp⟩
 let a2:bh:=⟨⟨c.aD.toNat,[]⟩,gO c.uI.toNat,none,[],⟨c.de,[],[]⟩⟩
 have d3:b5.heap[f.heap.size]? =some (.cells (yh e c self none none none) 116 (0,0)):=e6;have a0:ai s b5:=(b4.then N).then O;have a1:=c9.then a0;have b6:∃t,bg b5 (λn=>∃k,(match k with|0=>n=f.heap.size|1=>I n|2=>Fd n|5=>n=h|6=>M n|_=>False:Prop)) t (recC f.heap.size (yh e c self none none none) e c a2 false):=by
  refine bg.join (G:=λk n=>match k with|0=>n=f.heap.size|1=>I n|2=>Fd n|5=>n=h|6=>M n|_=>False) (λk=>?_) (λi a9 n a hj=>?_) λk n P=>?_
  ·match k with
   |0=>exact⟨rfl,d3⟩
   |1=>exact(((d9.keep Z λn P u=>g (by have:=J n P;omega) u).af L).af a0)
   |2=>exact⟨Fd,((((c5.keep K λ_ _ e=>e).keep Z λn P u=>g (H n P).1 u).keep L λ_ _ e=>e).keep a0 λ_ _ e=>e),λn P=>P,rfl⟩
   |3=>intro u;cases u
   |4=>trivial
   |5=>exact⟨_,_,d0.af (N.then O),λ_ e=>e,λn P=>P.elim⟩
   |6=>exact a5.af O
   |k+7=>trivial
  ·have x:∀i:Nat,(match i with|0=>n=f.heap.size|1=>I n|2=>Fd n|5=>n=h|6=>M n|_=>False:Prop)->i=(if n<c4.heap.size then 2 else if n<c6.heap.size then 1 else if n<e5.heap.size then 5 else if n<f.heap.size then 6 else 0):=λi a=>by
    rcases i with _|_|_|_|_|_|_|i
    ·have a:n=f.heap.size:=a
     rw[Zq oM,Zq oM,Zq oM,Zq oM]
    ·have:=J n a;rw[Zq oM,Zx oM]
    ·have:=H n a;rw[Zx oM]
    ·exact a.elim
    ·exact a.elim
    ·have a:n=h:=a
     rw[Zq oM,Zq oM,Zx oM]
    ·have h5:=d1 n a;have h6:=d2 n a;rw[Zq oM,Zq oM,Zq oM,Zx oM]
    ·exact a.elim
   rw[x i a,<-x a9 hj]
  ·rcases k with _|_|_|_|_|_|_|k
   ·have P:n=f.heap.size:=P
    omega
   ·have:=J n P;omega
   ·have:=H n P;omega
   ·exact P.elim
   ·exact P.elim
   ·have P:n=h:=P
    omega
   ·have:=d2 n P;omega
   ·exact P.elim
 obtain⟨t,hp⟩:=b6;have b7:∀n,(∃k,(match k with|0=>n=f.heap.size|1=>I n|2=>Fd n|5=>n=h|6=>M n|_=>False:Prop))->w.heap.size<=n:=λn ⟨k,P⟩=>by
  rcases k with _|_|_|_|_|_|_|k
  ·have P:n=f.heap.size:=P
   omega
  ·have:=J n P;omega
  ·have:=H n P;omega
  ·exact P.elim
  ·exact P.elim
  ·have P:n=h:=P
   omega
  ·have:=d1 n P;omega
  ·exact P.elim
 refine PC.ok (yU (h:=e) (z1:=none) (z2:=none) (z3:=none) hp c2 ⟨hT,hL,A.then a1,λn P=>by have:=b7 n P;have:=A.size;omega⟩) ?_;rintro _ e7 ⟨rfl,a6,h',F',y,z,a7⟩;have e8:fE c a2=Cc c:=rfl;rw[e8]at z a6⊢;have a8:ai w e7:=a1.new a7.keep λn P=>.inr (b7 n P);refine⟨_,rfl,al.eP (λj=>Ok.mk ⟨a8,.inl ?_⟩) (λhz=>Ok.mk ⟨a8,.inr ?_⟩)⟩
 ·rw[a4];exact⟨j,rfl⟩
 ·rw[a4]
  exact⟨hz,_,F',rfl,⟨c2,h',y,z⟩,λn P=>(a7.new n P).elim (b7 n) λh5=>by have:=a1.size;omega,a6⟩
end
variable{E p:Int}{a7:List bD}{e2:List bh}{g7:Nat×Nat}{c7:bh}
def MP(n:World):(callMethod (.iface 112 (RK a)) "State" #[WP e,WP p]).run LL n= .ok (.enter 392 #[RK a,WP e,WP p]) n:=kR
def Hy(n:World):(callMethod (.iface 112 (RK a)) "Entries" #[]).run LL n= .ok (.enter 390 #[RK a]) n:=kR
def Qb(n:World):(callMethod (.iface 112 (RK a)) "Rows" #[WP e]).run LL n= .ok (.enter 391 #[RK a,WP e]) n:=kR
def Wc(n:aR)(P:List ah)(a b:Int):gF:=match(bR n P).state a b with
 |none=>bS 14
 |some c=>⟨0,(0,0),c,[],[],false⟩
def AZ(a:aR)(b:List ah)(P n:Int):gF:=if P<0\/P>=(a.projs.length:Int)then bS 1 else⟨0,(0,0),⟨0,[]⟩,[],(oy (jq a b P) n 32).1,(oy (jq a b P) n 32).2⟩
section
variable {w w' w0 w1 w2:World} {p:Nat} {F E D:UL} {cls:Nat->Nat} {h:km} {c:bK} {self:Int} {X:bh}
def CD(n:cQ w F cls p h c self X):be 69 #[RK p] w (Ok λP w'=>P= .iface 112 (RK h.bp)/\w=w'):=
 oP ⟨p,0,rfl,_,ae n.bw rfl,Ok.mk ⟨rfl,rfl⟩⟩
def TW(x:bX w p F c self X){a b:Int}:be 40 #[RK p,WP a,WP b] w (Ok λy w'=>fV w (Wc c.decl X.S.l a b) y w'/\ai w w'):=by
 obtain⟨z,h,cls,o⟩:=x;refine qh (PA.mk λA e S B=>PC.ok (CD (cQ.af o e)) ?_);rintro _ _ ⟨rfl,rfl⟩;have C:=cQ.af o e;have n:c_ A h.bp (λP=>F P/\cls P=4) c.decl c.every.toNat X.S.l:=C.at' 4;refine⟨_,rfl,_,_,MP,PC.ok (KM n) ?_⟩;rintro _ q ⟨i,j,k,G,rfl,l,r,f⟩;have E:=l.aE;have T:=f.size;refine⟨_,_,_,_,_,rfl,PA.mk λU H V I=>PS.mk I sM λW J Y K=>PS.mk K sM λL M Z m=>?_⟩;have d:ai q L:=H.new (J.then M) λP n=>.inr (by have n:P=q.heap.size:=n;omega);have s:=d.get (f.get B id) id;have b0:=d.size;have t:(((bR c.decl X.S.l).state a b).getD HM).cells.length<=8:=Ei (HY z.decl X.S.l).1 ⟨0,0,0,[],a,b,0,0,0,0⟩;unfold Wc
 cases N:(bR c.decl X.S.l).state a b with
 |none=>
  refine al.tt rfl (aC (il (bS 14) none 0 0 none 0 0 none 0 0) s rfl λb1 O b2 Q=>ar (il (bS 14) none 0 0 none 0 0 none 0 0) Q (Ok.mk ⟨fV.plain rfl rfl rfl,?_⟩));exact((e.then f).then d).new O λP n=>.inr (by have n:P=w.heap.size:=n;omega)
 |some g=>
  rw[N]at l t m;refine al.ff rfl ⟨_,_,_,_,ae m rfl,ae m rfl,aC (il ⟨0,(0,0),g,[],[],false⟩ i j k none 0 0 none 0 0) s rfl λb3 u b4 R=>ar (il ⟨0,(0,0),g,[],[],false⟩ i j k none 0 0 none 0 0) R (Ok.mk ⟨?_,?_⟩)⟩
  ·refine⟨i,j,k,none,0,0,none,0,0,G,rfl,((l.af d).keep u λP n v=>by have v:P=w.heap.size:=v;have:=r P n;omega).row dC (by have:g.cells.length<=8:=t;show g.cells.length*32<=aP;unfold aP;omega),di _ _,di _ _,λP n=>⟨by have:=r P n;omega,by have:=E P n;omega⟩⟩
  ·exact((e.then f).then d).new u λP n=>.inr (by have n:P=w.heap.size:=n;omega)
def Qc(a:aR)(n:List ah)(b:Int):(jq a n b).length<=n.length:=by
 unfold jq;split
 ·simp
 split
 ·simp
 ·rename_i P c
  have e:=Nj a n P (QZ c);have d:=(yf (P.rows.map (·.2))).length_eq;rw[Q8]at d;show(P.rows.map (·.2)|>.foldr nd []).length<=_;omega
def OI(A:bX w p F c self X){b n:Int}:be 41 #[RK p,WP b,WP n] w (Ok λf w'=>fV w (AZ c.decl X.S.l b n) f w'/\ai w w'):=by
 obtain⟨R,h,cls,B⟩:=A;refine nT (PA.mk λg i S r=>?_);have d:=cQ.af B i;have no:(b<0\/b>=(c.decl.projs.length:Int))->nw LL 44 (RK w.heap.size) (.agg (fU (bS 1) none 0 0 none 0 0 none 0 0).toArray) g λs=>jO LL 44 (RK w.heap.size) s λC=>Ok (λf w'=>fV w (AZ c.decl X.S.l b n) f w'/\ai w w') (.returned C) s:=λE=>by
  refine aC (il (bS 1) none 0 0 none 0 0 none 0 0) r rfl λT H U I=>ar (il (bS 1) none 0 0 none 0 0 none 0 0) I (Ok.mk ⟨?_,i.new H λP a=>.inr (by have a:P=w.heap.size:=a;omega)⟩);unfold AZ;rw[Zx E];exact fV.plain rfl rfl rfl
 have V:=(show bt g (λP=>F P/\cls P=1) c.decl h.ta h.tn h.pa h.pn from d.at' 1).FQ.len;refine al.dec (λj=>no (.inl j)) (λj=>⟨p,0,rfl,_,_,_,ae d.bw rfl,al.dec (λt=>no (.inr oM)) (λt=>PC.ok (CD d) ?_)⟩);rintro _ _ ⟨rfl,rfl⟩;have a:c_ g h.bp (λP=>F P/\cls P=4) c.decl c.every.toNat X.S.l:=d.at' 4;have W:X.S.l.length<=20000000:=a.1.2.2.2;have Y:=Qc c.decl X.S.l b;refine⟨_,rfl,_,_,Qb,PC.ok (Ov a) ?_⟩;rintro _ Z ⟨⟨a0,a1,cc,G,rfl,e,k,hG⟩,J⟩;have hn:=e.len dC;have K:=e.ly;refine⟨_,_,_,rfl,PC.ok (MJ (e.row dC ce) e.aE K J oM) ?_⟩;rintro _ L ⟨a2,rfl,l,m,o,M,rfl,u,q,v⟩;have N:=u.aE;have a9:=k.size;have b0:=q.size;have b1:(oy (jq c.decl X.S.l b) n 32).1.length<=32:=by unfold oy;rw[Qy];omega
 have O:ai w L:=(i.then k).then q;refine⟨_,_,_,_,rfl,aC (il ⟨0,(0,0),⟨0,[]⟩,[],(oy (jq c.decl X.S.l b) n 32).1,(oy (jq c.decl X.S.l b) n 32).2⟩ none 0 0 none 0 0 l m o) (q.get (k.get r id) id) rfl λb2 x b3 Q=>ar (il ⟨0,(0,0),⟨0,[]⟩,[],(oy (jq c.decl X.S.l b) n 32).1,(oy (jq c.decl X.S.l b) n 32).2⟩ none 0 0 none 0 0 l m o) Q (Ok.mk ⟨?_,O.new x λP a=>.inr (by have a:P=w.heap.size:=a;omega)⟩)⟩;unfold AZ;rw[Zq (by rintro(y|y);exact j y;exact t oM)];refine⟨none,0,0,none,0,0,l,m,o,M,rfl,di _ _,di _ _,(u.keep x λP a z=>by have z:P=w.heap.size:=z;have:=v P a;omega).row dC (by show(oy (jq c.decl X.S.l b) n 32).1.length*24<=aP;unfold aP;omega),λP a=>⟨by have:=v P a;omega,by have:=N P a;omega⟩⟩
end
def CW{a:Type}{b:a->Bool}:∀{L:List a} {j:Nat} {n:a},L[j]? =some n->b n=true->(L.filter b)[((L.take j).filter b).length]? =some n
 |[],j,n,P,_=>by simp at P
 |x::L,0,n,P,c=>by simp at P;subst P;simp[c]
 |x::L,j+1,n,P,c=>by
  have d:=CW (L:=L) (j:=j) (by simpa using P) c;rw[Zw,List.filter_cons,List.filter_cons];split
  ·simpa using d
  ·exact d
section
variable {w w' wz A B w1:World} {D:UL} {a:bc} {n c:Nat} {l:List cN} {O R1 R2 f most:Nat} {own L:List (Bx cN)} {pre:List (List Value)}
def VR(a n:Int)(P:cN):Bool:=P.ev.aX==a&&P.ev.agg==n
def Ef{e:cN}{a:bc}{n c:Nat}(i:Row aO 8 w D a n e.ev.aM)(t:∀P,D P->P<w.heap.size):
  be 120 #[FP e a n c] w (Ok λu w'=>∃a n c G,u=FP e a n c/\Row aO 8 w' G a n e.ev.aM/\(∀P,G P->w.heap.size<=P/\P<w'.heap.size)/\ai w w'):=by
 have v:=i.eR;have x:=i.len;refine zN (PA.mk λw1 m A f=>PA.mk λB g C j=>⟨_,_,_,ae (g.get f id) rfl,PC.ok (bV (i.af (m.then g)) λP b=>by have:=t P b;omega) ?_⟩);rintro _ E ⟨o,p,q,G,rfl,r,h,k⟩;have f:=h.get (g.get f id) id;have j:=h.get j id;have F:=h.size;refine⟨_,_,_,rfl,PS.mk f sM λH l I y=>?_⟩;refine ar (cs:=jT e o p q) (ml _ _ _ _) y (aC (ml _ _ _ _) (l.get j (λd=>by have d:w1.heap.size=w.heap.size:=d;omega)) rfl λJ s K z=>ar (ml _ _ _ _) z (Ok.mk ⟨o,p,q,G,rfl,?_,?_,?_⟩))
 ·refine(((r.keep l λP b d=>?_).keep s λP b d=>?_).row (bytes:=8) dC (by rw[<-x];exact v))
  ·have d:P=w.heap.size:=d;have:=k P b;omega
  ·have d:P=w1.heap.size:=d;have:=k P b;omega
 ·intro P b
  have:=k P b;have:=r.aE P b;omega
 ·exact((((m.then g).then h).new l λP b=>.inr (by have b:P=w.heap.size:=b;omega)).new s λP b=>.inr (by have b:P=w1.heap.size:=b;omega))
def Qt{d:cN}{f h:Nat}(j:w.heap[f]? =some (.cells #[WP e] g H))(k:w.heap[h]? =some (.cells #[WP p] q g7)):
  be 119 #[FP d a n c,RK f,RK h] w (Ok λl w'=>l= .bool (VR e p d)/\ai w w'):=by
 refine zM (PA.mk λw1 P m i=>⟨_,ae i rfl,_,ae (P.get j id) rfl,al.mk (λb=>⟨_,ae i rfl,_,ae (P.get k id) rfl,Ok.mk ⟨?_,P⟩⟩) (λb=>Ok.mk ⟨?_,P⟩)⟩)
 ·unfold VR;rw[b];rfl
 ·unfold VR;rw[b];rfl
structure QL (wz:World) (O:Nat) (own:List (Bx cN)) (f most:Nat) (pre:List (List Value)) (A:World):Prop where
 keep:aj (·=O) wz A
 eR:wz.heap.size+2<=A.heap.size
 nj:∃a n c G,A.heap[O]? =some (.cells #[.slice a n c] 41 (0,0))/\aT tJ 60 G A a n c (((own.take pre.length).drop f).map (·.x))/\(∀b,G b->wz.heap.size+2<=b)/\n<=most
structure Xe (wz:World) (O R1 R2:Nat) (own:List (Bx cN)) (f most:Nat) (A:World):Prop where
 keep:aj (λb=>b=O\/b=R1\/b=R2) wz A
 r2:A.heap[R2]? =some (.cells #[.bool true] 4 (0,0))
 more:most<(own.drop f).length
 nj:∃a n c G,A.heap[R1]? =some (.cells #[.slice a n c] 41 (0,0))/\aT tJ 60 G A a n c (((own.drop f).take most).map (·.x))/\(∀b,G b->wz.heap.size+2<=b)
def QL.af(b:QL wz O own f most pre A)(P:ai A B):QL wz O own f most pre B:=by
 obtain⟨d,e,a,n,c,G,g,h,i⟩:=b;exact⟨d.af P,Xx e P.size,a,n,c,G,P.get g id,h.af P,i⟩
def QL.fm(o:O<wz.heap.size)(h:QL wz O own f most pre A)(i:qL (wz.heap.size+1) A B):QL wz O own f most pre B:=by
 obtain⟨j,p,a,n,c,G,k,l,g,m⟩:=h;obtain⟨e,q⟩:=i;exact⟨j.new e λb d=>.inr (by have d:b=wz.heap.size+1:=d;omega),oM,a,n,c,G,e.get k (λP=>by have P:O=wz.heap.size+1:=P;omega),l.keep e λb d P=>by have P:b=wz.heap.size+1:=P;have:=g b d;omega,g,m⟩
def Xe.fm(q:O<wz.heap.size/\R1<wz.heap.size/\R2<wz.heap.size)(h:Xe wz O R1 R2 own f most A){k:Nat}(r:wz.heap.size<=k/\k<=wz.heap.size+1)(i:qL k A B):Xe wz O R1 R2 own f most B:=by
 obtain⟨j,l,m,a,n,c,G,o,p,g⟩:=h;obtain⟨b,s⟩:=i;exact⟨j.new b λd e=>.inr (by have e:d=k:=e;omega),b.get l (λP=>by have P:R2=k:=P;omega),m,a,n,c,G,b.get o (λP=>by have P:R1=k:=P;omega),p.keep b λd e P=>by have P:d=k:=P;have:=g d e;omega,g⟩
def Vk{r s t u:Nat}{R:ba}{Rx:ba}(hO:O<wz.heap.size)(Y:wz.heap[r]? =some (.cells #[WP e] g H))(Z:wz.heap[s]? =some (.cells #[WP p] q g7))(h1:r≠O)(h2:s≠O)(v:∃j f,wz.heap[t]? =some (.cells #[.slice a n c] j f))(h3:t≠O)(w:∃j f,wz.heap[u]? =some (.cells #[.func (.func 119) #[] #[RK r,RK s]] j f))(h4:u≠O)(I:Row Ng.kp 120 wz D a n L)(hD:∀P,D P->P<wz.heap.size/\P≠O)(J:own=L.filter λP=>VR e p P.x)(b6:L.length<=20000000)(hR:∀A B,R A->aj (oH wz) A B->R B)(hy:∀pre l A,QL wz O own f most pre A->R A->tV [WP 0,FP ⟨sB,false,(0,0)⟩ none 0 0] l->(∃P,own[pre.length]? =some P/\l=[WP (pre.length:Int),FP P.x P.a P.n P.c])->ky LL (wz.heap.size+1) l A λP d=>(P=true/\QL wz O own f most (pre++[l]) d/\R d)\/(P=false/\Xe wz O R1 R2 own f most d/\Rx d))(K:QL wz O own f most [] w1)(a4:R w1):
  be 181 #[.func (.yield (wz.heap.size+1)) #[] #[],RK t,RK u] w1 (λj d=>(∃a0,j= .returned a0)/\((R d/\∃k:List (List Value),QL wz O own f most k d/\k.length=own.length)\/(Xe wz O R1 R2 own f most d/\Rx d))):=by
 obtain⟨e3,f3,v⟩:=v;obtain⟨e4,f4,w⟩:=w;have hn:=I.len;refine vJ ⟨_,_,_,ae (K.keep.get v h3) rfl,λM a1 x w'=>∃(b:Nat) (pre:List (List Value)),x=b/\b<=n/\M=n-b/\a1=(pre.length:Int)/\pre.length=((L.take b).filter λP=>VR e p P.x).length/\QL wz O own f most pre w'/\R w',⟨_,0,[],rfl,Qj _,rfl,rfl,rfl,K,a4⟩,?_⟩;rintro M _ _ _ N ⟨b,pre,rfl,hj,rfl,rfl,i,m,Q⟩;refine al.dec (λb7=>?_) (λb8=>?_)
 ·obtain⟨P,h⟩:∃P,L[b]? =some P:=⟨_,Qq oM⟩
  obtain⟨a2,a3,es,ha,a5,a6,y,rfl,-⟩:=(I.keep m.keep λP h=>(hD P h).2).el b P h;have b3:pre.length<=20000000:=by
   rw[i];have h5:=List.length_filter_le (λP:Bx cN=>VR e p P.x) (L.take b);have h6:=List.length_take_le b L;omega
  refine⟨a2,a3,ha,oM,oM,bT (es:=jT P.x P.a P.n P.c) (k:=13) (ml _ _ _ _) rfl (λx ht=>by rw[Qx];exact y x ht) (PA.mk λb9 a7 c1 a8=>aC (ml P.x P.a P.n P.c) a8 rfl λa9 b0 c2 S=>?_)⟩;have T:ai N a9:=a7.new b0 λP h=>.inr (by have h:P=N.heap.size:=h;omega);have z:=m.af T;refine⟨_,ae (z.keep.get w h4) rfl,ar (ml P.x P.a P.n P.c) S ⟨_,_,_,rfl,kR,PC.ok (Qt (z.keep.get Y h1) (z.keep.get Z h2)) ?_⟩⟩;rintro _ b1 ⟨rfl,U⟩;have V:=T.then U;have W:=m.af V;have X:=hR _ _ Q (ai.keep V);refine⟨_,rfl,al.not (al.mk (λo=>?_) (λo=>⟨_,oM,b+1,pre,an oM,oM,rfl,rfl,?_,W,X⟩))⟩
  rotate_left
  ·rw[Qw,h,List.filter_append,i];simp[o]
  refine ar (ml P.x P.a P.n P.c) (U.get S id) ⟨_,rfl,(hy pre _ b1 W X ?_ ⟨P,?_,rfl⟩).mono ?_⟩
  ·exact λφ C=>C pre.length P.x.ev.origin P.x.ev.seq P.x.ev.az P.a P.n P.c P.x.ev.aX P.x.ev.agg P.x.ev.field P.x.ev.op P.x.ev.arg P.x.ev.key P.x.void P.x.FO.1 P.x.FO.2
  ·rw[J,i];exact CW h o
  ·rintro b' d (⟨rfl,E,b5⟩|⟨rfl,F,b2⟩)
   ·refine al.ff rfl ⟨_,oM,b+1,pre++[_],an oM,oM,rfl,?_,?_,E,b5⟩
    ·rw[an oM];simp
    ·rw[Qw,h,List.filter_append,QX,QX,<-i];simp[o]
   ·exact al.tt rfl ⟨⟨_,rfl⟩,.inr ⟨F,b2⟩⟩
 ·rw[Qz oM]at i
  exact⟨⟨_,rfl⟩,.inl ⟨Q,pre,m,by rw[J];exact i⟩⟩
end
section
variable {w w' wz A B w1:World} {D:UL} {a:bc} {n c:Nat} {l:List cN}
def Kg{most:Nat}(J:Row tJ 120 w D a n l)(hD:∀P,D P->P<w.heap.size)(hm:most<=1000)(hl:l.length<=20000000)(k2:aK E):
  be 68 #[.slice a n c,WP e,WP p,WP E,WP (most:Int)] w (Ok λa6 w'=>∃O,a6= .tuple #[O,.bool (jR l e p E most).2]/\pQ tJ 60 w (jR l e p E most).1 O w'):=by
 obtain⟨V,c3,hL,e9⟩:=fp.boxes (N:=Ng) J;have l0:V.length=l.length:=by rw[<-c3,Q8]
 obtain⟨own,q⟩:∃own,own=V.filter λP=>VR e p P.x:=⟨_,rfl⟩
 obtain⟨i,hf⟩:∃i:Nat,i=(max E 0).toNat:=⟨_,rfl⟩
 have c7:own.map (·.x)=l.filter λb=>b.ev.aX==e&&b.ev.agg==p:=by rw[q,<-c3,List.filter_map];rfl
 have f2:jR l e p E most=(((own.drop i).take most).map (·.x),decide (most<(own.drop i).length)):=by
  unfold jR;rw[<-c7,<-hf];simp only[List.map_take,List.map_drop,XZ,Q8]
 rw[f2];have h3:own.length<=20000000:=by rw[q];have:=List.length_filter_le (λP:Bx cN=>VR e p P.x) V;omega
 refine DM (PA.mk λw6 k6 s6 g6=>PA.mk λv k7 s7 g7=>PA.mk λw8 k8 s8 g8=>PA.mk λj k9 s9 g9=>PA.mk λk a0 l3 f5=>PA.mk λm W l4 f7=>PA.mk λf9 Q l5 g0=>?_);have a7:=(((k8.then k9).then a0).then W).then Q;have c8:=a7.get (show v.heap[w6.heap.size]? =_ from g7) id;have k5:(if 0>(if False then(0:Int)else E)then 0 else E)=(i:Int):=by simp;split<;>omega
 refine⟨_,ae ((((k9.then a0).then W).then Q).get g8 id) rfl,?_⟩;have g1:(if 0>E then(0:Int)else E)=(i:Int):=by rw[hf];split<;>omega
 rw[g1];refine PS.mk ((((k9.then a0).then W).then Q).get g8 id) sM λF K l6 g2=>?_;have c9:F.heap[v.heap.size]? =some (.cells #[WP (i:Int)] 3 (0,0)):=g2;have d0:ai w f9:=((k6.then k7).then a7)
 have d1:ai w F:=d0.new K λP d=>.inr (by have d:P=v.heap.size:=d;omega);have d2:=K.get ((k7.then a7).get g6 id) (λb=>by have b:w.heap.size=v.heap.size:=b;omega);have d3:=K.get c8 (λb=>by have b:w6.heap.size=v.heap.size:=b;omega);have d6:=K.get (((a0.then W).then Q).get g9 id) (λb=>by have b:w8.heap.size=v.heap.size:=b;omega);have d7:=K.get ((W.then Q).get f5 id) (λb=>by have b:j.heap.size=v.heap.size:=b;omega);have d9:=K.get (Q.get f7 id) (λb=>by have b:k.heap.size=v.heap.size:=b;omega);have e2:=K.get g0 (λb=>by have b:m.heap.size=v.heap.size:=b;omega);refine PC.ok (φ:=λa6 w'=>a6= .func (.func 181) #[] #[RK F.heap.size,.pointer (some ⟨F.heap.size+1,0,none⟩)]/\w'.heap[F.heap.size]? =some (.cells #[.slice a n c] 41 (0,0))/\(∃b ff,w'.heap[F.heap.size+1]? =some (.cells #[.func (.func 119) #[] #[RK w.heap.size,RK w6.heap.size]] b ff))/\ai F w'/\w'.heap.size=F.heap.size+2)
  (Bl (PA.mk λw3 k3 s3 g3=>PA.mk λw4 k4 s4 g4=>Ok.mk ⟨by rw[s3],k4.get g3 id,⟨_,_,by rw[<-s3];exact g4⟩,k3.then k4,oM⟩)) ?_
 rintro _ wz ⟨rfl,g5,h0,y,sz⟩;have h:=d1.then y;have a8:=y.get d2 id;have a9:=y.get d3 id;have b0:=y.get d6 id;have b1:=y.get c9 id;have L:=y.get d7 id;have M:=y.get d9 id;have X:=y.get e2 id;have Y:m.heap.size<wz.heap.size:=aA X;have d4:j.heap.size<wz.heap.size:=aA L;have d5:k.heap.size<wz.heap.size:=aA M;have b2:∀P,D P->P<wz.heap.size/\P≠m.heap.size:=λP d=>⟨by have:=hD P d;have:=h.size;omega,λb=>by have:=hD P d;omega⟩
 have e3:∀P∈V,Ng.In wz D P:=λP d=>(e9 P d).keep h λ_ _ J=>J;have e4:∀{c0:Nat} {P:Bx cN},own[c0]? =some P->P∈V:=λ{c0 P} d=>by
  have:=QZ d;rw[q]at this;exact(List.mem_filter.1 this).1
 refine⟨_,rfl,181,_,rfl,kR,Unit,(),λ_=>QL wz m.heap.size own i most,λO _ A=>O= .ret/\Xe wz m.heap.size j.heap.size k.heap.size own i most A,
  λf R=>∃P,own[f.length]? =some P/\R=[WP (f.length:Int),FP P.x P.a P.n P.c],λz=>z.length=own.length,?_,λ_ f A B N t=>N.fm Y t,λO f A B hx t=>⟨hx.1,hx.2.fm ⟨Y,d4,d5⟩ ⟨oM,oM⟩ t⟩,?_,?_,?_,?_,trivial⟩
 ·intro w1 hk hs
  refine⟨ai.keep hk,oM,none,0,0,λ_=>False,hk.get X id,?_,λP d=>d.elim,Qj _⟩;simpa using aT.nil w1
 ·rintro _ f A N l7 l8 l9 m0 m1 ta tn tc m2 m3 m4 m5 m6 m7 m8 m9 n0 ⟨P,d,he⟩
  simp only[jT,aF,List.cons_append,List.nil_append,List.cons.injEq,Value.agg.injEq,Array.mk.injEq,Value.int.injEq,XX,Value.bool.injEq,and_true,true_and]at he;obtain⟨rfl,rfl,rfl,rfl,⟨rfl,rfl,rfl⟩,rfl,rfl,rfl,rfl,rfl,rfl,rfl,rfl,rfl⟩:=he;have n1:f.length<own.length:=(Qv.1 d).1;refine PA.mk λn3 h8 n4 h9=>aC (ml P.x P.a P.n P.c) h9 rfl λi0 i1 n8 i2=>?_;have c1:ai A i0:=h8.new i1 λP d=>.inr (by have d:P=A.heap.size:=d;omega);refine⟨ai.keep c1,λb3 t=>?_⟩;have c2:=(N.af c1).fm Y t;have i3:=t.1.get i2 (λb=>by have b:A.heap.size=wz.heap.size+1:=b;omega);have n9:=t.2;have Z:=c2.keep;have c4:∀R:List Value,(((own.take (f++[R]).length).drop i)=if f.length<i then []else((own.take f.length).drop i)++[P]):=λR=>by
   rw[QX,List.length_singleton,Qw,d];have i4:(own.take f.length).length=f.length:=by rw[Qy];omega
   split
   ·rename_i r
    exact List.drop_eq_nil_of_le (by rw[QX,i4];simp;omega)
   ·rename_i r
    rw[List.drop_append_of_le_length oM];rfl
  obtain⟨o,x,C,H,S,G,u,s,r,h6⟩:=c2;have a1:=s.len dC;rw[Q8,XZ,Qy,X2 oM]at a1;refine⟨_,ae (Z.get b1 (λb=>by have b:v.heap.size=m.heap.size:=b;omega)) rfl,al.dec (λo0=>⟨aj.refl _,?_⟩) (λo1=>⟨_,_,_,ae u rfl,_,ae (Z.get b0 (λb=>by have b:w8.heap.size=m.heap.size:=b;omega)) rfl,al.dec (λi5=>?_) (λi6=>λd8 i7=>?_)⟩)⟩
  ·refine⟨o,x,C,H,S,G,u,?_,r,h6⟩
   rw[c4,Zx oM];rw[List.drop_eq_nil_of_le (by rw[Qy];omega)]at s;exact s
  ·have e6:H=most:=oM
   have b4:=Z.get L (λb=>by have b:j.heap.size=m.heap.size:=b;omega);have b5:=Z.get M (λb=>by have b:k.heap.size=m.heap.size:=b;omega);refine⟨_,_,_,ae u rfl,PS.mk b4 sM λo2 e0 o3 i8=>PS.mk (e0.get b5 (λb=>by have b:k.heap.size=j.heap.size:=b;omega)) sM λi9 e1 o4 j0=>?_⟩;have T:aj (λP=>P=j.heap.size\/P=k.heap.size) b3 i9:=(e0.mono λP _ b=>.inl b).then (e1.mono λP _ b=>.inr b);have j1:(own.drop i).take most=(own.take f.length).drop i:=by
    rw[<-e6,a1,List.drop_take]
   refine⟨T.mono λP _ d=>⟨by rcases d with rfl|rfl<;>omega,by rcases d with rfl|rfl<;>omega⟩,.inl rfl,rfl,(o.mono λP _ b=>.inl b).then (T.mono λP _ b=>.inr b),j0,by rw[XZ];omega,C,H,S,G,e1.get i8 (λb=>by have b:j.heap.size=k.heap.size:=b;omega),?_,r⟩;rw[j1];exact s.keep T λP d b=>by have:=r P d;rcases b with rfl|rfl<;>omega
  ·have U:ai b3 d8:=i7.keep
   have c5:=(e3 P (e4 d)).keep Z λP d b=>(b2 P d).2 b;have e7:Row aO 8 d8 D P.a P.n P.x.ev.aM:=c5.1.af U;have e8:P.x.ev.Ok:=c5.2;refine⟨λ_=>False,id,_,_,_,ae (U.get u id) rfl,ar (ml P.x P.a P.n P.c) (U.get i3 id) (PC.ok (Ef e7 λP d=>by have:=(b2 P d).1;have:=U.size;omega) ?_)⟩;rintro _ o5 ⟨f0,n2,f1,G2,rfl,j2,b6,b7⟩;have o6:=U.size;have o7:=b7.size;refine⟨_,_,_,_,_,_,_,_,_,_,_,_,_,_,_,rfl,b7,PA.mk λo8 b8 o9 j3=>⟨b8,?_⟩⟩;have a2:=(U.then b7).then b8;refine fN (c:=tJ) (x:=P.x) (s.af a2) NY j3 (D:=G2) ⟨f0,n2,f1,rfl,j2.af b8,e8⟩ (λP d=>⟨by have:=b6 P d;omega,λb=>by have:=s.aE P (s.self P b);have:=b6 P d;omega⟩) (by rw[Q8,XZ,Qy];unfold aP;omega) (by rw[Q8,XZ,Qy];unfold maxLen;omega) λa' c' p0 F' f3 b9 j4=>⟨_,_,_,rfl,?_⟩
   have g:∀P,aH C=some P->wz.heap.size+2<=P:=λP d=>r P (s.self P d);have j5:¬aH C=some m.heap.size:=λb=>by have:=g _ b;omega
   have p1:=b9.size;have p2:=a2.size;have I:∀P,F' P->wz.heap.size+2<=P:=λP d=>by
    rcases j4 P d with h7|h7|h7
    ·exact r P h7
    ·have:=b6 P h7;omega
    ·omega
   refine PS.mk (b9.get (a2.get u id) j5) sM λj6 e5 p3 j7=>?_;have T:aj (λP=>aH C=some P\/P=m.heap.size) b3 j6:=((ai.keep a2).then (b9.mono λP _ b=>.inl b)).then (e5.mono λP _ b=>.inr b);refine⟨T.mono λP _ d=>⟨?_,?_⟩,⟨(o.new (T.mono λP _ b=>b) λP d=>d.elim (λb=>.inr (by have:=g P b;omega)) .inl),oM,a',H+1,c',F',j7,?_,I,oM⟩⟩
   ·rcases d with d|rfl
    ·have:=g P d;omega
    ·omega
   ·rcases d with d|rfl
    ·have:=g P d;omega
    ·omega
   ·rw[c4,Zq oM,Q3]
    exact f3.keep e5 λP d b=>by have b:P=m.heap.size:=b;have:=I P d;omega
 ·intro f4 Rx hR _ p4 hy w1 j8 f6
  refine Calls.mono (Vk (own:=own) (f:=i) (most:=most) (R:=f4) (Rx:=Rx .ret) (R1:=j.heap.size) (R2:=k.heap.size) Y a8 a9 oM oM ⟨_,_,y.size|>λ_=>g5⟩ oM h0 oM (hL.af h) b2 q oM hR (λf R A N j9 t hN=>(hy () f R A N j9 t hN).mono ?_) j8 f6) ?_
  ·rintro P A' (J|⟨o,O,⟨rfl,x⟩,u⟩)
   ·exact .inl J
   ·exact .inr ⟨o,x,u⟩
  ·rintro b A' ⟨hv,J⟩
   refine⟨hv,?_⟩;rcases J with⟨o,z,x,u⟩|⟨o,x⟩
   ·exact .inl ⟨o,(),z,x,u⟩
   ·exact .inr ⟨.ret,[],⟨rfl,o⟩,x⟩
 ·rintro _ z A N c6 hm
  obtain⟨o,x,C,H,S,G,u,s,r,h6⟩:=N;have a1:=s.len dC;rw[c6,List.take_length]at s;rw[c6,List.take_length,Q8,XZ]at a1;have b4:=o.get L (λb=>by have b:j.heap.size=m.heap.size:=b;omega);have b5:=o.get M (λb=>by have b:k.heap.size=m.heap.size:=b;omega);refine⟨_,_,_,ae u rfl,PS.mk b4 sM λp5 a3 p6 k0=>PS.mk (a3.get b5 (λb=>by have b:k.heap.size=j.heap.size:=b;omega)) sM λp7 a4 p8 k1=>?_⟩;refine⟨a4.get (a3.get hm (λb=>by have b:wz.heap.size=j.heap.size:=b;omega)) (λb=>by have b:wz.heap.size=k.heap.size:=b;omega),λp9 t=>?_⟩;have a5:=t.1;have f8:=a5.get (a4.get k0 (λb=>by have b:j.heap.size=k.heap.size:=b;omega)) (λb=>by have b:j.heap.size=wz.heap.size:=b;omega);have h1:=a5.get k1 (λb=>by have b:k.heap.size=wz.heap.size:=b;omega);refine⟨_,_,_,ae f8 rfl,_,ae h1 rfl,Ok.mk ⟨_,?_,C,H,S,G,rfl,?_,?_,λP d=>by have:=r P d;have:=h.size;omega⟩⟩
  ·rw[Xv (by rw[XZ];omega)]
  ·rw[Qz (by rw[XZ];omega)]
   exact((s.keep a3 λP d b=>by have b:P=j.heap.size:=b;have:=r P d;omega).keep a4 λP d b=>by have b:P=k.heap.size:=b;have:=r P d;omega).keep a5 λP d b=>by have b:P=wz.heap.size:=b;have:=r P d;omega
  ·refine(((h.new o λP d=>.inr (by have d:P=m.heap.size:=d;omega)).new a3 λP d=>.inr (by have d:P=j.heap.size:=d;omega)).new a4 λP d=>.inr (by have d:P=k.heap.size:=d;omega)).new a5 λP d=>.inr (by have d:P=wz.heap.size:=d;have:=h.size;omega)
 ·rintro f A ⟨-,hx⟩ hm
  refine⟨hm,λq0 t=>?_⟩;obtain⟨o,x,h2,C,H,S,G,u,s,r⟩:=hx.fm ⟨Y,d4,d5⟩ ⟨oM,oM⟩ t;refine⟨_,_,_,ae u rfl,_,ae x rfl,Ok.mk ⟨_,by rw[Zy h2],C,H,S,G,rfl,s,?_,λP d=>by have:=r P d;have:=h.size;omega⟩⟩;exact h.new o λP d=>.inr (by rcases d with d|d|d<;>omega)
end
def lb(P:aR)(a:List ah)(b c n:Int):gF:=⟨0,(0,0),⟨0,[]⟩,(jR (bR P a).entries b c n 32).1,[],(jR (bR P a).entries b c n 32).2⟩
section
variable {w w' w0 w1 w2:World} {p:Nat} {F E D:UL} {cls:Nat->Nat} {h:km} {c:bK} {self:Int} {X:bh}
def Lk(t:bX w p F c self X){b d n:Int}(u:aK n):be 39 #[RK p,WP b,WP d,WP n] w (Ok λv w'=>fV w (lb c.decl X.S.l b d n) v w'/\ai w w'):=by
 obtain⟨J,h,cls,l⟩:=t;refine mQ (PA.mk λx e K y=>PC.ok (CD (cQ.af l e)) ?_);rintro _ _ ⟨rfl,rfl⟩;have z:=cQ.af l e;have P:c_ x h.bp (λa=>F a/\cls a=4) c.decl c.every.toNat X.S.l:=z.at' 4;have A:=(wY c.decl X.S.l P.1.2.2.2).1;refine⟨_,rfl,_,_,Hy,PC.ok (FU P) ?_⟩;rintro _ L ⟨M,N,O,G,rfl,m,f,Q⟩;refine⟨_,_,_,rfl,PC.ok (Kg (most:=32) (m.row dC ce) m.aE oM A u) ?_⟩;rintro _ B ⟨R,rfl,g,i,j,C,rfl,o,k,q⟩;have E:=o.aE;have S:=f.size;have T:=k.size;have U:(jR (bR c.decl X.S.l).entries b d n 32).1.length<=32:=by unfold jR;rw[Qy];omega
 have H:ai w B:=(e.then f).then k;refine⟨_,_,_,_,rfl,aC (il (lb c.decl X.S.l b d n) none 0 0 g i j none 0 0) (k.get (f.get y id) id) rfl λV r W I=>ar (il (lb c.decl X.S.l b d n) none 0 0 g i j none 0 0) I (Ok.mk ⟨?_,H.new r λa P=>.inr (by have P:a=w.heap.size:=P;omega)⟩)⟩;refine⟨none,0,0,g,i,j,none,0,0,C,rfl,di _ _,(o.keep r λa P s=>by have s:a=w.heap.size:=s;have:=q a P;omega).row dC (by show(jR (bR c.decl X.S.l).entries b d n 32).1.length*120<=aP;unfold aP;omega),di _ _,λa P=>⟨by have:=q a P;omega,by have:=E a P;omega⟩⟩
end
structure ei where
 kind:Int
 n:Int
 m:Int
 cmd:kv
structure ei.Ok (s:ei):Prop where
 kind:aK s.kind
 n:aK s.n
 m:aK s.m
 cmd:s.cmd.Ok
def nH(n:ei):List Value:=[WP n.kind,WP n.n,WP n.m]++iM n.cmd
abbrev iL(n:ei):Value:=.agg (nH n).toArray
structure dw where
 aD:List bh
 dZ:List bD
 now:Int
def vg:bD:=⟨0,0,0,[],[]⟩
def eN(P:List bD)(n:Int):Option bD:=if 0<=n then P[n.toNat]? else none
def gG(n:List bD)(P:Int):List bD:=if(eN n P).isSome then n.eraseIdx P.toNat else n
def Eo(n P:List bD):List bD:=n++P.take (1024-n.length)
def eV(P:List bh)(n:Int):Option bh:=if 0<=n then P[n.toNat]? else none
def iB(a:bK)(b:Int)(P:bh)(n:ei):gF×bh:=
 if n.kind=1 then(if(eO a b P n.cmd).1≠0 then bS (eO a b P n.cmd).1 else ID (eO a b P n.cmd).2.1,(eO a b P n.cmd).2.2)else
 if n.kind=7 then(bS (gU a P n.m).1,(gU a P n.m).2)else
 if n.kind=8 then(bS (dN a P).1,(dN a P).2)else
 if n.kind=9 then(lb a.decl P.S.l n.cmd.aX n.cmd.agg n.m,P)else
 if n.kind=10 then(Wc a.decl P.S.l n.cmd.aX n.cmd.agg,P)else
 if n.kind=11 then(AZ a.decl P.S.l n.cmd.field n.m,P)else
 (bS 0,{P with D:=P.D.Gu n.m})
def dw.put(n:dw)(P:Int)(a:bh)(b:List bD):dw:=⟨n.aD.set P.toNat a,Eo n.dZ b,n.now⟩
def gT(a:bK)(P:dw):Option bD->gF×dw
 |none=>(bS 14,P)
 |some n=>match eV P.aD n.nk with
  |none=>(bS 1,P)
  |some b=>(bS (cx a n.nk b n).2.1,P.put n.nk (cx a n.nk b n).2.2 (cx a n.nk b n).1)
def iN(n:dw)(P:Nat):dw:=match n.aD[P]? with
 |none=>n
 |some a=>n.put P (pJ P a n.now).2 (pJ P a n.now).1
def Ix(n:dw):dw:=(List.range n.aD.length).foldl iN ⟨n.aD,n.dZ,n.now+1⟩
def cA(a:bK)(P:dw)(n:ei):gF×dw:=
 if n.kind=3 then gT a ⟨P.aD,gG P.dZ n.n,P.now⟩ (eN P.dZ n.n)else
 if n.kind=5 then gT a P (eN P.dZ n.n)else
 if n.kind=4 then(bS (if(eN P.dZ n.n).isSome then 0 else 14),⟨P.aD,gG P.dZ n.n,P.now⟩)else
 if n.kind=6 then(bS 0,Ix P)else
 if n.kind<1\/12<n.kind then(bS 2,P)else
 match eV P.aD n.n with
 |none=>(bS 1,P)
 |some b=>
  if n.kind=2 then(if(eV P.aD n.m).isNone\/n.m=n.n then(bS 1,P)else(bS 0,P.put n.n (eX a n.n b n.m P.now).2 (eX a n.n b n.m P.now).1))
  else((iB a n.n b n).1,⟨P.aD.set n.n.toNat (iB a n.n b n).2,P.dZ,P.now⟩)
def tU(n:bK):Int×dw:=((cB n 0).1,⟨List.replicate n.aD.toNat (cB n 0).2,[],0⟩)
structure Fit (k:Nat) (R:bh):Prop where
 evs:R.S.l.length<=16777216+300*k
 asked:R.gB.asked.length<=k
def Fit.Is{n P:bh}(h:Fit a n)(b:jX n P):Fit (a+1) P:=⟨by have:=h.evs;rcases b.evs with h|h<;>omega,by have:=h.asked;have:=b.asked;omega⟩
def Fit.mono(n:Fit a c7):Fit (a+1) c7:=⟨by have:=n.evs;omega,by have:=n.asked;omega⟩
def Fit.tick(P:Fit a c7)(b n:Int):Fit a (pJ b c7 n).2:=⟨P.evs,by unfold pJ;dsimp only;rw[kr.RF];exact P.asked⟩
structure fI (k:Nat) (X:dw):Prop where
 aD:∀R∈X.aD,Fit k R
 OG:0<=X.now
 now:X.now<=k
section
variable {c:bK} {X:dw} {k:Nat} {i:Int} {R R':bh} {s:ei} {ms:List bD} {f:List bD}
def iq{i:Nat}:eV e2 (i:Int)=e2[i]? :=by
 unfold eV;rw[Zx oM,Qx]
def fu(n:eV e2 i=some R):∃P:Nat,i=P/\e2[P]? =some R:=by
 unfold eV at n;split at n
 ·exact⟨i.toNat,oM,n⟩
 ·cases n
def Le:eV e2 i=none↔i<0\/(e2.length:Int)<=i:=by
 unfold eV;split
 ·rw[List.getElem?_eq_none_iff];omega
 ·simp;omega
def Lt{i:Int}(n:i<0\/(a7.length:Int)<=i):eN a7 i=none:=by
 unfold eN;split
 ·exact Q7 oM
 ·rfl
def fI.mono(n:fI k X):fI (k+1) X:=⟨λR P=>(n.aD R P).mono,n.OG,by have:=n.now;omega⟩
def fI.dZ(n:fI k X):fI k ⟨X.aD,f,X.now⟩:=⟨n.aD,n.OG,n.now⟩
def fI.put(n:fI k X)(P:Fit (k+1) R'):fI (k+1) (X.put a R' ms):=⟨λb c=>(List.mem_or_eq_of_mem_set c).elim (λd=>(n.aD b d).mono) λe=>e▸P,n.OG,by have n:=n.now;show X.now<=_;omega⟩
def fI.stay(n:fI k X){j:Nat}(P:Fit k R'):fI k (X.put j R' ms):=⟨λa b=>(List.mem_or_eq_of_mem_set b).elim (n.aD a) λc=>c▸P,n.OG,n.now⟩
def Gt(n:eV X.aD i=some R):(⟨X.aD.set i.toNat R,X.dZ,X.now⟩:dw)=X:=by
 obtain⟨b,rfl,P⟩:=fu n;obtain⟨c,a⟩:=Qv.1 P;rw[Qx,<-a,List.set_getElem_self]
def Lu(P:s.kind=9\/s.kind=10\/s.kind=11):(cA c X s).2=X:=by
 unfold cA;rw[Zq oM,Zq oM,Zq oM,Zq oM,Zq oM];split
 ·rfl
 ·rename_i R n
  rw[Zq oM];have:(iB c s.n R s).2=R:=by
   unfold iB;rw[Zq oM,Zq oM,Zq oM];split
   ·rfl
   split
   ·rfl
   rw[Zx oM]
  rw[this];exact Gt n
def OL(a:0<=i)(b:i<max 1 (min c.aD 64)):(cB c i).1=(cB c 0).1/\(cB c i).2=(cB c 0).2:=by
 have:fJ c i=fJ c 0:=by
  unfold fJ within
  by_cases d:1<=c.aD/\c.aD<=64
  ·have n:(decide (0<=i)&&decide (i<=c.aD-1))=true:=by simp;omega
   have P:(decide (0<=(0:Int))&&decide (0<=c.aD-1))=true:=by simp;omega
   rw[n,P]
  ·have n:(decide (1<=c.aD)&&decide (c.aD<=64))=false:=by simp;omega
   simp only[n,Bool.false_and]
 unfold cB;rw[this];exact⟨rfl,rfl⟩
def Iz(P:(cB c i).1=0):1<=c.aD/\c.aD<=64/\dj c.decl=0/\fJ c i=true:=by
 unfold cB at P;split at P
 ·contradiction
 rename_i a;split at P
 ·cases P
 ·rename_i n
  have n:fJ c i=true:=by simpa using n
  have b:=n;unfold fJ within at n;simp only[QK,Zk]at n;exact⟨oM,oM,Classical.not_not.1 a,b⟩

import Derived.Test.YtjgjkeponbeekaaGreatDoorKk17
set_option maxHeartbeats 4000000
set_option linter.all false
set_option maxRecDepth 20000
namespace Go.Proofs.YtjgjkeponbeekaaGreatDoor
open Go.aw
structure iF where
 code:Int
 id:Int×Int
 st:pG
 KC:List cX
 rows:List eg
 more:Bool
def fT(n:iF)(P:WP)(a b:Nat)(c:WP)(d e:Nat)(f:WP)(g h:Nat):List Value:=
 [ZH n.code,ZH n.id.1,ZH n.id.2,ZH n.st.version,.slice P a b,.slice c d e,.slice f g h,.bool n.more]
def iO(n:iF)(P:WP)(a b:Nat)(c:WP)(d e:Nat)(f:WP)(g h:Nat):iL ZP 53 (fT n P a b c d e f g h)=true:=kR
def fU(h:World)(n:iF)(i:Value)(P:World):Prop:=∃(b:WP) (c j:Nat) (d:WP) (e k:Nat) (f:WP) (g l:Nat) (G:ZN),i= .agg (fT n b c j d e k f g l).toArray/\
 Row gB 32 P G b c n.st.cells/\Row AA 120 P G d e n.KC/\Row Kf 24 P G f g n.rows/\∀a,G a->h.heap.size<=a/\a<P.heap.size
abbrev bK(n:Int):iF:=⟨n,(0,0),⟨0,[]⟩,[],[],false⟩
abbrev Im(id:Int×Int):iF:=⟨0,id,⟨0,[]⟩,[],[],false⟩
structure lb.Ok (x:lb):Prop where
 aZ:aM x.aZ
 agg:aM x.agg
 field:aM x.field
 op:aM x.op
 arg:aM x.arg
 key:aM x.key
variable{m:Array Value}{e q:Int}{s:List Int}{L:Prop}{j:Type}{g:TypeId}{B:au}{c6:lb}
section
variable {w w' w0:World} {p:Nat} {F E T:ZN} {cls:Nat->Nat} {h:kp} {c:bR} {self:Int} {X:bk} {evs lB:List ah} {ea:WP} {en ec:Nat}
def fU.plain{n:iF}(P:n.st.cells=[])(a:n.KC=[])(b:n.rows=[]):fU w n (.agg (fT n none 0 0 none 0 0 none 0 0).toArray) w':=
 ⟨none,0,0,none,0,0,none,0,0,λ_=>False,rfl,by rw[P];exact dx _ _,by rw[a];exact dx _ _,by rw[b];exact dx _ _,λd c=>c.elim⟩
def row_one{n:ky j}{bytes P:Nat}{w:World}{o:Nat×Nat}{d:j}{D:ZN}(e:w.heap[P]? =some (.cells m g o))(f:n.rep w D d m.toList)(h:bytes<=1000):Row n bytes w (λa=>a=P\/D a) (ZM P) 1 [d]:=by
 have p:=n.len f;refine⟨rfl,by unfold aT;omega,λb q c=>?_⟩;obtain rfl:b=0:=by
  rcases b with _|b
  ·rfl
  ·simp at c
 simp at c;subst c;refine⟨P,0,m.toList,rfl,aA e,.inl rfl,λi k=>?_,n.mono f λa h=>.inr h⟩;have l:i<m.size:=by rw[<-p]at k;simpa using k
 rw[ae e (v:=m[i]) (by simp[l])];simp[l]
def VZ(i:B.OK){M:Int}(d:0<=M)(e:∀n∈B.l,n.aB<=M):B.top<=M:=by
 have:∀(a:List ah) (P:Int),P<=M->(∀n∈a,n.aB<=M)->a.foldl (λP n=>max P n.aB) P<=M:=by
  intro a
  induction a with
  |nil=>intro P b _;exact b
  |cons n a f=>
   intro P b c;refine f _ ?_ λg h=>c g (QJ _ h);have:=c n (QV ..);show max P n.aB<=M;omega
 exact this B.l 0 d e
def Mk[Decidable L]{n P:ah×Bool×Int}(a:n.1.Ok)(b:P.1.Ok):(if L then n else P).1.Ok:=by
 split
 ·exact a
 ·exact b
def JG(n:c6.Ok)(c:aM e)(f:aM q)(P:∀d∈s,aM d):(aX c6 e s q).2.Ok:=by
 have g:=CA P e;unfold aX;dsimp only
 by_cases a:e<0\/(s.length:Int)<=e\/q<0
 ·rw[Zx a];exact CB
 rw[Zq a]
 by_cases b:fV s e=9223372036854775807\/q=9223372036854775807
 ·rw[Zx b];exact CB
 rw[Zq b];refine⟨c,?_,?_,E_ P sM,n.aZ,n.agg,n.field,n.op,n.arg,n.key⟩
 ·show aM (fV s e+1);unfold aM at*;omega
 ·show aM (q+1);unfold aM at*;omega
def Uk(d:B.l.length<=20000000):∀P∈B.vec,aM P:=λP b=>by
 obtain⟨c,n,rfl⟩:=List.getElem_of_mem b;rw[B.cj]at n;have a:=B.pJ n;rw[Qq (by rw[B.cj];exact n)]at a;rw[XJ a];have:=B.Sl c;unfold aM;omega
def Nx(n:B.OK):aM B.top:=by
 have b:=VZ n (M:=9223372036854775807) oM λP a=>by have:=(n.ok P a).aB;unfold aM at this;omega
 have c:=B.Ml;unfold aM;omega
def Nf{d:aS}{V:bf}(P:c6.Ok)(n:B.OK)(a:aM e)(h:aM q)(b:B.l.length<=20000000):(eW d B V e q c6).1.Ok:=by
 have c:aM (max B.top q):=by
  have i:=Nx n;unfold aM at*;omega
 rw[xY];refine Mk CB ?_
 cases f:B.keyed c6.key with
 |some g=>exact n.ok g (List.mem_of_find?_eq_some f)
 |none=>exact Mk CB (Mk CB (JG P a c (Uk b)))
end
section
variable {w w' w0:World} {p:Nat} {F E T:ZN} {cls:Nat->Nat} {h:kp} {c:bR} {self:Int} {X:bk}
def jY.Xe(n:jY c self):0<=self/\self<c.aD:=by
 have:=n.right;unfold fH within at this;simp only[QK,Zk]at this;omega
def Ia(hr:bU w p F c self X)(J:Env w0 w F)(hx:c6.Ok)(hl:X.S.l.length+1<=20000000):
  PP 50 #[ZL p,w_ c6] w (Ok λa3 w'=>∃d,fU w (if(eM c self X c6).1≠0 then bK (eM c self X c6).1 else Im (eM c self X c6).2.1) a3 w'/\bU w' p d c self (eM c self X c6).2.2/\cu F w d w'):=by
 have b8:=hr;obtain⟨q,h,cls,l⟩:=hr;have u:=l.aE;have e3:=(l.Ju)
 have g7:=u p e3.1;have c0:aM self:=by have:=q.Xe;have:=q.aD;unfold aM;omega
 refine mg (PA.mk λC e4 g8 e5=>PA.mk λb2 c2 g9 d6=>?_);have a1:=e4.then c2;have e6:=cQ.af l a1;have E:∀{f:World} {d:ZN} {k:bk} {y:iF},y.st.cells=[]->y.KC=[]->y.rows=[]->(∃r,f.heap[C.heap.size]? =some (.cells r 53 (0,0))/\r.size=8)->bU f p d c self k->(∀n,d n->F n\/b2.heap.size<=n)->cu F w d f->(eM c self X c6).2.2=k->(if(eM c self X c6).1≠0 then bK (eM c self X c6).1 else Im (eM c self X c6).2.1)=y->
   oG ZP 53 (ZL C.heap.size) (.agg (fT y none 0 0 none 0 0 none 0 0).toArray) f λc3=>jZ ZP 53 (ZL C.heap.size) c3 λa=>Ok (λa3 w'=>∃d,fU w (if(eM c self X c6).1≠0 then bK (eM c self X c6).1 else Im (eM c self X c6).2.1) a3 w'/\bU w' p d c self (eM c self X c6).2.2/\cu F w d w') (.returned a) c3:=λ{f d k y} y1 y2 y3 hz b3 b4 Q hX hy=>by
  obtain⟨r,hg,e7⟩:=hz;refine aC (iO y none 0 0 none 0 0 none 0 0) hg (by rw[e7];rfl) λc3 d7 h2 e8=>ar (iO y none 0 0 none 0 0 none 0 0) e8 (Ok.mk ⟨d,by rw[hy];exact fU.plain y1 y2 y3,?_,Q.keep.new d7 λn P=>.inr (by have P:n=C.heap.size:=P;omega),Q.new⟩);rw[hX];refine b3.keep d7 λn P e=>?_;have e:n=C.heap.size:=e;rcases b4 n P with h1|h1
  ·have:=u n h1;omega
  ·omega
 refine⟨p,0,rfl,_,ae e6.bw rfl,gW Tryz.underlying101 ⟨_,rfl,?_⟩⟩;have d8:DL w (λn=>F n/\cls n=2) h.dp h.lp X.D X.log:=l.at' 2;obtain⟨hS,R,hn⟩:=(show cI w h.sp (λn=>F n/\cls n=3) X.S/\X.S.Cl/\X.S.n=c.aD.toNat from l.at' 3)
 cases S:X.log with
 |none=>
  obtain⟨Fd,-,-,h3⟩:=d8;rw[S]at h3;have h3:h.lp=none:=h3;rw[h3];refine al.tt rfl ?_;have m:eM c self X c6=(15,(0,0),X):=by unfold eM;rw[S]
  exact E (y:=bK 15) rfl rfl rfl ⟨_,d6,rfl⟩ (b8.af a1) (λn P=>.inl P) ⟨ai.keep a1,λn P=>.inl P⟩ (by rw[m]) (by rw[m];rfl)
 |some f1=>
 obtain⟨f5,a4,c4,-⟩:=DL.Pl (S▸d8) (J.sub λn P=>P.1) λn P=>u n P.1;rw[a4];refine al.ff rfl λe9 f2=>⟨λ_=>False,?_⟩
 have b5:ai b2 e9:=f2.keep;have a2:=a1.then b5;have c5:=cQ.af l a2;refine⟨p,0,rfl,id,_,_,_,_,_,_,ae c5.bw rfl,ae c5.bw rfl,p,0,rfl,_,ae c5.bw rfl,PC.ok (si (hS.af a2) oM) ?_⟩;rintro _ h4 ⟨la,ln,lc,G,rfl,a5,K,hG⟩;have h6:=a5.len dC;have f3:=a5.aE;have T:=a2.then K;have h7:=cQ.af l T;have b9:∀{f:World},ai w f->bt f (λn=>F n/\cls n=1) c.decl h.ta h.tn h.pa h.pn:=λ{f} H=>(cQ.af l H).at' 1;refine⟨_,_,_,rfl,K,PC.ok (Hv q.decl (J.qf.af (J.gr.then T)) (b9 T) (λn P=>by have:=u n P.1;have:=T.size;omega) (a5.row dC ba) (λn P=>f3 n P) oM) ?_⟩;rintro _ I ⟨vp,Fv,rfl,hv,h8,L⟩;have M:=T.then L;have c1:=((c2.then b5).then K).then L;obtain⟨g5,f4⟩:=HE q.decl X.S.l;obtain⟨a,c7⟩:∃a,a=eW c.decl X.S (bO c.decl X.S.l) self c.start c6:=⟨_,rfl⟩
 have h9:=a2.size;have i0:=K.size;have i1:=L.size;have v:∀{f:World},ai I f->PP 80 #[.agg #[.slice h.ta h.tn h.tc,.slice h.pa h.pn h.pc],ZL h.sp,ZL vp,ZH self,ZH c.start,w_ c6] f (Ok (wC f a)):=λ{f} H=>by
  rw[c7];exact DS (J.qf.af ((J.gr.then M).then H)) (b9 (M.then H)) (λn P=>by have:=u n P.1;have:=(M.then H).size;omega) q.decl (hS.af (M.then H)) oM (hv.af H) f4
   (by have:=q.start;unfold aM at this;omega) (by have:=Nx R.ok;unfold aM at this;omega)
 refine⟨_,rfl,L,λU eo o no w'=>eo=0/\∃g i j G,w'.heap[U]? =some (.cells (aH a.1 g i j).toArray 63 (0,0))/\Row aP 8 w' G g i a.1.aN/\(∀n,G n->I.heap.size<=n/\n<w'.heap.size)/\I.heap.size<=U/\o=a.2.1/\no=a.2.2/\ai I w',?_,?_⟩
 ·intro x d9
  have N:ai I x:=d9.keep;have i2:x.heap.size=I.heap.size:=by rw[d9.heap]
  have e0:=M.then N;have V:=cQ.af l e0;have e1:=N.get (c1.get e5 id) id;have nS:¬x.heap.size<=p:=oM
  have f6:¬x.heap.size<=w.heap.size:=by have:=b5.size;have:=K.size;have:=L.size;omega
  refine⟨λn=>x.heap.size<=n,p,0,rfl,nS,_,_,_,_,_,_,ae V.bw rfl,ae V.bw rfl,p,0,rfl,nS,_,ae V.bw rfl,p,0,rfl,nS,_,ae V.bw rfl,p,0,rfl,nS,_,ae V.bw rfl,f6,ar (yk c6) e1 ⟨PC.ok (v N) ?_,PA.mk λi3 c8 i4 f8=>⟨ai.keep c8,PC.ok (v (N.then c8)) ?_⟩⟩⟩
  ·rintro _ c9 ⟨g,i,j,G,rfl,W,s,d0⟩
   have i5:=d0.size;refine cx (sF a.1 g i j) ⟨_,_,rfl,ai.keep d0,PA.mk λi6 d1 i7 g0=>⟨ai.keep d1,aC (bg a.1 g i j) g0 rfl λi8 d2 i9 g1=>⟨d2.mono λn _ e=>by have e:n=c9.heap.size:=e;omega,rfl,g,i,j,G,g1,?_,λn P=>⟨by have:=s n P;omega,by have:=s n P;omega⟩,oM,rfl,rfl,?_⟩⟩⟩
   ·exact(W.af d1).keep d2 λn P e=>by have e:n=c9.heap.size:=e;have:=(s n P).2;omega
   ·exact((N.then d0).then d1).new d2 λn P=>.inr (by have P:n=c9.heap.size:=P;omega)
  ·rintro _ j0 ⟨g,i,j,G,rfl,W,s,b6⟩
   have j1:=b6.size;refine cx (sF a.1 g i j) ⟨_,_,rfl,ai.keep b6,aC (bg a.1 g i j) (b6.get f8 id) rfl λj2 d3 j3 g2=>⟨d3.mono λn _ e=>by have e:n=x.heap.size:=e;omega,rfl,g,i,j,G,g2,?_,λn P=>⟨by have:=s n P;omega,by have:=s n P;omega⟩,oM,rfl,rfl,?_⟩⟩
   ·exact W.keep d3 λn P e=>by have e:n=x.heap.size:=e;have:=(s n P).1;omega
   ·exact((N.then c8).then b6).new d3 λn P=>.inr (by have P:n=x.heap.size:=P;omega)
 rintro U _ o no _ O ⟨rfl,g,i,j,G2,b,W,s,j4,rfl,rfl,d4⟩;have Y:=M.then d4;have j5:=cQ.af l Y;have g6:=c1.then d4;have b0:=d4.get (L.get (K.get (b5.get d6 id) id) id) id;have a6:a.1.Ok:=by rw[c7];exact Nf hx R.ok c0 q.start oM
 have a7:∀{z:Int×(Int×Int)×bk},(if a.2.2≠0 then(a.2.2,(0,0),X)else if a.2.1 then(if(dt c X [a.1]).1≠0 then((dt c X [a.1]).1,(0,0),(dt c X [a.1]).2)else(0,bd a.1,(dt c X [a.1]).2))else(0,bd a.1,X))=z->eM c self X c6=z:=λ{z} ht=>by
  rw[<-ht,c7];unfold eM;rw[S]
 have j6:=Y.size;have d5:=aA b;refine⟨λz w'=>∃d k,bU w' p d c self k/\cu F w d w'/\(∀n,d n->F n\/b2.heap.size<=n)/\w'.heap[U]? =some (.cells (aH a.1 g i j).toArray 63 (0,0))/\(∃r,w'.heap[C.heap.size]? =some (.cells r 53 (0,0))/\r.size=8)/\eM c self X c6=(if z≠0 then(z,(0,0),k)else(0,bd a.1,k)),?_,?_⟩
 ·have A:eM c self X c6=(if a.2.2≠0 then(a.2.2,(0,0),X)else(0,bd a.1,X))->∃d k,bU O p d c self k/\cu F w d O/\(∀n,d n->F n\/b2.heap.size<=n)/\O.heap[U]? =some (.cells (aH a.1 g i j).toArray 63 (0,0))/\(∃r,O.heap[C.heap.size]? =some (.cells r 53 (0,0))/\r.size=8)/\eM c self X c6=(if a.2.2≠0 then(a.2.2,(0,0),k)else(0,bd a.1,k)):=λm=>
   ⟨F,X,b8.af Y,⟨ai.keep Y,λn P=>.inl P⟩,λn P=>.inl P,b,⟨_,b0,rfl⟩,m⟩
  refine al.eN (λB=>al.mk (λt=>?_) (λt=>A (a7 (by rw[Zq (by simpa using B),Zq (by simpa using t),Zq (by simpa using B)])))) (λB=>A (a7 (by rw[Zx B,Zx B])));refine⟨_,_,_,_,_,_,_,_,_,_,_,_,ae b rfl,ae b rfl,ae b rfl,ae b rfl,ae b rfl,ae b rfl,ae b rfl,ae b rfl,ae b rfl,ae b rfl,PA.mk λe2 b7 j7 g3=>?_⟩;have a9:=Y.then b7;have f0:Row ku 96 e2 (λn=>n=O.heap.size\/G2 n) (ZM O.heap.size) 1 [a.1]:=row_one g3 ⟨g,i,j,rfl,W.af b7,a6⟩ dC;refine PC.ok (Jv (cQ.af l a9) q (J.af a9) S f0 (λn P=>?_) (by simpa using hl)) ?_
  ·have g4:I.heap.size<=n/\n<e2.heap.size:=P.elim (λe=>⟨oM,oM⟩) λh5=>by have:=s n h5;omega
   exact⟨g4.2,λt=>by have:=u n t.1;omega⟩
  rintro _ j8 ⟨rfl,h',d,Z,a8,a0,-⟩;refine⟨_,rfl,d,(dt c X [a.1]).2,⟨q,h',Z,a8⟩,⟨(ai.keep a9).then a0.keep,λn P=>(a0.new n P).imp id λh1=>oM⟩,λn P=>(a0.new n P).imp id λh1=>by have:=c2.size;omega,a0.keep.get (b7.get b id) λt=>by have:=u _ t;omega,⟨_,a0.keep.get (b7.get b0 id) λt=>by have:=u _ t;omega,rfl⟩,?_⟩;exact a7 (by rw[Zq (by simpa using B),Zx t])
 ·rintro z _ j9 ⟨d,k,b3,Q,b4,b1,hz,m⟩
  refine al.eO (λc4=>?_) (λB=>⟨_,_,ae b1 rfl,ae b1 rfl,?_⟩)
  ·rw[Zx c4]at m
   exact E (y:=bK z) rfl rfl rfl hz b3 b4 Q (by rw[m]) (by rw[m];exact Zx c4)
  ·rw[Zq (by simpa using B)]at m
   exact E (y:=Im (bd a.1)) rfl rfl rfl hz b3 b4 Q (by rw[m]) (by rw[m];rfl)
end
def fL(c:World)(d:ZN)(g:List bY)(h:Value)(a:World):Prop:=
 ∃(P:WP) (e f:Nat) (b:List Kg) (D:ZN),h= .slice P e f/\aV OF 127 (λn=>aG P=some n) a P e f b/\b.map (·.m)=g/\(∀n∈b,n.In a D)/\(∀n,D n->c.heap.size<=n/\n<a.heap.size/\aG P≠some n/\¬d n)/\∀n,aG P=some n->c.heap.size<=n/\¬d n
section
variable {w w' w0 w1:World} {p:Nat} {F E T Z:ZN} {cls:Nat->Nat} {h:kp} {c:bR} {self:Int} {X:bk} {ms:List bY} {v:Value}
def bl.out(e:bl w1 ms v w')(c:∀n,Z n->n<w1.heap.size)(o:w.heap.size<=w1.heap.size):fL w Z ms v w':=by
 obtain⟨f,g,h,i,D,j,k,l,m,a,d,p⟩:=e;exact⟨f,g,h,i,D,j,k,l,m,λn P=>⟨by have:=(a n P).1;omega,(a n P).2.1,(a n P).2.2,λb=>by have:=c n b;have:=(a n P).1;omega⟩,λn P=>⟨by have:=d n P;omega,λb=>by have:=c n b;have:=d n P;omega⟩⟩
def fL.nil(w0 w:World)(Z:ZN):fL w0 Z [] (.slice none 0 0) w:=⟨none,0,0,[],λ_=>False,rfl,(aV.nil w).mono (λP n=>n.elim) (λP n=>(by cases n)),rfl,sM,λP n=>n.elim,λP n=>(by cases n)⟩
def bl.one{m:bY}{va b:WP}{vn vc c d a:Nat}{D:ZN}(f:w.heap[a]? =some (.cells (dZ m va vn vc b c d).toArray 127 (0,0)))(h:(⟨m,va,vn,vc,b,c,d⟩:Kg).In w D)(e:∀P,D P->w0.heap.size<=P/\P<w.heap.size/\P≠a)(j:w0.heap.size<=a)(i:ai w0 w):
  bl w0 [m] (.slice (ZM a) 1 1) w:=by
 have k:=aA f;refine⟨ZM a,1,1,[⟨m,va,vn,vc,b,c,d⟩],D,rfl,⟨⟨dZ m va vn vc b c d,λ_=>False,Own.AD f rfl (by unfold maxLen;omega),bV.one ⟨rfl,trivial⟩,λP n=>n.elim⟩,λP n=>n,λP n=>?_⟩,rfl,λP n=>?_,λP n=>⟨(e P n).1,(e P n).2.1,λg=>?_⟩,λP n=>?_,i⟩
 ·simp only[aG,Q1]at n;omega
 ·simp at n;subst n;exact h
 ·simp only[aG,Q1]at g;exact(e P n).2.2 g.symm
 ·simp only[aG,Q1]at n;omega
def F_(o:bU w p F c self X)(A:aM e):
  PP 51 #[ZL p,ZH e,ZH q] w (Ok λv w'=>∃n,fL w n (fq c self X e q).1 v w'/\bU w' p n c self (fq c self X e q).2/\cu F w n w'):=by
 have B:=o;obtain⟨C,h,cls,b⟩:=o;have no:(e<0\/e>=c.aD\/e=self)->Ok (λv w'=>∃n,fL w n (fq c self X e q).1 v w'/\bU w' p n c self (fq c self X e q).2/\cu F w n w') (.returned (.slice none 0 0)) w:=λi=>by
  have:fq c self X e q=([],X):=by unfold fq;rw[Zx i]
  rw[this];exact Ok.mk ⟨F,fL.nil _ _ _,B,cu.refl _ _⟩
 refine lF (al.dec (λj=>no (.inl j)) (λj=>⟨p,0,rfl,_,ae b.bw rfl,al.dec (λk=>no (.inr (.inl k))) (λk=>⟨p,0,rfl,_,ae b.bw rfl,al.eN (λl=>no (.inr (.inr l))) (λl=>⟨p,0,rfl,_,ae b.bw rfl,?_⟩)⟩)⟩));have E:fq c self X e q=([ll X.S self e],{X with gE:={X.gE with asked:=aI X.gE.asked e q}}):=by unfold fq;rw[Zq (by rintro(h|h|h);exact j h;exact k h;exact l h)]
 refine PC.ok (JH (b.at' 6) A) ?_;rintro _ r ⟨rfl,H,s⟩;have I:cQ r F cls p h c self {X with gE:={X.gE with asked:=aI X.gE.asked e q}}:=bb.same b bX (k:=6) s H λt G J i=>by
  rcases t with _|_|_|_|_|_|_|t<;>first|exact i|exact Zz rfl J
 refine⟨rfl,λm K=>?_⟩;have u:ai r m:=K.keep;have a:=cQ.af I u;refine⟨p,0,rfl,_,ae a.bw rfl,p,0,rfl,_,ae a.bw rfl,PC.ok (yH (a.at' 3).1) ?_⟩;rintro _ L ⟨R,S,T,G,rfl,x,M,f⟩;have y:=x.aE;have N:=f.size;refine⟨_,_,_,_,_,_,_,_,_,rfl,PA.mk λwP g U O=>?_⟩;rw[E];have Q:bl m [ll X.S self e] (.slice (ZM L.heap.size) 1 1) wP:=bl.one (D:=G) O ⟨(x.af g).row dC (by show X.S.vec.length*8<=aT;rw[X.S.cj];have:=(a.at' 3).1.1.n;have:X.S.n<=64:=this;unfold aT;omega),dx _ _⟩ (λd P=>⟨M d P,by have:=y d P;omega,by have:=y d P;omega⟩) N (f.then g);have z:aj F w m:=(s.mono λd _ P=>P.1).af u;exact Ok.mk ⟨F,Q.out a.aE z.size,⟨C,h,cls,cQ.af a (f.then g)⟩,(z.af f).af g,λd P=>.inl P⟩
def Ul(T:ks)(b:Int):∀n∈T.due b,n∈T.open:=by
 have:∀(c:List Int) (d:List Int×List (Int×Int)),∀n∈(c.foldl (gy T.de b) d).1,n∈d.1\/n∈c:=by
  intro c
  induction c with
  |nil=>intro d n P;exact .inl P
  |cons g c f=>
   intro d n P;rcases f _ n P with a|a
   ·unfold gy at a
    split at a
    ·rcases Q6.1 a with e|e
     ·exact .inl e
     ·simp at e;subst e;exact .inr (QV ..)
    ·exact .inl a
   ·exact .inr (QJ _ a)
 intro n P;unfold ks.due ks.jz at P;rw[List.take_length]at P;exact(this T.open ([],T.asked) n P).resolve_left sM
def Sm{T:ks}(a:∀n∈T.asked,aM n.1):∀P∈T.open,aM P:=λP b=>by
 have:P∈T.asked.map (·.1):=(List.mergeSort_perm _ _).mem_iff.1 b;obtain⟨n,c,rfl⟩:=Xk.1 this;exact a n c
def MP(T:ks)(n:Int):(T.due n).length<=T.asked.length:=by
 have:∀(a:List Int) (P:List Int×List (Int×Int)),(a.foldl (gy T.de n) P).1.length<=P.1.length+a.length:=by
  intro a
  induction a with
  |nil=>intro P;simp
  |cons b a d=>
   intro P;have c:=d (gy T.de n P b);have e:(gy T.de n P b).1.length<=P.1.length+1:=by
    unfold gy;split
    ·simp
    ·omega
   simp only[List.foldl_cons,Xq];omega
 have c:=this T.open ([],T.asked);unfold ks.due ks.jz;rw[List.take_length];have e:T.open.length=T.asked.length:=by simp[ks.open,wD]
 simp only[ZQ]at c;omega
def QI(M:bU w p F c self X)(a:X.gE.asked.length<=1000):
  PP 49 #[ZL p,ZH e] w (Ok λv w'=>∃l,fL w l (pP self X e).1 v w'/\bU w' p l c self (pP self X e).2/\cu F w l w'):=by
 obtain⟨N,h,cls,m⟩:=M;have u:et w h.tp (λn=>F n/\cls n=6) X.gE:=m.at' 6;have O:∀b∈X.gE.due e,aM b:=λb f=>Sm u.tr b (Ul _ _ b f);have b0:=MP X.gE e;refine oV ⟨p,0,rfl,_,ae m.bw rfl,PC.ok (Pt u ba) ?_⟩;rintro _ g ⟨Q,o,cc,rfl,x,R,q,hn⟩;have y:cQ g F cls p h c self {X with gE:=X.gE.Sn e}:=bb.same m bX (k:=6) q R λP G z S=>by
  rcases P with _|_|_|_|_|_|_|P<;>first|exact S|exact Zz rfl z
 have T:=x.length;rw[jW,Nat.mul_one]at T;have U:Ints g Q o (X.gE.due e):=x.ints ba O;have V:=y.aE;have W:=q.size;refine⟨_,_,_,rfl,λA B C E Y w'=>∃P:Nat,Y=P/\P<=o/\A=o-P/\bl g (((X.gE.due e).take P).map λd=>ll X.S self d) (.slice B C E) w',⟨_,0,rfl,Qj _,rfl,bl.nil g⟩,?_⟩;rintro A B C E _ _ Z ⟨P,rfl,z,rfl,i⟩;have r:=i;obtain⟨a3,n1,c1,a4,D,he,g2,g3,g4,g5,g6,j⟩:=r
 cases he
 have H:=cQ.af y j;have b1:=j.size;refine al.dec (λb2=>?_) (λb3=>?_)
 ·obtain⟨n,s,b,rfl,b4,f,b5,a0⟩:=(U.af j).at (i:=(P:Int)) oM oM
  rw[Qx]at f;refine⟨n,s,rfl,oM,oM,b,a0,λa6 a7=>?_⟩;have t:ai Z a6:=a7.keep;have k:=cQ.af H t;refine⟨p,0,rfl,_,ae k.bw rfl,p,0,rfl,_,ae k.bw rfl,PC.ok (yH (k.at' 3).1) ?_⟩;rintro _ b6 ⟨va,vn,vc,G,rfl,I,J,K⟩;have a8:=I.aE;have b7:=t.size;have b8:=K.size;refine⟨_,_,_,_,_,_,_,_,_,rfl,PA.mk λb9 L c2 a9=>?_⟩;refine bl.push (m:=ll X.S self b) (E:=G) (i.af ((t.then K).then L)) Ey ⟨(I.af L).row dC (by show X.S.vec.length*8<=aT;rw[X.S.cj];have:X.S.n<=64:=(k.at' 3).1.1.n;unfold aT;omega),dx _ _⟩ (λn a=>⟨by have:=J n a;omega,by have:=a8 n a;omega,λa1=>by have:=g2.aE n a1;have:=J n a;omega⟩) a9 (by rw[Q8,Qy];omega) λa' c' c3 a2 c4=>⟨_,_,_,rfl,_,?_,P+1,an oM,oM,rfl,?_⟩
  ·omega
  ·rw[Qw,f,Q3];exact a2
 ·rw[Qz oM]at i
  exact Ok.mk ⟨F,i.out V W,⟨N,h,cls,H⟩,(q.mono λn _ a=>a.1).af j,λn a=>.inl a⟩
def KM(a:bU w p F c self X)(n:X.S.l.length<=20000000):PP 22 #[ZL p] w (Ok (qC ku 63 w X.S.l)):=by
 obtain⟨f,h,cls,P⟩:=a;refine mZ ⟨p,0,rfl,_,ae P.bw rfl,PC.ok (si (P.at' 3).1 n) ?_⟩;rintro _ g ⟨b,d,e,G,rfl,n⟩;exact⟨_,_,_,rfl,Ok.mk ⟨b,d,e,G,rfl,n⟩⟩
end
def wF{c:au}:∀{P:List ah} {e:ah} {S':au} {l':List ah},dJ c P=some (e,S',l')->l'.length+1=P.length
 |[],e,S',l',n=>by simp[dJ]at n
 |x::P,e,S',l',n=>by
  unfold dJ at n;split at n
  ·simp only[Q1,Prod.mk.injEq]at n
   obtain⟨-,-,rfl⟩:=n;rfl
  ·cases a:dJ c P with
   |none=>rw[a]at n;cases n
   |some b=>
    rw[a]at n;simp only[Option.map_some,Q1,Prod.mk.injEq]at n;obtain⟨rfl,rfl,rfl⟩:=n;have:=wF (e:=b.1) (S':=b.2.1) (l':=b.2.2) a;simp only[Xq];omega
def wG:∀(k:Nat) (a:au) (P n:List ah),(dm k a P n).1.length+(dm k a P n).2.length=n.length+P.length
 |0,a,P,n=>rfl
 |k+1,a,P,n=>by
  unfold dm
  cases e:dJ a P with
  |none=>rfl
  |some f=>
   obtain⟨b,c,d⟩:=f;have h:=wF e;have g:=wG k c d (n++[b]);show(dm k c d (n++[b])).1.length+(dm k c d (n++[b])).2.length=_;rw[g,QX,List.length_singleton];omega
def wH(P:au)(n:List ah):(bF P n).1.length+(bF P n).2.length<=n.length:=by
 unfold bF;dsimp only;rw[wG];have:=List.length_filter_le (λa=>(P.get (bd a)).isNone) n;simp only[ZQ];omega
structure Hh (w:World) (wp most:Nat) (M0 D0 E:ZN) (s:Nat) (S:au) (b:List ah) (oa:WP) (on oc:Nat) (Lo:List (Bx ah)) (w1:World) (M Db Fs Do:ZN):Prop where
 buf:iu w1 wp M Db most b
 set:cI w1 s Fs S
 NQ:∀x∈Lo,nC.In w1 Do x
 out:aV nC.kr 63 (λb=>aG oa=some b) w1 oa on oc Lo
 nM:∀b,M b->(M0 b\/w.heap.size<=b)/\¬Fs b
 nD:∀b,Db b->(D0 b\/w.heap.size<=b)/\¬Fs b
 nF:∀b,Fs b->w.heap.size<=b
 nO:∀b,Do b->(E b\/D0 b\/w.heap.size<=b)/\b<w1.heap.size/\¬M b/\¬Fs b
 nA:∀b,aG oa=some b->w.heap.size<=b/\¬M b/\¬Fs b/\¬Do b/\¬Db b
 keep:aj M0 w w1
 cl:S.Cl
variable{a:Nat}{f:ZN}{d:WP}{o t:ZR}{l:ah}
section
variable {w w' w0 w1 w2:World} {p wp most s on oc:Nat} {F E T Z M0 D0 M Db Fs Do:ZN} {cls:Nat->Nat} {h:kp} {c:bR} {self:Int} {X:bk} {S:au} {b:List ah} {oa:WP} {Lo:List (Bx ah)}
def iu.Po(n:iu w p M Db most b):∀b,M b->b<w.heap.size:=by obtain⟨-,a,d,c,e,P⟩:=n;exact P.dM
def iu.JI(n:iu w p M Db most b):∀b,Db b->b<w.heap.size/\¬M b:=by obtain⟨-,a,d,c,e,P⟩:=n;exact P.dD
def Hh.af(n:Hh w wp most M0 D0 E s S b oa on oc Lo w1 M Db Fs Do)(P:ai w1 w2):Hh w wp most M0 D0 E s S b oa on oc Lo w2 M Db Fs Do:=
 ⟨n.buf.af P,n.set.af P,λc d=>(n.NQ c d).keep P λ_ _ h=>h,n.out.af P,n.nM,n.nD,n.nF,λb a=>⟨(n.nO b a).1,by have:=(n.nO b a).2.1;have:=P.size;omega,(n.nO b a).2.2⟩,n.nA,n.keep.af P,n.cl⟩
def Hh.add(P:Hh w wp most M0 D0 E s S b oa on oc Lo w1 M Db Fs Do){h m:Nat}(o:Row aP 8 w1 f d h l.aN)(p:∀b,f b->b<w1.heap.size/\¬Fs b)(i:l.Ok)(y:S.l.length<=20000000):
  PP 74 #[ZL s,kN l d h m] w1 (Ok λj w'=>j= ZH (S.add l).1/\∃e,Hh w wp most M0 D0 E s (S.add l).2 b oa on oc Lo w' M Db e Do/\aj Fs w1 w'/\∀b,e b->Fs b\/w1.heap.size<=b):=by
 refine(uU P.set o p i oM).mono ?_;rintro _ w2 ⟨j,rfl,rfl,k,q,a⟩;have r:=P.buf.Po;have t:=P.buf.JI;have z:=P.keep.size;have c:∀b,b<w1.heap.size->¬Fs b->¬k b:=λb A u g=>(a.new b g).elim u oM;refine Ok.mk ⟨rfl,k,⟨P.buf.keep a.keep (λb n=>(P.nM b n).2) λb n=>(P.nD b n).2,q,λv x=>(P.NQ v x).keep a.keep λb n=>(P.nO b n).2.2.2,P.out.keep a.keep λb n=>(P.nA b n).2.2.1,λb n=>⟨(P.nM b n).1,c b (r b n) (P.nM b n).2⟩,λb n=>⟨(P.nD b n).1,c b (t b n).1 (P.nD b n).2⟩,
  λb n=>(a.new b n).elim (P.nF b) λY=>oM,λb n=>⟨(P.nO b n).1,by have:=(P.nO b n).2.1;have:=a.keep.size;omega,(P.nO b n).2.2.1,c b (P.nO b n).2.1 (P.nO b n).2.2.2⟩,λb n=>⟨(P.nA b n).1,(P.nA b n).2.1,c b (P.out.aE b n) (P.nA b n).2.2.1,(P.nA b n).2.2.2⟩,P.keep.new a.keep λb n=>.inr (P.nF b n),P.cl.add i⟩,a.keep,a.new⟩
def Hh.push{u:Program}{p y:TypeId}(P:Hh w wp most M0 D0 E s S b oa on oc Lo w1 M Db Fs Do)(z:kQ u p 63 nC.kr.k 96){c:Bx ah}(A:nC.In w1 f c)(d:∀b,f b->(E b\/D0 b\/w.heap.size<=b)/\b<w1.heap.size/\¬M b/\¬Fs b/\aG oa≠some b){B:Nat×Nat}(C:w1.heap[a]? =some (.cells (aH c.x c.a c.n c.c).toArray 63 B))(Q:Lo.length<=1000000)(q:∀j m w' r,Hh w wp most M0 D0 E s S b j (on+1) m (Lo++[c]) w' M Db Fs r->aj (λb=>aG oa=some b) w1 w'->(∀b,aG j=some b->aG oa=some b\/w1.heap.size<=b)->o (.slice j (on+1) m) w'):
  aJ u (Builtin.append_ #[p,p] y #[.slice oa on oc,.slice (ZM a) 1 1]) w1 o t:=by
 refine fK (c:=nC.kr) (x:=c) (D:=λ_=>False) P.out z C ⟨rfl,trivial⟩ (λb n=>n.elim) ba (by unfold maxLen;omega) λj m w2 R v e F=>?_;have I:=v.alone;have x:∀b,aG j=some b->aG oa=some b\/w1.heap.size<=b:=λb n=>(F b (v.self b n)).imp id λh=>h.resolve_left id;have T:=e.size;have z1:=P.keep.size;have J:=P.buf.Po;have K:=P.buf.JI;have L:=P.set.aE;have nA:=P.nA;refine q j m w2 (λb=>Do b\/f b) ⟨P.buf.keep e (λb n g=>(nA b g).2.1 n) λb n g=>(nA b g).2.2.2.2 n,P.set.keep e λb n g=>(nA b g).2.2.1 n,λN k=>?_,I,P.nM,P.nD,P.nF,λb n=>?_,λb n=>?_,P.keep.new e λb n=>.inr (nA b n).1,P.cl⟩ e x
 ·rcases Q6.1 k with k|k
  ·exact((P.NQ N k).keep e λb n g=>(nA b g).2.2.2.1 n).mono λb n=>.inl n
  ·simp at k;subst k
   exact(A.keep e λb n=>(d b n).2.2.2.2).mono λb n=>.inr n
 ·rcases n with n|n
  ·exact⟨(P.nO b n).1,by have:=(P.nO b n).2.1;omega,(P.nO b n).2.2⟩
  ·exact⟨(d b n).1,by have:=(d b n).2.1;omega,(d b n).2.2.1,(d b n).2.2.2.1⟩
 ·rcases x b n with H|H
  ·exact⟨(nA b H).1,(nA b H).2.1,(nA b H).2.2.1,λl=>l.elim (nA b H).2.2.2.1 λO=>(d b O).2.2.2.2 H,(nA b H).2.2.2.2⟩
  ·exact⟨oM,λi=>by have:=J b i;omega,λi=>by have:=L b i;omega,λi=>i.elim (λl=>by have:=(P.nO b l).2.1;omega) λl=>by have:=(d b l).2.1;omega,λi=>by have:=(K b i).1;omega⟩
def Hh.wait(n:Hh w wp most M0 D0 E s S b oa on oc Lo w1 M Db Fs Do){j p:Nat}(q:Row aP 8 w1 f d j l.aN)(r:∀b,f b->b<w1.heap.size)(t:l.Ok):
  PP 246 #[ZL wp,kN l d j p] w1 (Ok λk w'=>∃u,k= .bool u/\∃g h,Hh w wp most M0 D0 E s S (eS most b l).2 oa on oc Lo w' g h Fs Do/\aj M w1 w'):=by
 refine(Kp n.buf q r t).mono ?_;rintro _ w2 ⟨k,rfl,rfl,g,v,x,e,i,m⟩;have o:=n.set.aE;have A:=n.keep.size;have B:=e.size;refine Ok.mk ⟨_,rfl,g,v,⟨x,n.set.keep e λb P c=>(n.nM b c).2 P,λy z=>(n.NQ y z).keep e λb P=>(n.nO b P).2.2.1,n.out.keep e λb P=>(n.nA b P).2.1,λb P=>?_,λb P=>?_,n.nF,λb P=>⟨(n.nO b P).1,by have:=(n.nO b P).2.1;omega,λc=>?_,(n.nO b P).2.2.2⟩,λb P=>⟨(n.nA b P).1,λc=>?_,(n.nA b P).2.2.1,(n.nA b P).2.2.2.1,λc=>?_⟩,?_,n.cl⟩,e⟩
 ·rcases i b P with a|a
  ·exact n.nM b a
  ·exact⟨.inr oM,λc=>by have:=o b c;omega⟩
 ·rcases m b P with a|a
  ·exact n.nD b a
  ·exact⟨.inr oM,λc=>by have:=o b c;omega⟩
 ·rcases i b c with a|a
  ·exact(n.nO b P).2.2.1 a
  ·have:=(n.nO b P).2.1;omega
 ·rcases i b c with a|a
  ·exact(n.nA b P).2.1 a
  ·have:=n.out.aE b P;omega
 ·rcases m b c with a|a
  ·exact(n.nA b P).2.2.2.2 a
  ·have:=n.out.aE b P;omega
 ·exact n.keep.new e λb P=>(n.nM b P).1
def Hh.ready(n:Hh w wp most M0 D0 E s S b oa on oc Lo w1 M Db Fs Do)(i:S.l.length<=19000000):
  PP 247 #[ZL wp,ZL s] w1 (Ok λh w'=>∃a e f d,h= .slice a e f/\aV nC.kr 63 (λb=>aG a=some b) w' a e f d/\d.map (·.x)=(bF S b).1/\(∀g∈d,nC.In w' Db g)/\(∀b,aG a=some b->w1.heap.size<=b)/\
   Hh w wp most M0 D0 E s S (bF S b).2 oa on oc Lo w' M Db Fs Do/\aj M w1 w'):=by
 refine(FN n.buf n.set n.cl i).mono ?_;rintro _ w2 ⟨h,rfl,a,e,f,d,rfl,j,k,l,m,o,c⟩;have r:=c.size;exact Ok.mk ⟨a,e,f,d,rfl,j,k,l,m,⟨o,n.set.keep c λb P p=>(n.nM b p).2 P,λg q=>(n.NQ g q).keep c λb P=>(n.nO b P).2.2.1,n.out.keep c λb P=>(n.nA b P).2.1,n.nM,n.nD,n.nF,λb P=>⟨(n.nO b P).1,by have:=(n.nO b P).2.1;omega,(n.nO b P).2.2⟩,n.nA,n.keep.new c λb P=>(n.nM b P).1,n.cl⟩,c⟩
end
section
variable {w w' w0 w1 w2:World} {p wp most s on oc:Nat} {F E T Z M0 D0 M Db Fs Do:ZN} {cls:Nat->Nat} {h:kp} {c:bR} {self:Int} {X:bk} {S:au} {b:List ah} {oa:WP} {Lo:List (Bx ah)} {evs:List ah} {ea:WP} {en ec:Nat}
def CC(most:Nat)(n:List ah)(P:ah):(eS most n P).2.length<=n.length+1:=by
 unfold eS;split
 ·show n.length<=_;omega
 ·show(dI P n).length<=_
  rw[(cN P n).length_eq];simp
def Pn(L:cQ w F cls p h c self X)(e5:jY c self)(hr:Row ku 96 w E ea en evs)(A:∀b,E b->b<w.heap.size/\¬F b)(m4:evs.length<=1000)(hl:X.S.l.length<=18000000):
  PP 190 #[ZL p,.slice ea en ec] w (Ok λf0 w'=>∃oa on oc Lo U o Do,f0= .slice oa on oc/\aV nC.kr 63 (λb=>aG oa=some b) w' oa on oc Lo/\Lo.map (·.x)=(iZ c X evs).1/\(∀n∈Lo,nC.In w' Do n)/\
   cQ w' U o p h c self {X with waits:=(iZ c X evs).2}/\cu F w U w'/\(∀b,Do b->b<w'.heap.size/\aG oa≠some b/\¬(U b/\o b=2))/\(∀b,aG oa=some b->w.heap.size<=b/\¬U b)/\(iZ c X evs).1.length<=evs.length+256):=by
 obtain⟨m9,n0,n1⟩:=e5.aD;have e6:=L.aE;have i7:=L.Ju;obtain⟨hS,a0,hn⟩:=(show cI w h.sp (λb=>F b/\cls b=3) X.S/\X.S.Cl/\X.S.n=c.aD.toNat from L.at' 3)
 obtain⟨M0,D0,t,c3,a1⟩:=(show ON w (λb=>F b/\cls b=5) h.wp c.buffer.toNat X.waits from L.at' 5)
 have f1:X.waits.length<=256:=Xx t.1.2.le t.1.1;have n3:=hr.len;refine n_ (PC.ok (JF (evs:=[]) L e5 (dx w (λ_=>False)) (λb a=>a.elim) be) ?_);rintro _ w4 ⟨s,i8,rfl,i9,b1,k4⟩;have e7:eZ c X.S []=X.S:=(vY a0 hn []).trans rfl;have z4:=k4.size;have j0:(eZ c X.S []).Cl:=by rw[e7];exact a0
 have j1:(eZ c X.S []).l.length=X.S.l.length:=by rw[e7]
 have j2:Hh w h.wp c.buffer.toNat M0 D0 E s (eZ c X.S []) X.waits none 0 0 [] w4 M0 D0 i8 (λ_=>False):=by
  have j3:=t.Po;have e8:=t.JI;refine⟨t.af k4,i9,sM,(aV.nil w4).mono (λb a=>a.elim) (λb a=>(by cases a)),λb a=>⟨.inl a,λi=>by have:=j3 b a;have:=b1 b i;omega⟩,λb a=>⟨.inl a,λi=>by have:=(e8 b a).1;have:=b1 b i;omega⟩,b1,λb a=>a.elim,λb a=>(by cases a),ai.keep k4,j0⟩
 have B:∀{w1:World},aj M0 w w1->w1.heap[p]? =some (.cells (h.cells c self) 105 (0,0)):=λ{w1} hk=>hk.get L.bw λj=>by
  have:=(c3 p j).2;rw[i7.2]at this;cases this
 have e9:∀b,E b->¬M0 b:=λb a j=>(A b a).2 (c3 b j).1;obtain⟨C,f2⟩:∃C,C=gP c.buffer.toNat evs (eZ c X.S []) [] X.waits:=⟨_,rfl⟩
 have r:iZ c X evs=pS (C.2.2.length+1) C.1 C.2.1 C.2.2:=by rw[f2];rfl
 refine⟨_,rfl,λH oa on oc I w'=>∃(d:Nat) (S:au) (b:List ah) (Lo:List (Bx ah)) (M Db Fs Do:ZN),I=d/\d<=en/\H=en-d/\Hh w h.wp c.buffer.toNat M0 D0 E s S b oa on oc Lo w' M Db Fs Do/\gP c.buffer.toNat (evs.drop d) S (Lo.map (·.x)) b=C/\S.l.length<=X.S.l.length+Lo.length/\Lo.length<=d/\b.length<=256/\Lo.length+b.length<=X.waits.length+d,
  ⟨_,0,_,_,_,_,_,_,_,rfl,Qj _,rfl,j2,f2.symm,by simp[j1],sM,f1,sM⟩,?_⟩
 rintro H oa on oc _ _ f3 ⟨d,S,b,Lo,M,Db,Fs,Do,rfl,hj,rfl,i,u,V,f4,b3,f6⟩;have j4:=i.keep.size;have j5:=i.out.len dC;refine al.dec (λj6=>?_) (λj7=>?_)
 ·obtain⟨n,g⟩:∃n,evs[d]? =some n:=⟨_,Qq oM⟩
  have a8:evs.drop d=n::evs.drop (d+1):=by
   rw[X4 oM]
   congr 1
   exact(Qv.1 g).2
  rw[a8]at u;obtain⟨gb,go,es,ha,j8,n4,d3,xa,xn,xc,rfl,d4,b4⟩:=(hr.keep i.keep e9).el d n g;refine⟨gb,go,ha,oM,oM,ck (es:=aH n xa xn xc) (k:=10) (bg _ _ _ _) rfl (λI ht=>by rw[Qx];exact d3 I ht) (PA.mk λn8 j9 n9 k0=>aC (bg n xa xn xc) k0 rfl λk1 k2 o0 f8=>ar (bg n xa xn xc) f8 ?_)⟩;have a2:ai f3 k1:=j9.new k2 λb a=>.inr (by have a:b=f3.heap.size:=a;omega);have o1:=a2.size;have d5:∀b,E b->¬Fs b:=λb a j=>by have:=i.nF b j;have:=(A b a).1;omega
  refine PC.ok ((i.af a2).add (d4.af a2) (λb a=>⟨by have:=(A b a).1;omega,d5 b a⟩) b4 oM) ?_;rintro _ k3 ⟨rfl,N,J,a5,m5⟩;have o2:=a5.size;have b5:=i.set.aE;have v:=a5.get f8 λj=>by have:=b5 _ j;omega
  have g0:=S.Af n;have f5:gP c.buffer.toNat (n::evs.drop (d+1)) S (Lo.map (·.x)) b=if(S.add n).1=0 then gP c.buffer.toNat (evs.drop (d+1)) (S.add n).2 (Lo.map (·.x)++[n]) b else if(S.add n).1=16 then gP c.buffer.toNat (evs.drop (d+1)) S (Lo.map (·.x)) b else gP c.buffer.toNat (evs.drop (d+1)) S (Lo.map (·.x)) (eS c.buffer.toNat b n).2:=rfl
  rw[f5]at u;have a9:(S.add n).1≠0->(S.add n).2=S:=λW=>by
   rcases S.eT n with⟨-,e⟩|⟨e,-⟩
   ·exact e
   ·rw[e]at W;exact Zz rfl W
  refine⟨_,rfl,al.eN (λq=>?_) (λq=>al.eN (λd6=>?_) (λd6=>λk5 k6=>?_))⟩
  ·rw[Zx q]at u
   have c5:(S.add n).2.l.length<=S.l.length+1:=g0;refine⟨_,_,_,_,_,_,_,_,_,_,_,_,ae v rfl,ae v rfl,ae v rfl,ae v rfl,ae v rfl,ae v rfl,ae v rfl,ae v rfl,ae v rfl,ae v rfl,PA.mk λk7 d7 o3 k8=>?_⟩;have g1:nC.In k7 E ⟨n,xa,xn,xc⟩:=⟨((d4.af a2).keep a5 λb a=>d5 b a).af d7,b4⟩
   have g2:=J.af d7;refine g2.push tQ g1 (λb a=>⟨.inl a,by have:=(A b a).1;have:=d7.size;omega,λj=>?_,λj=>by have:=J.nF b j;have:=(A b a).1;omega,λm=>by have:=(J.nA b m).1;have:=(A b a).1;omega⟩) k8 oM λa' c' o4 O g3 m6 _=>⟨_,_,_,rfl,_,oM,d+1,_,_,_,M,Db,N,O,an oM,oM,rfl,g3,?_,?_,?_,b3,?_⟩
   ·rcases(J.nM b j).1 with e|e
    ·exact e9 b a e
    ·have:=(A b a).1;omega
   ·rw[Q3];exact u
   ·rw[QX,List.length_singleton];omega
   ·rw[QX,List.length_singleton];omega
   ·rw[QX,List.length_singleton];omega
  ·rw[Zq q,Zx d6]at u
   rw[a9 q]at J;exact⟨_,oM,d+1,S,b,Lo,M,Db,N,Do,an oM,oM,rfl,J,u,V,oM,b3,oM⟩
  ·rw[Zq q,Zq d6]at u
   rw[a9 q]at J;have c6:ai k3 k5:=k6.keep;have c9:=J.af c6;refine⟨p,0,rfl,_,ae (B c9.keep) rfl,ar (bg n xa xn xc) (c6.get v id) (PC.ok (c9.wait (((d4.af a2).keep a5 λb a=>d5 b a).af c6) (λb a=>by have:=(A b a).1;have:=c6.size;omega) b4) ?_)⟩;rintro _ o5 ⟨I,rfl,M',b6,b7,m7⟩;have d8:=CC c.buffer.toNat b n;have g4:(eS c.buffer.toNat b n).2.length<=256:=Xx b7.buf.1.2.le b7.buf.1.1;exact⟨_,rfl,_,oM,d+1,S,_,Lo,M',b6,N,Do,an oM,oM,rfl,b7,u,V,oM,g4,oM⟩
 have o6:d=evs.length:=oM
 rw[List.drop_eq_nil_of_le oM]at u;have d0:C=(S,Lo.map (·.x),b):=u.symm;rw[d0]at r;have b8:Lo.length+b.length<=evs.length+256:=oM
 refine⟨λH oa on oc w'=>∃(S:au) (b:List ah) (Lo:List (Bx ah)) (M Db Fs Do:ZN) (k:Nat),H=b.length/\Hh w h.wp c.buffer.toNat M0 D0 E s S b oa on oc Lo w' M Db Fs Do/\b.length<=k/\pS (k+1) S (Lo.map (·.x)) b=iZ c X evs/\S.l.length<=X.S.l.length+Lo.length/\Lo.length+b.length<=evs.length+256,
  ⟨_,S,b,Lo,M,Db,Fs,Do,b.length,rfl,i,Q4 _,r.symm,V,b8⟩,?_⟩
 clear i u V f4 b3 f6 b8 j5 j4 d0 r
 rintro H oa on oc _ o7 ⟨S,b,Lo,M,Db,Fs,Do,k,rfl,i,hk,r,V,f6⟩;have o8:=i.keep.size;refine⟨p,0,rfl,_,ae (B i.keep) rfl,PC.ok (i.ready oM) ?_⟩;rintro _ o9 ⟨Y,n2,f7,Z,rfl,g5,d9,k9,g6,l,g7⟩;have p0:=g5.len dC;have d8:=wH S b;have g8:Z.length=(bF S b).1.length:=by rw[<-d9,Q8]
 have l0:pS (k+1) S (Lo.map (·.x)) b=if(bF S b).1=[]then(Lo.map (·.x),(bF S b).2)else pS k (eE (bF S b).1 S (Lo.map (·.x))).1 (eE (bF S b).1 S (Lo.map (·.x))).2 (bF S b).2:=rfl
 rw[l0]at r;have p1:=g7.size;refine⟨_,_,_,rfl,al.eN (λq=>?_) (λq=>?_)⟩
 ·have g9:(bF S b).1=[]:=QW oM
  rw[Zx g9]at r;rw[<-r];have hM:=l.buf.Po;have l3:=l.buf.JI;obtain⟨U,o,b9,a3,l4,c0,-⟩:=L.fk bX (k:=5) (G':=λb=>M b\/Db b) (C2:=mq p (h.cells c self) h c {X with waits:=(bF S b).2} X.S.l) (l.keep.mono λb _ a=>c3 b a)
   (λn g=>g.elim (λe=>(l.nM n e).1.imp (c3 n) id) λe=>(l.nD n e).1.imp (a1 n) id) (λn g=>g.elim (hM n) λe=>(l3 n e).1) ⟨M,Db,l.buf,λ_ h=>.inl h,λ_ h=>.inr h⟩ λd G hj hc=>by
    rcases d with _|_|_|_|_|_|_|d<;>first|exact hc|exact Zz rfl hj
  refine Ok.mk ⟨oa,on,oc,Lo,U,o,Do,rfl,l.out,rfl,l.NQ,b9,a3,λn g=>⟨(l.nO n g).2.1,λm=>(l.nA n m).2.2.2.1 g,λQ=>?_⟩,λn g=>⟨(l.nA n g).1,λQ=>?_⟩,by rw[Q8];omega⟩
  ·have e0:F n/\cls n=2:=by
    have:=congrFun (c0 2 dC) n;exact this▸Q
   rcases(l.nO n g).1 with e|e|e
   ·exact(A n e).2 e0.1
   ·have:=(a1 n e).2;rw[e0.2]at this;cases this
   ·have:=e6 n e0.1;omega
  ·rcases l4 n Q with e|e
   ·have:=e6 n e.1;have:=(l.nA n g).1;omega
   ·exact e.elim (l.nA n g).2.1 (l.nA n g).2.2.2.2
 ·have W:(bF S b).1≠[]:=λm=>by rw[m,ZQ]at g8;omega
  rw[Zq W]at r;obtain⟨k',rfl⟩:∃k',k=k'+1:=⟨k-1,by
   have:0<b.length:=by
    have:=List.length_pos_iff.2 W;omega
   omega⟩
  obtain⟨av,e1⟩:∃av,av=eE (bF S b).1 S (Lo.map (·.x)):=⟨_,rfl⟩
  rw[<-e1]at r;have h2:Lo.length+Z.length+(bF S b).2.length<=evs.length+256:=oM
  obtain⟨b2,b3⟩:∃b2,b2=(bF S b).2:=⟨_,rfl⟩
  rw[<-b3]at r l h2 d8;have e8:=l.buf.JI;obtain⟨x,hR⟩:∃x,x=(bF S b).1:=⟨_,rfl⟩
  rw[<-hR]at d9 g8 d8 e1;have f9:∀P,aG Y=some P->¬Fs P/\aG oa≠some P:=λP f=>by
   have e:=g6 P f;exact⟨λj=>by have:=i.set.aE P j;omega,λm=>by have:=i.out.aE P m;omega⟩
  have p2:∀P,aG Y=some P->¬Db P:=λP f j=>by
   have e:=g6 P f;have h6:=(i.buf.JI P j).1;omega
  refine⟨λH oa on oc I w'=>∃(d:Nat) (S:au) (Lo:List (Bx ah)) (Fs Do:ZN),I=d/\d<=n2/\H=n2-d/\Hh w h.wp c.buffer.toNat M0 D0 E s S b2 oa on oc Lo w' M Db Fs Do/\eE (x.drop d) S (Lo.map (·.x))=av/\S.l.length<=X.S.l.length+Lo.length/\Lo.length+(n2-d)+b2.length<=evs.length+256/\aV nC.kr 63 (λb=>aG Y=some b) w' Y n2 f7 Z/\(∀n∈Z,nC.In w' Db n)/\∀P,aG Y=some P->¬Fs P/\aG oa≠some P,
   ⟨_,0,S,Lo,Fs,Do,rfl,Qj _,rfl,l,e1.symm,V,oM,g5,k9,f9⟩,?_⟩
  rintro H c2 h0 h1 _ _ h3 ⟨d,y,b0,l5,h4,rfl,hj,rfl,K,R,l6,b8,c5,h7,e3⟩;have p3:=K.keep.size;have m8:=K.out.len dC;refine al.dec (λj6=>?_) (λj7=>?_)
  ·obtain⟨n,g⟩:∃n,Z[d]? =some n:=⟨_,Qq oM⟩
   have h8:x[d]? =some n.x:=by rw[<-d9,Q9,g];rfl
   have a8:x.drop d=n.x::x.drop (d+1):=by
    rw[X4 (Qv.1 h8).1]
    congr 1
    exact(Qv.1 h8).2
   have h9:eE (n.x::x.drop (d+1)) y (b0.map (·.x))=if(y.add n.x).1=0 then eE (x.drop (d+1)) (y.add n.x).2 (b0.map (·.x)++[n.x])else eE (x.drop (d+1)) (y.add n.x).2 (b0.map (·.x)):=rfl
   rw[a8,h9]at R;have d1:=h7 n (QZ g);obtain⟨gb,go,es,ha,j8,p4,d3,rfl,-⟩:=(c5.row (bytes:=96) dC ba).el d n g;refine⟨gb,go,ha,oM,oM,ck (es:=aH n.x n.a n.n n.c) (k:=10) (bg _ _ _ _) rfl (λI ht=>by rw[Qx];exact d3 I ht) (PA.mk λp5 l7 p6 l8=>aC (bg n.x n.a n.n n.c) l8 rfl λl9 m0 p7 i0=>ar (bg n.x n.a n.n n.c) i0 ?_)⟩;have a4:ai h3 l9:=l7.new m0 λb a=>.inr (by have a:b=h3.heap.size:=a;omega);have p8:=a4.size;have m1:=K.buf.JI;have i1:=c5.aE;refine PC.ok ((K.af a4).add (d1.keep a4 λ_ _ h=>h).1 (λP f=>⟨by have:=(m1 P f).1;omega,(K.nD P f).2⟩) d1.2 oM) ?_;rintro _ m2 ⟨rfl,e4,T,a6,i2⟩;have p9:=a6.size;have b5:=K.set.aE;have z:=a6.get i0 λj=>by have:=b5 _ j;omega
   have g0:=y.Af n.x;have c4:=(c5.af a4).keep a6 λP f=>(e3 P f).1;have c7:∀P∈Z,nC.In m2 Db P:=λP f=>((h7 P f).keep a4 λ_ _ h=>h).keep a6 λc8 Q=>(K.nD c8 Q).2;have a7:∀P,aG Y=some P->¬e4 P/\aG c2≠some P:=λP f=>⟨λj=>(i2 P j).elim (e3 P f).1 λe=>by have:=i1 P f;omega,(e3 P f).2⟩
   refine⟨_,rfl,al.eN (λq=>?_) (λq=>?_)⟩
   ·rw[Zx q]at R
    refine⟨_,_,_,_,_,_,_,_,_,_,_,_,ae z rfl,ae z rfl,ae z rfl,ae z rfl,ae z rfl,ae z rfl,ae z rfl,ae z rfl,ae z rfl,ae z rfl,PA.mk λq0 c1 q1 m3=>?_⟩;have i3:=T.af c1;have d2:=T.buf.JI;have q2:=c1.size;refine i3.push tQ ((c7 n (QZ g)).keep c1 λ_ _ h=>h) (λP f=>⟨.inr (T.nD P f).1,by have:=(d2 P f).1;omega,(d2 P f).2,(T.nD P f).2,λm=>(T.nA P m).2.2.2.2 f⟩) m3 oM λa' c' q3 O i4 e2 i5=>⟨_,_,_,rfl,_,oM,d+1,_,_,e4,O,an oM,oM,rfl,i4,?_,?_,?_,(c4.af c1).keep e2 λP f m=>(a7 P f).2 m,λP f=>((c7 P f).keep c1 λ_ _ h=>h).keep e2 λc8 Q m=>(T.nA c8 m).2.2.2.2 Q,λP f=>⟨(a7 P f).1,λm=>?_⟩⟩
    ·rw[Q3];exact R
    ·rw[QX,List.length_singleton];omega
    ·rw[QX,List.length_singleton];omega
    ·rcases i5 P m with e|e
     ·exact(a7 P f).2 e
     ·have:=c4.aE P f;omega
   ·rw[Zq q]at R
    have a9:(y.add n.x).2.l.length<=y.l.length:=by
     rcases y.eT n.x with⟨-,e⟩|⟨e,-⟩
     ·rw[e];exact Q4 _
     ·rw[e]at q;exact Zz rfl q
    exact⟨_,oM,d+1,_,b0,e4,h4,an oM,oM,rfl,T,R,oM,oM,c4,c7,a7⟩
  ·rw[List.drop_eq_nil_of_le oM]at R
   have i6:av=(y,b0.map (·.x)):=R.symm;rw[i6]at r;have q4:0<x.length:=by have:=List.length_pos_iff.2 W;rw[<-hR]at this;exact this
   exact⟨b2.length,oM,y,b2,b0,M,Db,l5,h4,k',rfl,K,oM,r,l6,oM⟩
end
structure Tq where
 kind:Int
 n:Int
 now:Int
 cmd:lb
 m:bY
section
variable (c:bR) (self:Int)
def QP(P:bk)(n:Tq):Int×bk:=
 if n.kind=0 then((eM c self P n.cmd).1,(eM c self P n.cmd).2.2)else
 if n.kind=1 then(0,(fq c self P n.n (pick n.now 4611686018427387904)).2)else
 if n.kind=2 then(cz c self P n.m).2 else
 if n.kind=3 then(0,(pP self P (pick n.now 4611686018427387904)).2)else
 if n.kind=4 then gY c P n.n else
 if n.kind=5 then(0,{P with D:=P.D.Gb n.n})else
 if n.kind=6 then dL c P else(0,P)
end
structure j_ (X Y:bk):Prop where
 evs:Y.S.l.length<=X.S.l.length+300\/Y.S.l.length<=16777216
 asked:Y.gE.asked.length<=X.gE.asked.length+1
def j_.refl(n:bk):j_ n n:=⟨.inl oM,oM⟩
def JJ{n P:Type}[BEq n][LawfulBEq n](a:n)(b:P):∀(c:List (n×P)),(aI c a b).length<=c.length+1
 |[]=>by simp[aI]
 |(e,f)::d=>by
  unfold aI;split
  ·simp
  ·have:=JJ a b d
   simp;omega
def Fc{P c:Type}[BEq P][LawfulBEq P](n:P)(d:c):∀(b:List (P×c)),n∈b.map (·.1)->(aI b n d).map (·.1)=b.map (·.1)
 |[],h=>by simp at h
 |(f,i)::e,h=>by
  unfold aI
  by_cases a:(n==f)=true
  ·rw[Zx a]
   have:=eq_of_beq a;subst this;rfl
  ·rw[Zq a]
   have g:n∈e.map (·.1):=by
    rcases Q2.1 h with h|h
    ·exact Zz (by rw[h];simp) a
    ·exact h
   simp[Fc n d e g]
def JK{n b:Type}[BEq n][LawfulBEq n](P:n):∀(a:List (n×b)),(bL a P).length<=a.length
 |[]=>by simp[bL]
 |(d,e)::c=>by
  unfold bL;split
  ·simp
  ·have:=JK P c
   simp;omega
def Hi(b n:Int)(P:List Int×List (Int×Int))(a:Int)(c:a∈P.2.map (·.1)):(gy b n P a).2.map (·.1)=P.2.map (·.1):=by
 unfold gy;split
 ·exact Fc _ _ _ c
 ·rfl
def wI(b n:Int):∀(a:List Int) (P:List Int×List (Int×Int)),(∀x∈a,x∈P.2.map (·.1))->(a.foldl (gy b n) P).2.map (·.1)=P.2.map (·.1)
 |[],P,_=>rfl
 |x::a,P,c=>by
  have d:=Hi b n P x (c x (QV ..));rw[List.foldl_cons,wI b n a _ λe f=>by rw[d];exact c e (QJ _ f),d]
def ks.Rb(n:ks)(P:Int):(n.Sn P).asked.length=n.asked.length:=by
 have b:=wI n.de P (n.open.take n.open.length) ([],n.asked) λc a=>by
  have a:=List.mem_of_mem_take a;unfold ks.open at a;exact(List.mergeSort_perm _ _).mem_iff.1 a
 have:=Zj List.length b;rw[Q8,Q8]at this;exact this
def sA(n:Nat):∀(b:List ah) (c:au) (P a:List ah),(gP n b c P a).2.1.length+(gP n b c P a).2.2.length<=P.length+a.length+b.length
 |[],c,P,a=>by simp[gP]
 |e::b,c,P,a=>by
  unfold gP;split
  ·have:=sA n b (c.add e).2 (P++[e]) a
   simp at this⊢;omega
  split
  ·have:=sA n b c P a
   simp;omega
  ·have:=sA n b c P (eS n a e).2
   have:=CC n a e;simp;omega
def r_:∀(P:List ah) (a:au) (n:List ah),(eE P a n).2.length<=n.length+P.length
 |[],a,n=>by simp[eE]
 |e::P,a,n=>by
  unfold eE;split
  ·have:=r_ P (a.add e).2 (n++[e])
   simp at this⊢;omega
  ·have:=r_ P (a.add e).2 n
   simp;omega
def Fe:∀(k:Nat) (P:au) (n a:List ah),(pS k P n a).1.length<=n.length+a.length
 |0,P,n,a=>by simp[pS]
 |k+1,P,n,a=>by
  unfold pS;have b:=wH P a;dsimp only;split
  ·simp
  ·have c:=r_ (bF P a).1 P n
   have d:=Fe k (eE (bF P a).1 P n).1 (eE (bF P a).1 P n).2 (bF P a).2;omega
def BZ(P:bR)(n:bk)(a:List ah):(iZ P n a).1.length<=n.waits.length+a.length:=by
 have b:=sA P.buffer.toNat a (eZ P n.S []) [] n.waits;have c:=Fe ((gP P.buffer.toNat a (eZ P n.S []) [] n.waits).2.2.length+1) (gP P.buffer.toNat a (eZ P n.S []) [] n.waits).1 (gP P.buffer.toNat a (eZ P n.S []) [] n.waits).2.1 (gP P.buffer.toNat a (eZ P n.S []) [] n.waits).2.2;simp at b;unfold iZ;dsimp only;omega
def Pu(a:bR)(n:au)(P:List ah):(eZ a n P).l.length<=n.l.length+P.length:=by
 have:=au.nH (n.l++P) ⟨a.aD.toNat,[]⟩;unfold eZ;simp at this⊢;omega
def Fh(a:bR)(n:bk)(P:List ah):(dt a n P).2.S.l.length<=n.S.l.length+P.length/\(dt a n P).2.gE=n.gE:=by
 unfold dt
 cases n.log with
 |none=>exact⟨by dsimp only;omega,rfl⟩
 |some b=>
  dsimp only;split
  ·exact⟨by dsimp only;omega,rfl⟩
  split
  ·exact⟨by dsimp only;omega,rfl⟩
  ·exact⟨Pu a n.S P,rfl⟩
def KJ(a:bR)(P:Int)(n:bk)(b:lb):j_ n (eM a P n b).2.2:=by
 unfold eM
 cases n.log with
 |none=>exact j_.refl n
 |some c=>
  dsimp only;split
  ·exact j_.refl n
  split
  ·have:=Fh a n [(eW a.decl n.S (bO a.decl n.S.l) P a.start b).1]
   simp at this;split
   ·exact⟨.inl bn,by dsimp only;rw[this.2];omega⟩
   ·exact⟨.inl bn,by dsimp only;rw[this.2];omega⟩
  ·exact j_.refl n
def Da(b:bR)(c:Int)(n:bk)(P:bY)(i:n.waits.length<=256)(j:b.chunk<=32):j_ n (cz b c n P).2.2:=by
 unfold cz
 cases n.log with
 |none=>exact j_.refl n
 |some k=>
  dsimp only;split
  ·exact j_.refl n
  rename_i g;split
  ·exact j_.refl n
  split
  ·rename_i h
   have l:P.events.length<=32:=by
    rcases Nat.lt_or_ge 32 P.events.length with f|f
    ·exfalso
     apply g;unfold e_;rw[Zx h];intro a;split at a
     ·cases a
     ·unfold fe at a
      split at a
      ·cases a
      ·rw[Zx (.inr oM)]at a;cases a
    ·exact f
   unfold mV;have m:=BZ b n P.events;dsimp only;split
   ·exact⟨.inl bn,by dsimp only;omega⟩
   ·have d:=Fh b {n with waits:=(iZ b n P.events).2} (iZ b n P.events).1
    dsimp only at d;split
    ·exact⟨.inl bn,by dsimp only;rw[d.2];omega⟩
    ·exact⟨.inl bn,by dsimp only;rw[d.2];omega⟩
  ·have e:(n.gE.Aa P.bM P.vec n.S.vec).asked.length<=n.gE.asked.length+1:=by
    unfold ks.Aa;dsimp only;split
    ·have:=JK P.bM n.gE.asked;omega
    ·omega
   split
   ·exact⟨.inl bn,e⟩
   split
   ·exact⟨.inl bn,e⟩
   ·exact⟨.inl bn,e⟩
def KI(c:bR)(n:Int)(a:bk)(P b:Int):j_ a (fq c n a P b).2:=by
 unfold fq;split
 ·exact j_.refl a
 ·exact⟨.inl bn,JJ _ _ _⟩
def yl(P:bR)(n:bk):(fC P n).2.gE=n.gE:=by
 unfold fC;dsimp only;split<;>rfl
def Dd(P:bR)(n:bk):j_ n (dL P n).2:=by
 unfold dL
 cases n.log with
 |none=>exact j_.refl n
 |some a=>
  dsimp only;split
  ·exact⟨.inl bn,by dsimp only;omega⟩
  ·exact⟨.inl bn,by dsimp only;omega⟩
section
variable {w w' w0 w1 w2:World} {p:Nat} {F E Dv:ZN} {cls:Nat->Nat} {h:kp} {c:bR} {self:Int} {X:bk} {m:bY} {va ea:WP} {vn vc en ec:Nat}
def Pm(hr:bU w p F c self X)(he:Env w0 w F){V:dv}(a6:X.log=some V)(c4:Row ku 96 w E ea en m.events)(N:∀n,E n->n<w.heap.size/\¬F n)(a7:m.events.length<=1000)(hl:X.S.l.length<=18000000):
  PP 119 #[ZL p,iP m va vn vc ea en ec] w (Ok λa5 w'=>∃O d,a5= .tuple #[O,ZH (mV c self X m).2.1]/\fL w d (mV c self X m).1 O w'/\bU w' p d c self (mV c self X m).2.2/\cu F w d w'):=by
 obtain⟨f,h,cls,Q⟩:=hr;have R:=Q.aE;refine nZ (PA.mk λS q s8 T=>?_);obtain⟨P,U⟩:∃P,P=iZ c X m.events:=⟨_,rfl⟩
 have y:∀{z},(if P.1=[]then([z_ X.S self m.bM],0,{X with waits:=P.2})else
   if(dt c {X with waits:=P.2} P.1).1≠0 then([],(dt c {X with waits:=P.2} P.1).1,{(dt c {X with waits:=P.2} P.1).2 with waits:=[]})else([z_ (dt c {X with waits:=P.2} P.1).2.S self m.bM],0,(dt c {X with waits:=P.2} P.1).2))=z->mV c self X m=z:=λ{z} b=>by rw[<-b,U];rfl
 refine⟨λw'=>∃d e,bU w' p d c self e/\cu F w d w'/\(∀n,d n->F n\/S.heap.size<=n)/\w'.heap[w.heap.size]? =some (.cells (dZ m va vn vc ea en ec).toArray 127 (0,0))/\mV c self X m=([z_ e.S self m.bM],0,e),?_,?_⟩
 ·refine⟨_,_,_,ae T rfl,PC.ok (Pn (cQ.af Q q) f (c4.af q) (λn a=>⟨by have:=(N n a).1;omega,(N n a).2⟩) a7 hl) ?_⟩
  rw[<-U];rintro _ W ⟨Y,on,oc,Lo,A,b0,Do,rfl,B,Z,c5,b2,g,r,c6,e1⟩;have hn:=B.len dC;have c7:Lo.length=P.1.length:=by rw[<-Z,Q8]
  have b3:=fl.unbox B c5 λn a=>⟨(r n a).1,(r n a).2.1⟩
  rw[TH,Z]at b3;have b4:Row ku 96 W (λn=>aG Y=some n\/Do n) Y on P.1:=b3.row dC ba;have C:cu F w A W:=⟨(ai.keep q).then g.keep,λn a=>(g.new n a).imp id λh1=>oM⟩
  have H:∀n,A n->F n\/S.heap.size<=n:=g.new;have b5:=g.keep.get T λb=>by have:=R _ b;omega
  have c8:=(he.af q).iE g;refine⟨_,_,_,rfl,al.dec (λe0=>?_) (λhz=>?_)⟩
  rotate_left
  ·have b6:P.1=[]:=QW oM
   exact⟨A,{X with waits:=P.2},⟨f,h,b0,b2⟩,C,H,b5,y (Zx b6)⟩
  have b7:P.1≠[]:=λs=>by rw[s,ZQ]at c7;omega
  refine PC.ok (Jv b2 f c8 (V:=V) a6 b4 (λn a=>a.elim (λs=>⟨B.aE n s,λb=>(c6 n s).2 b.1⟩) λb=>⟨(r n b).1,(r n b).2.2⟩) (by show X.S.l.length+_<=_;omega)) ?_;rintro _ c9 ⟨rfl,j,F2,a1,t,I,-⟩;have a0:=C.trans I;have e2:=C.keep.size;refine⟨_,rfl,al.eO (λb8=>?_) (λh0=>?_)⟩
  ·obtain⟨a2,Db,a,hM,hD⟩:=(show ON c9 (λn=>F2 n/\a1 n=5) j.wp c.buffer.toNat (dt c {X with waits:=P.2} P.1).2.waits from t.at' 5)
   refine⟨p,0,rfl,_,ae (t.at' 0).2 rfl,PC.ok (uT a) ?_⟩;rintro _ e3 ⟨rfl,a3,d0⟩;obtain⟨F3,k,J,l,-⟩:=t.iE bX (k:=5) (G':=a2) (C2:=mq p (j.cells c self) j c {(dt c {X with waits:=P.2} P.1).2 with waits:=[]} (dt c {X with waits:=P.2} P.1).2.S.l) ⟨d0.mono λn _ a=>hM n a,λn a=>.inl (hM n a)⟩ a3.Po ⟨a2,_,a3,λ_ h=>h,λn a=>a.elim⟩ λa4 G hj hc=>by
    rcases a4 with _|_|_|_|_|_|_|a4<;>first|exact hc|exact Zz rfl hj
   refine⟨rfl,Ok.mk ?_⟩;rw[y ((Zq b7).trans (Zx b8))];exact⟨_,F3,rfl,fL.nil _ _ _,⟨f,j,k,J⟩,a0.trans l⟩
  ·refine⟨F2,(dt c {X with waits:=P.2} P.1).2,⟨f,j,a1,t⟩,a0,λn a=>(I.new n a).elim (H n) λK=>.inr (by have:=g.keep.size;omega),I.keep.get b5 λb=>?_,y ((Zq b7).trans (Zq (by simpa using h0)))⟩
   rcases H _ b with K|K
   ·have:=R _ K;omega
   ·omega
 ·rintro _ d1 ⟨d,e,d2,L,e4,d3,d4⟩ b9 d5
  obtain⟨-,h',o,M⟩:=d2;have u:ai d1 b9:=d5.keep;have i:=cQ.af M u;refine⟨p,0,rfl,_,ae i.bw rfl,p,0,rfl,_,ae i.bw rfl,_,ae (u.get d3 id) rfl,PC.ok (Jp (i.at' 3).1) ?_⟩;rintro _ d6 ⟨a8,n2,c2,G,rfl,c1,hG,v⟩;have c3:=c1.aE;have e5:=L.keep.size;have z2:=u.size;have d7:=v.size;refine⟨_,_,_,_,_,_,_,_,_,rfl,PA.mk λd8 x e6 d9=>?_⟩;have hm:bl b9 [z_ e.S self m.bM] (.slice (ZM d6.heap.size) 1 1) d8:=bl.one (D:=G) d9 ⟨(c1.af x).row dC (by show e.S.vec.length*8<=aT;rw[e.S.cj];have:e.S.n<=64:=(i.at' 3).1.1.n;unfold aT;omega),dx _ _⟩ (λn a=>⟨hG n a,by have:=c3 n a;omega,by have:=c3 n a;omega⟩) d7 (v.then x);rw[d4];exact Ok.mk ⟨_,d,rfl,hm.out i.aE oM,⟨f,h',o,cQ.af i (v.then x)⟩,((L.keep.af u).af v).af x,L.new⟩
end
section
variable {w w' w0 w1 w2:World} {p:Nat} {F E Dv:ZN} {cls:Nat->Nat} {h:kp} {c:bR} {self:Int} {X:bk} {m:bY} {va ea:WP} {vn vc en ec:Nat}
def jY.KF(n:jY c self):1<=c.chunk/\c.chunk<=32:=by
 have:=n.right;unfold fH within at this;simp only[QK,Zk]at this;omega
def HX(hr:bU w p F c self X)(he:Env w0 w F)(V:Row aP 8 w Dv va vn m.vec)(f3:∀n,Dv n->n<w.heap.size/\¬F n)(c8:Row ku 96 w E ea en m.events)(hE:∀n,E n->n<w.heap.size/\¬F n)(hl:X.S.l.length<=18000000):
  PP 76 #[ZL p,iP m va vn vc ea en ec] w (Ok λW w'=>∃q e,W= .tuple #[q,ZH (cz c self X m).2.1]/\fL w e (cz c self X m).1 q w'/\bU w' p e c self (cz c self X m).2.2/\cu F w e w'):=by
 have b0:=hr;obtain⟨x,h,cls,f⟩:=hr;have I:=f.aE;obtain⟨f4,h9,i0⟩:=x.aD;have i1:=x.KF;refine mi (PA.mk λw8 Y s8 g8=>?_);have h8:=cQ.af f Y;have no:∀{w1:World} {g:Int},ai w w1->cz c self X m=([],g,X)->Ok (λW w'=>∃q e,W= .tuple #[q,ZH (cz c self X m).2.1]/\fL w e (cz c self X m).1 q w'/\bU w' p e c self (cz c self X m).2.2/\cu F w e w') (.returned (.tuple #[.slice none 0 0,ZH g])) w1:=λ{w1 g} J Z=>by
  rw[Z];exact Ok.mk ⟨_,F,rfl,fL.nil _ _ _,b0.af J,ai.keep J,λn P=>.inl P⟩
 refine⟨p,0,rfl,_,ae h8.bw rfl,gW Tryz.underlying101 ⟨_,rfl,?_⟩⟩;have c9:DL w (λn=>F n/\cls n=2) h.dp h.lp X.D X.log:=f.at' 2
 cases y:X.log with
 |none=>
  obtain⟨Fd,-,-,i⟩:=c9;rw[y]at i;have i:h.lp=none:=i;rw[i];exact al.tt rfl (no Y (by unfold cz;rw[y]))
 |some a8=>
 obtain⟨a9,a0,a6,-⟩:=DL.Pl (y▸c9) (he.sub λn P=>P.1) λn P=>I n P.1;have K:∀{r},(if e_ m c.aD.toNat c.chunk≠0 then([],e_ m c.aD.toNat c.chunk,X)else if m.mR≠self then([],1,X)else if m.kind=3 then mV c self X m else
   if m.kind≠4 then(my X.S self m c.chunk,0,{X with gE:=X.gE.Aa m.bM m.vec X.S.vec})else
   if X.S.missing m.vec c.chunk=[]then([],0,{X with gE:=X.gE.Aa m.bM m.vec X.S.vec})else([⟨3,self,m.bM,[],X.S.missing m.vec c.chunk⟩],0,{X with gE:=X.gE.Aa m.bM m.vec X.S.vec}))=r->cz c self X m=r:=λ{r} k=>by rw[<-k];unfold cz;rw[y]
 rw[a0];refine al.ff rfl λf6 d0=>?_;have L:ai w f6:=Y.then d0.keep;have d1:=cQ.af f L;have d2:=(d0.keep (S:=λ_=>False)).get g8 id;refine ar (eU m va vn vc ea en ec) d2 ⟨p,0,rfl,_,ae d1.bw rfl,p,0,rfl,_,ae d1.bw rfl,?_⟩;rw[f4];refine PC.ok (Pd (V.af L) (c8.af L) oM) ?_;rintro _ i2 ⟨rfl,d3⟩;have a1:=L.then d3;have f8:=cQ.af f a1;have d4:=d3.get d2 id;refine⟨_,rfl,al.eO (λs=>no a1 (K (Zx s))) (λs=>⟨_,ae d4 rfl,p,0,rfl,_,ae f8.bw rfl,λg0 d5=>?_⟩)⟩;have j:ai w g0:=a1.then d5.keep;have i3:=cQ.af f j;have b8:=(d5.keep (S:=λ_=>False)).get d4 id;have b9:¬e_ m c.aD.toNat c.chunk≠0:=by simpa using s
 refine al.eO (λM=>no j (K ((Zq b9).trans (Zx M)))) (λM=>⟨_,ae b8 rfl,al.eN (λi=>?_) (λi=>λd6 d7=>?_)⟩)
 ·have Z:=K (((Zq b9).trans (Zq (by simpa using M))).trans (Zx i))
  have d8:m.events.length<=1000:=by
   have b:=s;unfold e_ at b;simp only at b;rw[Zx i]at b;split at b
   ·cases b
   ·unfold fe at b
    split at b
    ·cases b
    split at b
    ·cases b
    ·omega
  refine ar (eU m va vn vc ea en ec) b8 (PC.ok (Pm (b0.af j) (he.af j) y (c8.af j) (λn P=>⟨by have:=(hE n P).1;have:=j.size;omega,(hE n P).2⟩) d8 hl) ?_);rintro _ i4 ⟨q,e,rfl,b1,g1,b2⟩;have g2:=b1;obtain⟨a2,n2,c2,a7,D,rfl,o2,o3,o4,o5,o6⟩:=b1;refine⟨_,_,_,_,rfl,Ok.mk ?_⟩;have c0:=j.size;rw[Z];exact⟨_,e,rfl,⟨a2,n2,c2,a7,D,rfl,o2,o3,o4,λn P=>⟨by have:=(o5 n P).1;omega,(o5 n P).2⟩,λn P=>⟨by have:=(o6 n P).1;omega,(o6 n P).2⟩⟩,g1,(ai.keep j).then b2.keep,λn P=>(b2.new n P).imp id λb=>oM⟩
 ·have c1:ai w d6:=j.then d7.keep
  have N:=cQ.af f c1;have c4:=(d7.keep (S:=λ_=>False)).get b8 id;have d9:et d6 h.tp (λn=>F n/\cls n=6) X.gE:=N.at' 6;have fO:=(N.at' 3).1;have nS:¬(F p/\cls p=6):=λg=>by have:=g.2;rw[f.Ju.2]at this;cases this
  have e0:¬(F w.heap.size/\cls w.heap.size=6):=λg=>by have:=I _ g.1;omega
  refine⟨λn=>F n/\cls n=6,p,0,rfl,nS,_,ae N.bw rfl,e0,_,ae c4 rfl,e0,_,_,_,ae c4 rfl,p,0,rfl,_,ae N.bw rfl,PC.ok (oJ fO) ?_⟩;rintro _ g3 ⟨a2,n2,c2,G,rfl,e1,z,hG⟩;have hN:X.S.n<=64:=fO.1.n;have g4:Row aP 8 g3 G a2 n2 X.S.vec:=e1.row dC (by rw[X.S.cj];unfold aT;omega);have i5:=c1.size;have i6:=z.size;have A:=c1.then z;refine⟨_,_,_,rfl,ai.keep z,PC.ok (Jw (d9.af z) ((V.af A).tU) g4.tU λ_=>dw.2 λn P k=>?_) ?_⟩
  ·have:=hG n (e1.self n P);have:=I n k.1;omega
  rintro _ c5 ⟨G6,rfl,a3,b3⟩;obtain⟨O,d,B,a,-⟩:=(cQ.af f A).iE bX (k:=6) (G':=G6) (C2:=mq p (h.cells c self) h c {X with gE:=X.gE.Aa m.bM m.vec X.S.vec} X.S.l) b3 a3.aE a3 λa4 G hj s=>by
   rcases a4 with _|_|_|_|_|_|_|a4<;>first|exact s|exact Zz rfl hj
  have l:cu F w O c5:=⟨(ai.keep A).then a.keep,λn P=>(a.new n P).imp id λb=>by have:=A.size;omega⟩
  have Q:=a.keep.get (z.get c4 id) λk=>by have:=I _ k;omega
  have b4:=(V.af A).keep a.keep λn P=>(f3 n P).2;have i7:=l.keep.size;have c6:=λ{r} k=>K (r:=r) (((Zq b9).trans (Zq (by simpa using M))).trans ((Zq i).trans k));refine⟨_,rfl,b3.keep,_,ae Q rfl,al.eO (λR=>λe2 g5=>?_) (λR=>λe3 g6=>?_)⟩
  ·have C:ai c5 e2:=g5.keep
   have t:=cQ.af B C;have i8:=C.size;refine⟨p,0,rfl,_,ae t.bw rfl,p,0,rfl,_,ae t.bw rfl,ar (eU m va vn vc ea en ec) (C.get Q id) ⟨p,0,rfl,_,ae t.bw rfl,PC.ok (Jy (t.at' 3).1 (show X.S.l.length<=20000000 by omega) (b4.af C)) ?_⟩⟩;rintro _ g7 c7;obtain⟨a5,S,c3,rfl⟩:=c7.sl;have b5:ai e2 g7:=by obtain⟨_,_,_,_,_,_,_,_,_,_,_,J⟩:=c7;exact J
   refine⟨_,_,_,rfl,Ok.mk ?_⟩;rw[c6 (Zx R)];exact⟨_,O,rfl,c7.out t.aE oM,⟨x,h,d,cQ.af t b5⟩,(l.keep.af C).af b5,l.new⟩
  ·have o:ai c5 e3:=g6.keep
   have H:=cQ.af B o;have i9:=o.size;refine⟨p,0,rfl,_,ae H.bw rfl,_,_,_,ae (o.get Q id) rfl,p,0,rfl,_,ae H.bw rfl,PC.ok (yM (H.at' 3).1 (by show X.S.l.length<=_;omega) (b4.af o)) ?_⟩;rintro _ e4 ⟨a5,S,c3,G3,rfl,T,u,g9⟩;have e5:=T.len dC;have b6:=T.aE;have e6:=cQ.af H u;have j0:=u.size;have d8:(X.S.missing m.vec c.chunk).length<=32:=by
    unfold au.missing;rw[Qy];omega
   change aV ku 63 G3 e4 a5 S c3 (X.S.missing m.vec c.chunk)at T
   refine⟨_,_,_,rfl,al.dec (λh7=>λe7 h0=>?_) (λhz=>Ok.mk ?_)⟩
   ·have e8:X.S.missing m.vec c.chunk≠[]:=λg=>by
     have b7:S=(X.S.missing m.vec c.chunk).length:=e5;rw[g,ZQ]at b7;omega
    have v:ai e4 e7:=h0.keep;have e9:=cQ.af e6 v;have j1:=v.size;refine⟨p,0,rfl,_,ae e9.bw rfl,_,ae (v.get (u.get (o.get Q id) id) id) rfl,PA.mk λh2 U j2 h6=>Ok.mk ?_⟩;have hm:bl e3 [⟨3,self,m.bM,[],X.S.missing m.vec c.chunk⟩] (.slice (ZM e7.heap.size) 1 1) h2:=bl.one (m:=⟨3,self,m.bM,[],X.S.missing m.vec c.chunk⟩) (va:=none) (vn:=0) (vc:=0) (D:=G3) h6 ⟨dx _ _,((T.af v).af U).row dC ba⟩ (λn P=>⟨g9 n P,by have:=b6 n P;omega,by have:=b6 n P;omega⟩) oM ((u.then v).then U);rw[c6 ((Zq (by simpa using R)).trans (Zq e8))];exact⟨_,O,rfl,hm.out H.aE oM,⟨x,h,d,cQ.af e9 U⟩,(((l.keep.af o).af u).af v).af U,l.new⟩
   ·have f2:X.S.missing m.vec c.chunk=[]:=QW (by
     have b7:S=(X.S.missing m.vec c.chunk).length:=e5;omega)
    rw[c6 ((Zq (by simpa using R)).trans (Zx f2))];exact⟨_,O,rfl,fL.nil _ _ _,⟨x,h,d,e6⟩,(l.keep.af o).af u,l.new⟩
end
section
variable {w w' w0 w1 w2:World} {p:Nat} {F E Dv:ZN} {cls:Nat->Nat} {h:kp} {c:bR} {self:Int} {X:bk}
def NZ(O:bU w p F c self X)(t:Env w0 w F)(Q:aM e):
  PP 52 #[ZL p,ZH e] w (Ok λR w'=>∃r,R= ZH (gY c X e).1/\bU w' p r c self (gY c X e).2/\cu F w r w'/\(gY c X e).2.S.l.length<=16777216):=by
 obtain⟨B,h,cls,s⟩:=O;have b8:=s.aE;have b9:=s.Ju;have u:bb w F cls (recC p (xX h c self h.lp (ZM h.sp) (ZM h.bp)) {h with lp:=none} c {X with log:=none} false):=
  ⟨λk=>by
   have d:=s.at' k;rcases k with _|_|_|_|_|_|_|k<;>first|exact d|trivial|(intro S;cases S)|(obtain⟨Fd,g,v,T⟩:=d;exact⟨Fd,g,v,rfl⟩),s.aE⟩
 obtain⟨Fd,U,m,-⟩:=(show DL w (λn=>F n/\cls n=2) h.dp none X.D none from u.at' 2)
 refine nX ⟨p,0,rfl,_,ae (u.at' 0).2 rfl,PC.ok (LA U Q) ?_⟩;rintro _ V ⟨C,rfl,E,H⟩;obtain⟨W,Y,x,o,-⟩:=u.iE iB (k:=2) (G':=C) (C2:=recC p (xX h c self h.lp (ZM h.sp) (ZM h.bp)) {h with lp:=none} c {X with log:=none,D:=X.D.ep e} false) ⟨H.keep.mono λn _ P=>m n P,λn P=>(H.new n P).imp (m n) id⟩ (λn P=>E.aE n P) ⟨C,E,λn P=>P,rfl⟩ λa G i d=>by
  rcases a with _|_|_|_|_|_|_|a<;>first|exact d|exact Zz rfl i
 obtain⟨I,Db,P,J,hD⟩:=(show ON V (λn=>W n/\Y n=5) h.wp c.buffer.toNat X.waits from x.at' 5)
 refine⟨rfl,p,0,rfl,_,ae (x.at' 0).2 rfl,PC.ok (uT P) ?_⟩;rintro _ c1 ⟨rfl,K,Z⟩;obtain⟨j,f,b,l,-⟩:=x.iE iB (k:=5) (G':=I) (C2:=recC p (xX h c self h.lp (ZM h.sp) (ZM h.bp)) {h with lp:=none} c {X with log:=none,D:=X.D.ep e,waits:=[]} false) ⟨Z.mono λn _ P=>J n P,λn P=>.inl (J n P)⟩ K.Po ⟨I,_,K,λ_ h=>h,λn P=>P.elim⟩ λa G i d=>by
  rcases a with _|_|_|_|_|_|_|a<;>first|exact d|exact Zz rfl i
 refine⟨rfl,p,0,rfl,_,ae (b.at' 0).2 rfl,PC.ok (Jz (b.at' 6)) ?_⟩;rintro _ y ⟨rfl,a3,L⟩;have z:bb y j f (recC p (xX h c self h.lp (ZM h.sp) (ZM h.bp)) {h with lp:=none} c {X with log:=none,D:=X.D.ep e,waits:=[],gE:=⟨X.gE.de,[],[]⟩} false):=b.same iB (k:=6) L a3 λa G i d=>by
  rcases a with _|_|_|_|_|_|_|a<;>first|exact d|exact Zz rfl i
 have M:cu F w j y:=by
  have g:=o.trans l;exact⟨g.keep.new (L.mono λn _ P=>P.1) λn P=>g.new n P,g.new⟩
 have a5:=t.iE M;have b3:=DL.uG (show DL y (λn=>j n/\f n=2) h.dp none (X.D.ep e) none from z.at' 2) (a5.sub λn P=>P.1);refine⟨rfl,p,0,rfl,_,ae (z.at' 0).2 rfl,PC.ok (Oj t.laid b3) ?_⟩;rintro _ c2 ⟨rfl,a0,b4⟩;obtain⟨G2,b5,a6,b6,-⟩:=DL.Nw (Y:=λ_=>False) (a0.mono λn P=>P.elim id False.elim) b4;obtain⟨c3,b7,a7,a1,-⟩:=z.iE iB (k:=2) (G':=G2) (C2:=recC p (xX h c self h.lp (ZM h.sp) (ZM h.bp)) {h with lp:=none} c {X with log:=none,D:=dq (X.D.ep e),waits:=[],gE:=⟨X.gE.de,[],[]⟩} false) a6 b6 (by
   obtain⟨Fd,g,v,T⟩:=b5;exact⟨Fd,g,v,rfl⟩) λa G i d=>by
  rcases a with _|_|_|_|_|_|_|a<;>first|exact d|exact Zz rfl i
 have N:=M.trans a1;refine⟨rfl,PC.ok (yN (h:={h with lp:=none}) (z1:=h.lp) (z2:=ZM h.sp) (z3:=ZM h.bp) a7 B (t.iE N)) ?_⟩;rintro _ c4 ⟨rfl,a8,h',r,q,A,a9⟩;exact⟨_,rfl,Ok.mk ⟨r,rfl,⟨B,h',q,A⟩,N.trans a9,a8⟩⟩
def QG(r:bU w p F c self X)(s:aM e):
  PP 57 #[ZL p,ZH e] w (Ok λt w'=>∃k,t= .tuple #[]/\bU w' p k c self {X with D:=X.D.Gb e}/\cu F w k w'):=by
 obtain⟨u,h,cls,f⟩:=r;obtain⟨Fd,v,g,a⟩:=(show DL w (λn=>F n/\cls n=2) h.dp h.lp X.D X.log from f.at' 2)
 refine oW ⟨p,0,rfl,_,ae f.bw rfl,PC.ok (OB s v) ?_⟩;rintro _ l ⟨rfl,x,i⟩;have y:cQ l F cls p h c self {X with D:=X.D.Gb e}:=bb.same f bX (k:=2) (i.keep.mono λn _ P=>g n P) (by
  refine⟨Fd,x,g,?_⟩;show match X.log with
   |none=>h.lp=none
   |some j=>j.a_≠[]/\∃b d,h.lp=some ⟨b,0,none⟩/\ju l h.dp b d j/\∀n,d n->(F n/\cls n=2)/\¬Fd n
  cases m:X.log with
  |none=>rw[m]at a;exact a
  |some j=>
   rw[m]at a;obtain⟨z,b,d,A,B,o⟩:=a;exact⟨z,b,d,A,B.keep i.keep λn P=>(o n P).2,o⟩) λq G C E=>by
  rcases q with _|_|_|_|_|_|_|q<;>first|exact E|exact Zz rfl C
 exact⟨rfl,Ok.mk ⟨F,rfl,⟨u,h,cls,y⟩,i.keep.mono λn _ P=>(g n P).1,λn P=>.inl P⟩⟩
def DQ{V:dv}{D:ak}{l:List ah}{size:Int}(P:(aQ V D l size).no=0):(aQ V D l size).V.a_≠[]:=by
 revert P
 unfold aQ;split
 ·rename_i n;intro h;exact Zz h n
 split
 ·rename_i n;intro h;exact Zz h n
 ·exact Cx
def Ib(R:bU w p F c self X)(A:Env w0 w F)(hl:X.S.l.length<=18000000):
  PP 53 #[ZL p] w (Ok λa2 w'=>∃S,a2= ZH (dL c X).1/\bU w' p S c self (dL c X).2/\cu F w S w'):=by
 have a6:=R;obtain⟨T,h,cls,m⟩:=R;have a8:=m.aE;refine mj ⟨p,0,rfl,_,ae m.bw rfl,gW Tryz.underlying101 ⟨_,rfl,?_⟩⟩;have U:DL w (λn=>F n/\cls n=2) h.dp h.lp X.D X.log:=m.at' 2
 cases k:X.log with
 |none=>
  obtain⟨Fd,-,-,g⟩:=U;rw[k]at g;have g:h.lp=none:=g;rw[g];have o:dL c X=(15,X):=by unfold dL;rw[k]
  rw[o];exact al.tt rfl (Ok.mk ⟨F,rfl,a6,cu.refl _ _⟩)
 |some a=>
 obtain⟨y,d,B,-⟩:=DL.Pl (k▸U) (A.sub λn P=>P.1) λn P=>a8 n P.1;have C:∀{i},(if(aQ a X.D X.S.l c.bh).no≠0 then((aQ a X.D X.S.l c.bh).no,{X with D:=(aQ a X.D X.S.l c.bh).D})else(0,{X with D:=(aQ a X.D X.S.l c.bh).D,log:=some (aQ a X.D X.S.l c.bh).V}))=i->dL c X=i:=λ{i} E=>by rw[<-E];unfold dL;rw[k]
 rw[d];refine al.ff rfl λw9 d9=>?_;have V:ai w w9:=d9.keep;have l:=cQ.af m V;have W:=m.Ju;have H:¬(F p/\cls p=2):=λq=>by have:=q.2;rw[W.2]at this;cases this
 refine⟨λn=>F n/\cls n=2,p,0,rfl,H,_,ae l.bw rfl,p,0,rfl,H,_,ae l.bw rfl,p,0,rfl,_,ae l.bw rfl,p,0,rfl,H,_,ae l.bw rfl,PC.ok (si (l.at' 3).1 oM) ?_⟩;rintro _ r ⟨b6,b7,cc,G,rfl,Y,I,hG⟩;have z:=cQ.af l I;have s:=V.then I;have a9:=Y.aE;obtain⟨Z,f,-,J⟩:=DL.Pl (show DL r (λn=>F n/\cls n=2) h.dp h.lp X.D (some a)from k▸z.at' 2) ((A.af s).sub λn P=>P.1) λn P=>z.aE n P.1;have E:Z=y:=by rw[d]at f;cases f;rfl
 subst E;refine⟨_,_,_,rfl,ai.keep I,?_⟩;rw[d];refine PC.ok (Iz A.laid J (Y.row dC ba) a9 oM) ?_;have a0:=DQ (V:=a) (D:=X.D) (l:=X.S.l) (size:=c.bh);generalize aQ a X.D X.S.l c.bh=i at C a0;rintro _ a3 ⟨K,a4,b0,a5,⟨t,rfl,b1⟩|⟨t,q3,rfl,b2⟩⟩
 ·obtain⟨Fd,h1,h2,g,h4⟩:=b1
  have L:∀n,¬(n<r.heap.size/\¬(F n/\cls n=2))->(F n/\cls n=2)\/r.heap.size<=n:=λn P=>by
   rcases Nat.lt_or_ge n r.heap.size with M|M
   ·exact .inl (Classical.byContradiction λh8=>P ⟨M,h8⟩)
   ·exact .inr M
  have a1:aj (λn=>F n/\cls n=2) r a3:=a5.mono λn b8 P=>(L n P).resolve_right oM;obtain⟨N,j,e,u,-⟩:=z.fk bX (k:=2) (G':=λn=>Fd n\/K n) (C2:=mq p (h.cells c self) h c {X with D:=i.D} X.S.l) a1 (λn P=>P.elim (λv=>L n λh6=>(g n v).2 (.inl h6)) λv=>L n (b0 n v).2) (λn P=>P.elim (h1.aE n) (a4.aE n)) (by
    refine⟨Fd,h1,λn P=>.inl P,?_⟩;show match X.log with
     |none=>h.lp=none
     |some a=>a.a_≠[]/\∃y Fl,h.lp=some ⟨y,0,none⟩/\ju a3 h.dp y Fl a/\∀n,Fl n->(Fd n\/K n)/\¬Fd n
    rw[k];exact⟨B,Z,K,d,a4,λn P=>⟨.inr P,λhd=>(g n hd).2 (.inr P)⟩⟩) λx G O o=>by
   rcases x with _|_|_|_|_|_|_|x<;>first|exact o|exact Zz rfl O
  refine⟨_,_,rfl,a1,al.eN (λQ=>Zz Q t) (λ_=>Ok.mk ?_)⟩;rw[C (Zx t)];exact⟨N,rfl,⟨T,h,j,e⟩,(ai.keep s).then u.keep,λn P=>(u.new n P).imp id λv=>by have:=s.size;omega⟩
 ·obtain⟨G2,b3,u,b4,hY⟩:=DL.Hd b2 a5 (a0 t)
  obtain⟨N,j,e,b,-⟩:=z.iE bX (k:=2) (G':=G2) (C2:=mq p (h.cells c self) {h with lp:=ZM q3} c {X with D:=i.D,log:=some i.V} X.S.l) u b4 b3 λx G O o=>by
   rcases x with _|_|_|_|_|_|_|x<;>first|exact o|exact Zz rfl O
  refine⟨_,_,rfl,u.keep,al.eN (λ_=>⟨p,0,rfl,PS.mk (e.at' 0).2 sM λb9 a7 c0 b5=>Ok.mk ?_⟩) (λQ=>Zz rfl Q)⟩;rw[C (Zq (by simpa using t))];exact⟨N,rfl,⟨T,{h with lp:=ZM q3},j,cQ.store e a7 b5⟩,((ai.keep s).then b.keep).then (a7.mono λn _ q=>by have q:n=p:=q;rw[q];exact W.1),λn P=>(b.new n P).imp id λv=>by have:=s.size;omega⟩
end
variable{R:Int}{c5:List bu}{x:WP}{Q:aS}
section
variable {w w' w0 w1 w2:World} {p:Nat} {F E D:ZN} {c:bR} {self:Int}
def eV(c:bR)(n:WP)(tn P:Nat)(a:WP)(b d:Nat):List Value:=[ZH c.aD,ZH c.uG,ZH c.bh,ZH c.chunk,ZH c.buffer,ZH c.de,ZH c.every,ZH c.start,.slice n tn P,.slice a b d]
abbrev wZ(c:bR)(n:WP)(tn P:Nat)(a:WP)(b d:Nat):Value:=.agg (eV c n tn P a b d).toArray
def Ie(c:bR)(n:WP)(tn P:Nat)(a:WP)(b d:Nat):iL ZP 27 (eV c n tn P a b d)=true:=kR
def pH:PP 69 #[ZH e,ZH q,ZH R] w (Ok λn w'=>n= .bool (within e q R)/\w=w'):=by
 refine vj (al.dec (λP=>Ok.mk ⟨?_,rfl⟩) (λP=>Ok.mk ⟨?_,rfl⟩))
 ·simp[within];omega
 ·simp[within];omega
def Pp{tn z A B:Nat}:PP 41 #[wZ c d tn z x A B,ZH self] w (Ok λj w'=>j= .bool (fH c self)/\ai w w'):=by
 refine zt (PA.mk λw1 s I P=>?_);have J:∀{k l m:Int} {o:Bool->Prop} {t:List PanicEntry->ZU},o (within k l m)->∃p u v,(Value.func (.func 69) #[] #[])= .func (.func p) u v/\enters ZP p=true/\PC ZP p (u++ #[ZH k,ZH l,ZH m]++v) w1 (λC E=>∃(y:Bool),C= .bool y/\E=w1/\o y) t:=λ{k l m o t} q=>by
  refine⟨_,_,_,rfl,kR,PC.ok pH ?_⟩;rintro _ _ ⟨rfl,rfl⟩;exact⟨_,rfl,rfl,q⟩
 have no:fH c self=false->Ok (λj w'=>j= .bool (fH c self)/\ai w w') (.returned (.bool false)) w1:=λF=>Ok.mk ⟨by rw[F],s⟩;have a:fH c self=(within c.aD 1 64&&(within self 0 (c.aD-1)&&(within c.uG 64 262144&&(decide (c.bh>=1)&&(decide (c.every>=1)&&(within c.chunk 1 32&&(within c.buffer 1 256&&(within c.de 1 1048576&&decide (c.start>=0))))))))):=by
  unfold fH;simp only[Bool.and_assoc]
 refine⟨_,ae P rfl,_,_,_,rfl,kR,PC.ok pH ?_⟩;rintro _ _ ⟨rfl,rfl⟩;refine⟨_,rfl,al.mk (λn=>⟨_,ae P rfl,_,_,_,rfl,kR,PC.ok pH ?_⟩) (λn=>no (by rw[a,n];rfl))⟩;have H:IntKind.wrap .i64 (c.aD-1)=c.aD-1:=wrap_i64 (by have:=bH.1 n;unfold aM;omega);rw[H];rintro _ _ ⟨rfl,rfl⟩;refine⟨_,rfl,al.mk (λb=>⟨_,ae P rfl,_,_,_,rfl,kR,PC.ok pH ?_⟩) (λb=>no (by rw[a,n,b];rfl))⟩;rintro _ _ ⟨rfl,rfl⟩;refine⟨_,rfl,al.mk (λe=>⟨_,ae P rfl,al.mk (λf=>⟨_,ae P rfl,al.mk (λg=>⟨_,ae P rfl,_,_,_,rfl,kR,PC.ok pH ?_⟩) (λg=>no (by rw[a,n,b,e,f,g];rfl))⟩) (λf=>no (by rw[a,n,b,e,f];rfl))⟩) (λe=>no (by rw[a,n,b,e];rfl))⟩;rintro _ _ ⟨rfl,rfl⟩;refine⟨_,rfl,al.mk (λh=>⟨_,ae P rfl,_,_,_,rfl,kR,PC.ok pH ?_⟩) (λh=>no (by rw[a,n,b,e,f,g,h];rfl))⟩;rintro _ _ ⟨rfl,rfl⟩;refine⟨_,rfl,al.mk (λi=>⟨_,ae P rfl,_,_,_,rfl,kR,PC.ok pH ?_⟩) (λi=>no (by rw[a,n,b,e,f,g,h,i];rfl))⟩;rintro _ _ ⟨rfl,rfl⟩;refine⟨_,rfl,al.mk (λr=>⟨_,ae P rfl,Ok.mk ⟨by rw[a,n,b,e,f,g,h,i,r];rfl,s⟩⟩) (λr=>no (by rw[a,n,b,e,f,g,h,i,r];rfl))⟩
def Si{n P:Nat}(a:Q.types[n]? =some c5)(c:P<c5.length):Q.DP (n:Int) (P:Int)=c5[P]? :=by
 have d:=(Qv.1 a).1;have b:Q.at (n:Int)=c5:=by
  unfold aS.at;rw[Zx (bH.2 ⟨oM,oM⟩),Qx,QQ,a];rfl
 unfold aS.DP;rw[b,Zx (by simp only[QK,bH];exact⟨⟨oM,oM⟩,oM,oM⟩),Qx]
end
section
variable {w w' w0 w1 w2:World} {p:Nat} {F E D:ZN} {c:bR} {self:Int}
def Mi{tn tc L pc:Nat}(g:bt w D Q d tn x L)(hD:∀n,D n->n<w.heap.size):
  PP 43 #[.agg #[.slice d tn tc,.slice x L pc]] w (Ok λc4 w'=>∃t MT a2 c u j G,c4= .agg #[.slice t MT a2,.slice c u j]/\bt w' G Q t MT c u/\(∀n,G n->w.heap.size<=n/\n<w'.heap.size)/\ai w w'):=by
 have f4:=g.aZ.len;have b8:=g.aZ.fj;have f6:=g.FG.len;have f8:=g.FG.fj;refine xh (PA.mk λM k4 s4 g4=>PA.mk λw5 k5 s5 g5=>⟨_,_,_,ae (k5.get g4 id) rfl,?_⟩);have v:=k4.then k5;refine Am (aV.nil (c:=BO) (e:=138) w5) Rr (g.FG.af v) (λn P=>⟨by have:=hD n P;omega,λa=>by cases a⟩) (by rw[ZQ];unfold aT at*;omega) (by rw[ZQ];unfold aT at*;unfold maxLen;omega) λc j e Fp d1 k8 j6 d2=>⟨_,_,_,rfl,PA.mk λj7 g0 j8 g1=>PS.mk g1 sM λj9 g2 k0 g3=>PS.mk g3 sM λr g6 k1 g7=>?_⟩
 rw[List.nil_append,Xz]at d1;have a9:=d1.alone;have b9:∀n,aG c=some n->w5.heap.size<=n/\n<e.heap.size:=λn P=>⟨(d2 n P).elim False.elim id,a9.aE n P⟩
 have z8:=k8.size;have y:ai w5 e:=k8.mono λn _ a=>by cases a
 have z:ai e r:=(g0.new g2 λn P=>.inr (by have P:n=e.heap.size:=P;omega)).new g6 λn P=>.inr (by have P:n=e.heap.size:=P;omega);have b0:ai w r:=(v.then y).then z;have gp:=z.get (y.get (k5.get g4 id) id) id;have gr:=z.get (y.get g5 id) id;have b1:r.heap[e.heap.size]? =some (.cells #[.slice none 0 0,.slice c (0+L) j] 25 (0,0)):=g7;rw[Xz]at b1;have k2:=z.size;refine⟨_,_,_,ae gp rfl,λA a3 w'=>∃h:Nat,a3=h/\h<=tn/\A=tn-h/\aj (·=e.heap.size) r w'/\∃N O oc R,w'.heap[e.heap.size]? =some (.cells #[.slice N O oc,.slice c L j] 25 (0,0))/\aV nB 118 R w' N O oc (Q.types.take h)/\∀n,R n->r.heap.size<=n,
  ⟨_,0,rfl,Qj _,rfl,aj.refl _,none,0,0,λ_=>False,b1,aV.nil _,λ_ g=>g.elim⟩,?_⟩
 rintro A _ _ S ⟨h,rfl,hj,rfl,s,N,O,oc,R,T,l,B⟩;have U:ai w S:=b0.new s λn P=>.inr (by have P:n=e.heap.size:=P;have:=v.size;have:=y.size;omega);have zk:=s.size;have b2:=s.get gp λa=>by have a:w.heap.size=e.heap.size:=a;have:=k4.size;omega
 refine al.dec (λk3=>?_) (λk6=>?_)
 ·have g8:h<Q.types.length:=oM
  have V:Q.types[h]? =some Q.types[h]:=Qq g8;generalize Q.types[h]=m at V;obtain⟨n,d5,es,ha,P,k7,d6,fa,fn,fc,rfl,W⟩:=(g.aZ.af U).el h m V;have c0:=d6 0 dC;have g9:nB.k=1:=rfl;rw[g9,Nat.mul_one]at c0;have h0:=W.len;have c2:=W.fj;refine⟨n,d5,ha,oM,oM,fa,fn,fc,by rw[Qx];exact c0,PA.mk λk9 h3 l0 h4=>PS.mk h4 sM λi h6 l3 h7=>PA.mk λl4 d3 l5 h8=>PS.mk h8 sM λC d4 l6 h9=>?_⟩;have p:ai S C:=((h3.new h6 λn P=>.inr (by have P:n=S.heap.size:=P;omega)).then d3).new d4 λn P=>.inr (by have P:n=i.heap.size:=P;omega);have d7:=d4.get (d3.get h7 id) oM;have e3:=p.get b2 id;have l7:=p.size;have e4:=U.then p;refine⟨_,_,_,ae d7 rfl,λA a3 w'=>∃f:Nat,a3=f/\f<=fn/\A=fn-f/\aj (·=i.heap.size) C w'/\∃E F X Y,w'.heap[i.heap.size]? =some (.cells #[.slice E F X] 118 (0,0))/\aV sG 121 Y w' E F X (m.take f)/\∀n,Y n->C.heap.size<=n,
   ⟨_,0,rfl,Qj _,rfl,aj.refl _,none,0,0,λ_=>False,h9,aV.nil _,λ_ g=>g.elim⟩,?_⟩
  rintro A _ _ d8 ⟨f,rfl,hk,rfl,q,E,F,X,Y,gx,o,H⟩;have zx:=q.size;have b3:ai w d8:=e4.new q λn P=>.inr (by have P:n=i.heap.size:=P;have:=U.size;omega);have b4:=q.get e3 λa=>by have a:w.heap.size=i.heap.size:=a;have:=aA b2;omega
  refine al.dec (λj4=>?_) (λj5=>?_)
  ·have d9:f<m.length:=oM
   have I:m[f]? =some m[f]:=Qq d9;have a4:=Si V d9;rw[I]at a4;obtain⟨fb,fo,e6,-,-,-,-,ya,yn,yc,rfl,-,b5⟩:=(W.af p).el f m[f] I;generalize m[f]=J at I a4 b5;refine⟨_,_,_,_,_,_,ae b4 rfl,ae b4 rfl,PC.ok (pI (g.af b3) λn P=>by have:=hD n P;have:=b3.size;omega) ?_⟩;rw[a4];rintro _ e0 ⟨e1,Z,a0,cc,Fm,rfl,c3,e2⟩;have e8:=c3.aE;have l8:=e1.size;refine cx (JA J Z a0 cc) ⟨_,rfl,PA.mk λl9 i0 m0 i1=>aC (gM J Z a0 cc) i1 rfl λi2 i3 m1 a7=>?_⟩;have a5:ai e0 i2:=i0.new i3 λn P=>.inr (by have P:n=e0.heap.size:=P;omega);have b6:=e1.then a5;have e9:=b6.get gx id;refine⟨_,_,_,ae e9 rfl,_,_,_,_,_,_,ae a7 rfl,ae a7 rfl,ae a7 rfl,ae a7 rfl,PA.mk λi4 e5 m2 i5=>?_⟩;have a1:=b6.then e5;have f0:=(c3.af a5).af e5;have m3:=c3.len dC;have a8:Row jr 32 i4 Fm Z a0 J.bG:=f0.row dC (by
    obtain⟨_,_,_,_,_,_,_,_,_,_,hq,a8,_⟩:=(W.af p).el f J I;have h1:=a8.fj;have h2:=a8.len;rw[<-h2];exact h1)
   refine fK (c:=sG) (x:=J) (o.af a1) UI i5 (D:=Fm) ⟨Z,a0,cc,rfl,a8,b5⟩ (λn P=>⟨by have:=e8 n P;have:=a5.size;omega,λa=>by have:=o.aE n (o.self n a);have:=e2 n P;omega⟩) (by rw[Qy];unfold aT at*;omega) (by rw[Qy];unfold aT at c2;unfold maxLen;omega) λa' c' m4 K f1 c5 c6=>⟨_,_,_,rfl,?_⟩
   have i6:¬aG E=some i.heap.size:=λa=>by have:=H _ (o.self _ a);omega
   have m5:=a1.size;have m6:=c5.size;have b:∀n,K n->C.heap.size<=n:=λn P=>by
    rcases c6 n P with k|k|k
    ·exact H n k
    ·have:=e2 n k;omega
    ·omega
   refine PS.mk (c5.get (a1.get gx id) i6) sM λm7 e7 m8 i7=>⟨_,oM,f+1,an (by unfold aT at c2;omega),oM,rfl,((q.af a1).new c5 λn P=>.inr (H n (o.self n P))).then e7,a',F+1,c',K,i7,?_,b⟩
   rw[Qw,I];exact f1.keep e7 λn P a=>by have a:n=i.heap.size:=a;have:=b n P;omega
  ·rw[Qz oM]at o
   have i8:aj (·=i.heap.size) C d8:=q;have b7:=q.get (p.get T id) λa=>by have a:e.heap.size=i.heap.size:=a;have:=aA T;omega
   refine⟨_,_,_,ae b7 rfl,_,_,_,ae gx rfl,PA.mk λi9 c7 m9 j0=>?_⟩;have a6:ai S i9:=(p.new q λn P=>.inr (by have P:n=i.heap.size:=P;omega)).then c7;refine fK (c:=nB) (x:=m) (l.af a6) Qc j0 (D:=Y) ⟨E,F,X,rfl,(o.af c7).row dC (by rw[<-h0];exact c2)⟩ (λn P=>⟨by have:=o.aE n P;omega,λa=>by have:=l.aE n (l.self n a);have:=H n P;omega⟩) (by rw[Qy];unfold aT at*;omega) (by rw[Qy];unfold aT at b8;unfold maxLen;omega) λa' c' n0 K f2 c8 c6=>⟨_,_,_,rfl,?_⟩
   have j1:¬aG N=some e.heap.size:=λa=>by have:=B _ (l.self _ a);omega
   have n1:=a6.size;have n2:=c8.size;have b:∀n,K n->r.heap.size<=n:=λn P=>by
    rcases c6 n P with k|k|k
    ·exact B n k
    ·have:=H n k;omega
    ·omega
   refine PS.mk (c8.get (c7.get b7 id) j1) sM λn3 c1 n4 j2=>⟨_,oM,h+1,an (by unfold aT at b8;omega),oM,rfl,((s.af a6).new c8 λn P=>.inr (B n (l.self n P))).then c1,a',O+1,c',K,j2,?_,b⟩
   rw[Qw,V];exact f2.keep c1 λn P a=>by have a:n=e.heap.size:=a;have:=b n P;omega
 ·rw[Qz oM]at l
  have z5:=y.size;have f5:=s.get gr λa=>by have a:M.heap.size=e.heap.size:=a;omega
  have f7:=((a9.af z).keep s λn P a=>by have a:n=e.heap.size:=a;have:=b9 n P;omega)
  refine⟨_,_,_,_,_,_,ae T rfl,ae T rfl,PS.mk f5 sM λn8 c9 n9 j3=>PS.mk j3 sM λo0 d0 o1 f3=>⟨_,_,_,_,_,_,ae f3 rfl,ae f3 rfl,Ok.mk ⟨_,_,_,_,_,_,λn=>R n\/aG c=some n,rfl,⟨?_,?_⟩,?_,?_⟩⟩⟩
  ·exact(((l.row (bytes:=24) dC (by rw[<-f4];exact b8)).keep (c9.then d0) λn P a=>by have a:n=M.heap.size:=a;have:=B n P;omega)).mono λn P=>.inl P
  ·exact(((f7.row (bytes:=40) dC (by rw[<-f6];exact f8)).keep (c9.then d0) λn P a=>by have a:n=M.heap.size:=a;have:=b9 n P;omega)).mono λn P=>.inr P
  ·rintro n (P|P)
   ·have:=B n P;have:=l.aE n P;have:=v.size;have:=b0.size;omega
   ·have:=b9 n P;have:=v.size;omega
  ·exact U.new (c9.then d0) λn P=>.inr (by have P:n=M.heap.size:=P;have:=k4.size;omega)
end
section
variable {w w':World} {D D' S:ZN} {d:aS} {ta pa:WP} {tn tc pn pc:Nat}
def tI(n:bu):Bool:=if n.kind==4 then !within n.bG.length 1 16 else decide (0<n.bG.length)
def CD(n:List bu):Bool:=!within n.length 1 8||n.any tI
def JP{n:j->Bool}{P:List j}{b:j}(c:P[a]? =some b)(d:(P.take a).any n=false)(e:n b=false):(P.take (a+1)).any n=false:=by
 rw[Qw,c,List.any_append,d];simp[e]
def Mr{P:j->Bool}{b:List j}{n:j}(c:b[a]? =some n)(d:P n=true):b.any P=true:=List.any_eq_true.2 ⟨n,QZ c,d⟩
def f_{e:Type}{f:e->Int}:∀{P:List e} {a:Nat} {b:e},P[a]? =some b->cK f (P.take a)=0->cK f (P.take (a+1))=f b
 |[],a,b,n,_=>by simp at n
 |y::P,0,b,n,_=>by simp at n;subst n;simp[cK];intro n;exact n.symm
 |y::P,a+1,b,n,c=>by
  simp only[Zw,cK]at c⊢;split at c
  ·rename_i d;simp at d;exact Zz c d
  ·rename_i d;rw[Zq d];exact f_ (by simpa using n) c
def pL{a:Type}{P:a->Int}:∀{l:List a} {j:Nat},cK P (l.take j)≠0->cK P l=cK P (l.take j)
 |[],j,n=>by simp at n⊢
 |y::l,0,n=>by simp[cK]at n
 |y::l,j+1,n=>by
  simp only[Zw,cK]at n⊢;split
  ·rfl
  ·rename_i b;rw[Zq b]at n;exact pL n
def JQ(b:bt w D d ta tn pa pn):PP 66 #[.agg #[.slice ta tn tc,.slice pa pn pc]] w (Ok λc w'=>c= .bool (rZ d)/\ai w w'):=by
 have r:=b.aZ.len;have s:=b.aZ.fj;have hp:=b.FG.len;unfold aT at s;refine Dr (PA.mk λY t s1 u=>⟨_,_,_,ae u rfl,PC.ok cB ?_⟩);rintro _ _ ⟨rfl,rfl⟩;refine⟨_,rfl,al.not (al.mk (λg=>⟨_,_,_,ae u rfl,al.dec (λZ=>Ok.mk ⟨?_,t⟩) (λZ=>⟨_,_,_,ae u rfl,λh j w'=>∃P:Nat,j=P/\P<=tn/\h=tn-P/\(d.types.take P).any CD=false/\ai Y w',⟨_,0,rfl,Qj _,rfl,sM,aj.refl _⟩,?_⟩)⟩) (λg=>Ok.mk ⟨?_,t⟩))⟩
 ·unfold rZ;rw[<-r,g,Zx be]
 rotate_left
 ·unfold rZ;rw[<-r,g];rfl
 have v:rZ d=d.types.any CD:=by unfold rZ CD tI;rw[<-r,g,Zq be]
 rintro h j _ w2 ⟨P,rfl,hj,rfl,x,K⟩;have k:=t.then K;refine al.dec (λa8=>?_) (λa9=>?_)
 rotate_left
 ·rw[Qz oM]at x
  exact Ok.mk ⟨by rw[v,x],k⟩
 obtain⟨y,z,A,es,rfl,_,_,B,e,a2,f,c1,rfl,C⟩:=((b.af k).aZ).HU (i:=P) oM;have L:=C.len;have a0:=C.fj;unfold aT at a0;have M:=e 0 dC;simp only[nB,Nat.mul_one,Nat.add_zero]at M;refine⟨y,z,rfl,oM,oM,_,_,_,M,PA.mk λw3 k3 s3 g3=>PS.mk g3 sM λl k4 s4 N=>⟨_,_,_,ae N rfl,PC.ok cB ?_⟩⟩;rintro _ _ ⟨rfl,rfl⟩;have m:ai w2 l:=k3.new k4 λy s=>.inr oM;have E:CD A=true->Ok (λc w'=>c= .bool (rZ d)/\ai w w') (.returned (.bool true)) l:=λn=>Ok.mk ⟨by rw[v,Mr B n],k.then m⟩;refine⟨_,rfl,al.not (al.mk (λF=>⟨_,_,_,ae N rfl,λh j w'=>∃i:Nat,j=i/\i<=f/\h=f-i/\(A.take i).any tI=false/\ai l w',⟨_,0,rfl,Qj _,rfl,sM,aj.refl _⟩,?_⟩) (λF=>E (by unfold CD;rw[<-L,F];rfl)))⟩;rintro m' t' _ w5 ⟨i,rfl,hi,rfl,H,o⟩;have a3:=(k.then m).then o;refine al.dec (λa6=>?_) (λa7=>?_)
 rotate_left
 ·rw[Qz oM]at H
  exact⟨_,oM,P+1,an oM,oM,rfl,JP B x (by unfold CD;rw[<-L,F,H];rfl),(K.then m).then o⟩
 obtain⟨b2,a1,p,b0,rfl,_,_,O,a4,Q,R,S,rfl,T,b1,b3⟩:=((C.af m).af o).HU (i:=i) oM;have U:=T.len;have a5:=T.fj;unfold aT at a5;refine⟨b2,a1,rfl,oM,oM,ck (gM p Q R S) rfl a4 (PA.mk λw6 k6 s6 g6=>aC (gM p Q R S) g6 rfl λI k7 s7 J=>⟨_,ae J rfl,?_⟩)⟩;have V:ai w5 I:=k6.new k7 λy s=>.inr oM;have W:tI p=true->Ok (λc w'=>c= .bool (rZ d)/\ai w w') (.returned (.bool true)) I:=λn=>Ok.mk ⟨by rw[v,Mr B (by unfold CD;rw[Mr O n];simp)],a3.then V⟩;have next:tI p=false->∃X,X<f-i/\∃q:Nat,IntKind.wrap .i64 ((i:Int)+1)=q/\q<=f/\X=f-q/\(A.take q).any tI=false/\ai l I:=λn=>
  ⟨_,oM,i+1,an oM,oM,rfl,JP O H n,o.then V⟩
 refine al.eN (λa=>⟨_,_,_,ae J rfl,PC.ok cB ?_⟩) (λa=>al.not (al.eN (λe=>Zz e a) (λ_=>⟨_,_,_,ae J rfl,al.dec (λb=>W ?_) (λb=>next ?_)⟩)))
 ·rintro _ _ ⟨rfl,rfl⟩
  refine⟨_,rfl,al.not (al.mk (λn=>al.not (al.eN (λ_=>next ?_) (λe=>Zz a e))) (λn=>W ?_))⟩
  ·unfold tI;rw[a,<-U,n];rfl
  ·unfold tI;rw[a,<-U,n];rfl
 ·unfold tI;rw[Zq (by simpa using a)];simp only[Zk];omega
 ·unfold tI;rw[Zq (by simpa using a)];simp only[decide_eq_false_iff_not];omega
def He(hT:fw w)(f:bt w D d ta tn pa pn)(hD:∀P,D P->P<w.heap.size):
  PP 40 #[.agg #[.slice ta tn tc,.slice pa pn pc]] w (Ok λB w'=>B= ZH (dj d)/\ai w w'):=by
 have hl:=f.aZ.len;have e:=f.aZ.fj;have b1:=f.FG.len;have a6:=f.FG.fj;unfold aT at e a6;refine Bh (PA.mk λw1 U s1 C=>⟨_,_,_,_,_,_,ae C rfl,ae C rfl,PC.ok (JQ (f.af U)) ?_⟩);rintro _ w2 ⟨rfl,V⟩;have W:=U.then V;have X:=V.get C id;refine⟨_,rfl,al.mk (λt=>Ok.mk ⟨by unfold dj;rw[t];rfl,W⟩) (λt=>⟨_,_,_,ae X rfl,λj a w'=>∃n:Nat,a=n/\n<=tn/\j=tn-n/\cK (λa=>cK (fJ a) a) (d.types.take n)=0/\ai w2 w',⟨_,0,rfl,Qj _,rfl,rfl,aj.refl _⟩,?_⟩)⟩;rintro j a _ Y ⟨n,rfl,hj,rfl,u,E⟩;have v:=W.then E;have Z:=E.get X id;have F:∀{w':World},ai w w'->∀n b,d.types[n]? =some b->cK (λa=>cK (fJ a) a) (d.types.take n)=0->∀x:Int,cK (fJ b) b=x->x≠0->Ok (λB w'=>B= ZH (dj d)/\ai w w') (.returned (ZH x)) w':=by
  intro w' a2 n b y h0 x hr h;have k:=f_ y h0;rw[hr]at k;have h2:=pL (l:=d.types) (j:=n+1) (by rw[k];exact h);refine Ok.mk ⟨?_,a2⟩;unfold dj;rw[t,h2,k];simp[h]
 refine al.dec (λb2=>?_) (λb3=>⟨_,_,_,ae Z rfl,λj a w'=>∃i:Nat,a=i/\i<=pn/\j=pn-i/\cK (mP d) (d.projs.take i)=0/\ai Y w',⟨_,0,rfl,Qj _,rfl,rfl,aj.refl _⟩,?_⟩)
 ·obtain⟨P,H,I,es,rfl,_,_,y,hc,b4,n1,c1,rfl,z⟩:=((f.af v).aZ).HU (i:=n) oM
  have b5:=z.len;have a7:=z.fj;unfold aT at a7;have a0:=hc 0 dC;simp only[nB,Nat.mul_one,Nat.add_zero]at a0;refine⟨P,H,rfl,oM,oM,_,_,_,a0,PA.mk λw4 o s4 g4=>PS.mk g4 sM λJ K s5 A=>⟨_,_,_,ae A rfl,λj a w'=>∃i:Nat,a=i/\i<=n1/\j=n1-i/\cK (fJ I) (I.take i)=0/\ai J w',⟨_,0,rfl,Qj _,rfl,rfl,aj.refl _⟩,?_⟩⟩;have a8:ai Y J:=o.new K λP e=>.inr oM;rintro m' t' _ L ⟨i,rfl,hi,rfl,c,l⟩;have p:=a8.then l;refine al.dec (λa3=>?_) (λa9=>?_)
  ·obtain⟨M,N,b,b0,rfl,_,_,m,O,Q,R,S,rfl,hM,b6,b7⟩:=(z.af p).HU (i:=i) oM
   refine⟨M,N,rfl,oM,oM,ck (gM b Q R S) rfl O (PA.mk λw7 g s7 g7=>aC (gM b Q R S) g7 rfl λw8 q s8 g8=>⟨_,_,_,ae (q.get (g.get (l.get A id) id) (by have:=l.size;omega)) rfl,ar (gM b Q R S) g8 (PC.ok (Hk (hT.af ?_) (z.af ?_) (hM.af ?_)) ?_)⟩)⟩
   ·exact(v.then p).then (g.new q λP e=>.inr oM)
   ·exact p.then (g.new q λP e=>.inr oM)
   ·exact g.new q λP e=>.inr oM
   ·rintro _ w9 ⟨rfl,k9⟩
    have a4:ai L w9:=aj.then (g.new q λP e=>.inr oM) k9;refine⟨_,rfl,al.eO (λh=>?_) (λT=>⟨_,oM,i+1,an oM,oM,rfl,by rw[f_ m c];exact T,l.then a4⟩)⟩;have k:=f_ m c;exact F ((v.then p).then a4) n I y u _ (by rw[pL (j:=i+1) (by rw[k];exact h),k]) h
  ·rw[Qz oM]at c
   refine⟨_,oM,n+1,an oM,oM,rfl,by rw[f_ y u];exact c,E.then p⟩
 ·rw[Qz oM]at u
  rintro m' t' _ w4 ⟨i,rfl,hi,rfl,c,o⟩;have r:=v.then o;have a1:dj d=cK (mP d) d.projs:=by unfold dj;rw[t,u];simp
  refine al.dec (λa3=>?_) (λa9=>?_)
  ·obtain⟨M,N,b,b0,rfl,_,_,m,O,rfl,_⟩:=((f.af r).FG).HU (i:=i) oM
   refine⟨M,N,rfl,oM,oM,ck (qx b) rfl O (PA.mk λJ K s5 A=>aC (qx b) A rfl λL l s6 g6=>?_)⟩;have s:ai w4 L:=K.new l λP e=>.inr oM;have a5:=s.get (o.get Z id) id;refine⟨_,_,_,_,_,_,ae a5 rfl,ae a5 rfl,ar (qx b) g6 (PC.ok (Hl (f.af (r.then s)) λP e=>by have:=hD P e;have:=(r.then s).size;omega) ?_)⟩;rintro _ w7 ⟨rfl,g⟩;refine⟨_,rfl,al.eO (λh=>Ok.mk ⟨?_,(r.then s).then g⟩) (λT=>⟨_,oM,i+1,an oM,oM,rfl,by rw[f_ m c];exact T,(o.then s).then g⟩)⟩;rw[a1,pL (j:=i+1) (by rw[f_ m c];exact h),f_ m c]
  ·rw[Qz oM]at c
   exact Ok.mk ⟨by rw[a1,c],r⟩
end
def cA(n:bR)(P:Int):Int×bk:=
 if dj n.decl≠0 then(dj n.decl,(BX n).2)else if fH n P=false then(1,(BX n).2)else BX n
def VY(a:World)(P:bR)(n:Int)(b:Value)(c:World):Prop:=ai a c/\
 (((cA P n).1≠0/\b= .tuple #[.pointer none,ZH (cA P n).1])\/
  ((cA P n).1=0/\∃d e,b= .tuple #[ZL d,ZH 0]/\bU c d e P n (cA P n).2/\(∀f,e f->a.heap.size<=f)/\(cA P n).2.S.l.length<=16777216))
section
variable {w w' w0 w1 w2:World} {p:Nat} {F E D:ZN} {c:bR} {self:Int}
def Tn(hT:fw w0)(hL:Laid w0)(A:ai w0 w){tn Q B R:Nat}(hd:bt w D c.decl d tn x B)(hD:∀n,D n->n<w.heap.size)(hs:aM c.bh)(d4:aM c.every)(d5:aM c.start):
  PP 19 #[wZ c d tn Q x B R,ZH self] w (Ok (VY w c self)):=by
 refine Dk (PA.mk λf4 C f6 E=>⟨_,_,_,_,_,_,ae E rfl,ae E rfl,PC.ok (He (hT.af (A.then C)) (hd.af C) λn P=>by have:=hD n P;omega) ?_⟩);rintro _ d6 ⟨rfl,b8⟩;have a3:=C.then b8;have b9:d6.heap[w.heap.size]? =some (.cells (eV c d tn Q x B R).toArray 27 (0,0)):=b8.get E id;refine⟨_,rfl,al.eO (λj=>Ok.mk ⟨a3,.inl ?_⟩) (λS=>ar (Ie c d tn Q x B R) b9 (PC.ok Pp ?_))⟩
 ·have:cA c self=(dj c.decl,(BX c).2):=by unfold cA;rw[Zx j]
  rw[this];exact⟨j,rfl⟩
 rintro _ T ⟨rfl,c1⟩;have F:=a3.then c1;have U:=c1.get b9 id;refine⟨_,rfl,al.not (al.mk (λl=>?_) (λl=>Ok.mk ⟨F,.inl ?_⟩))⟩
 rotate_left
 ·have:cA c self=(1,(BX c).2):=by unfold cA;rw[Zq (by simpa using S),Zx l]
  rw[this];exact⟨show(1:Int)≠0 by decide,rfl⟩
 have a4:cA c self=BX c:=by unfold cA;rw[Zq (by simpa using S),Zq (by rw[l];simp)]
 have c2:jY c self:=⟨l,S,hs,d4,d5⟩
 have c3:=l;unfold fH within at c3;simp only[QK,Zk]at c3;refine⟨_,ae U rfl,PC.ok (tN (A.then F) oM oM) ?_⟩;rintro _ c4 ⟨dp,rfl,d7,V⟩;obtain⟨Fd,c5,-,d8,-⟩:=d7;have H:∀n,Fd n->T.heap.size<=n/\n<c4.heap.size:=λn P=>⟨Nat.le_of_not_lt (d8 n P).2,c5.aE n P⟩
 have W:=F.then V;have X:=V.get U id;refine⟨_,_,rfl,al.eO (λj=>Zz rfl j) (λ_=>⟨_,_,_,_,_,_,ae X rfl,ae X rfl,PC.ok (Mi (hd.af W) λn P=>by have:=hD n P;have:=W.size;omega) ?_⟩)⟩;rintro _ c6 ⟨m,MT,o,p,q,r,I,rfl,d9,J,K⟩;have c7:=W.then K;have e0:=K.get X id;have f8:=C.size;have g1:=F.size;have g2:=V.size;have g3:=K.size;have g4:=aA E;have e9:w.heap.size<T.heap.size:=aA U;refine⟨_,_,_,_,_,_,rfl,PS.mk e0 (by simp[eV]) λg5 e1 g6 e2=>PS.mk e2 (by simp[eV]) λY e3 g7 e4=>λs c8=>?_⟩;have Z:aj (λn=>n=w.heap.size) c6 Y:=e1.then e3;have L:ai Y s:=c8.keep;have g8:s.heap.size=Y.heap.size:=by rw[c8.heap]
 have b:s.heap[w.heap.size]? =some (.cells (eV c m MT o p q r).toArray 27 (0,0)):=L.get e4 id;have c9:ai w s:=(c7.new Z λn P=>.inr (by have P:n=w.heap.size:=P;omega)).then L;have g:∀{n:Nat},T.heap.size<=n->n≠w.heap.size:=λ{n} P=>by omega
 refine⟨λ_=>False,id,_,_,_,_,_,_,_,_,_,_,_,_,_,_,ae b rfl,ae b rfl,ae b rfl,ae b rfl,ae b rfl,ae b rfl,ae b rfl,ae b rfl,ae b rfl,ae b rfl,_,ae b rfl,id,_,ae b rfl,PC.ok (Kn oM) ?_⟩;rintro _ e5 ⟨h,rfl,d0,f2,f3,b4⟩;refine⟨_,rfl,b4,PC.ok JB ?_⟩;rintro _ f ⟨tp,M,rfl,a5,N,d1⟩;have g9:=b4.size;have h2:=N.size;have d2:=a5.aE;refine⟨_,rfl,N,PA.mk λb5 O h3 e6=>⟨O,?_⟩⟩
 let e:kp:=⟨m,MT,o,p,q,r,dp,none,0,0,h,tp⟩
 let a2:bk:=⟨⟨c.aD.toNat,[]⟩,gQ c.uG.toNat,none,[],⟨c.de,[],[]⟩⟩
 have d3:b5.heap[f.heap.size]? =some (.cells (xX e c self none none none) 105 (0,0)):=e6;have a0:ai s b5:=(b4.then N).then O;have a1:=c9.then a0;have b6:∃t,bb b5 (λn=>∃k,(match k with|0=>n=f.heap.size|1=>I n|2=>Fd n|5=>n=h|6=>M n|_=>False:Prop)) t (recC f.heap.size (xX e c self none none none) e c a2 false):=by
  refine bb.join (G:=λk n=>match k with|0=>n=f.heap.size|1=>I n|2=>Fd n|5=>n=h|6=>M n|_=>False) (λk=>?_) (λi a9 n a hj=>?_) λk n P=>?_
  ·match k with
   |0=>exact⟨rfl,d3⟩
   |1=>exact(((d9.keep Z λn P u=>g (by have:=J n P;omega) u).af L).af a0)
   |2=>exact⟨Fd,((((c5.keep K λ_ _ e=>e).keep Z λn P u=>g (H n P).1 u).keep L λ_ _ e=>e).keep a0 λ_ _ e=>e),λn P=>P,rfl⟩
   |3=>intro u;cases u
   |4=>trivial
   |5=>exact⟨_,_,d0.af (N.then O),λ_ e=>e,λn P=>P.elim⟩
   |6=>exact a5.af O
   |k+7=>trivial
  ·have v:∀i:Nat,(match i with|0=>n=f.heap.size|1=>I n|2=>Fd n|5=>n=h|6=>M n|_=>False:Prop)->i=(if n<c4.heap.size then 2 else if n<c6.heap.size then 1 else if n<e5.heap.size then 5 else if n<f.heap.size then 6 else 0):=λi a=>by
    rcases i with _|_|_|_|_|_|_|i
    ·have a:n=f.heap.size:=a
     rw[Zq oM,Zq oM,Zq oM,Zq oM]
    ·have:=J n a;rw[Zq oM,Zx oM]
    ·have:=H n a;rw[Zx oM]
    ·exact a.elim
    ·exact a.elim
    ·have a:n=h:=a
     rw[Zq oM,Zq oM,Zx oM]
    ·have h5:=d1 n a;have h6:=d2 n a;rw[Zq oM,Zq oM,Zq oM,Zx oM]
    ·exact a.elim
   rw[v i a,<-v a9 hj]
  ·rcases k with _|_|_|_|_|_|_|k
   ·have P:n=f.heap.size:=P
    omega
   ·have:=J n P;omega
   ·have:=H n P;omega
   ·exact P.elim
   ·exact P.elim
   ·have P:n=h:=P
    omega
   ·have:=d2 n P;omega
   ·exact P.elim
 obtain⟨t,hp⟩:=b6;have b7:∀n,(∃k,(match k with|0=>n=f.heap.size|1=>I n|2=>Fd n|5=>n=h|6=>M n|_=>False:Prop))->w.heap.size<=n:=λn ⟨k,P⟩=>by
  rcases k with _|_|_|_|_|_|_|k
  ·have P:n=f.heap.size:=P
   omega
  ·have:=J n P;omega
  ·have:=H n P;omega
  ·exact P.elim
  ·exact P.elim
  ·have P:n=h:=P
   omega
  ·have:=d1 n P;omega
  ·exact P.elim
 refine PC.ok (yN (h:=e) (z1:=none) (z2:=none) (z3:=none) hp c2 ⟨hT,hL,A.then a1,λn P=>by have:=b7 n P;have:=A.size;omega⟩) ?_;rintro _ e7 ⟨rfl,a6,h',F',y,z,a7⟩;have e8:fC c a2=BX c:=rfl;rw[e8]at z a6⊢;have a8:ai w e7:=a1.new a7.keep λn P=>.inr (b7 n P);refine⟨_,rfl,al.eO (λj=>Ok.mk ⟨a8,.inl ?_⟩) (λhz=>Ok.mk ⟨a8,.inr ?_⟩)⟩
 ·rw[a4];exact⟨j,rfl⟩
 ·rw[a4]
  exact⟨hz,_,F',rfl,⟨c2,h',y,z⟩,λn P=>(a7.new n P).elim (b7 n) λh5=>by have:=a1.size;omega,a6⟩
end
def Mj(n:World):(callMethod (.iface 103 (ZL a)) "State" #[ZH e,ZH q]).run ZP n= .ok (.enter 402 #[ZL a,ZH e,ZH q]) n:=kR
def Hf(n:World):(callMethod (.iface 103 (ZL a)) "Entries" #[]).run ZP n= .ok (.enter 400 #[ZL a]) n:=kR
def Pq(n:World):(callMethod (.iface 103 (ZL a)) "Rows" #[ZH e]).run ZP n= .ok (.enter 401 #[ZL a,ZH e]) n:=kR
def Vu(n:aS)(P:List ah)(a b:Int):iF:=match(bO n P).state a b with
 |none=>bK 14
 |some c=>⟨0,(0,0),c,[],[],false⟩
def Bb(a:aS)(b:List ah)(P n:Int):iF:=if P<0\/P>=(a.projs.length:Int)then bK 1 else⟨0,(0,0),⟨0,[]⟩,[],(oE (jq a b P) n 32).1,(oE (jq a b P) n 32).2⟩
section
variable {w w' w0 w1 w2:World} {p:Nat} {F E D:ZN} {cls:Nat->Nat} {h:kp} {c:bR} {self:Int} {X:bk}
def Cy(n:cQ w F cls p h c self X):PP 89 #[ZL p] w (Ok λP w'=>P= .iface 103 (ZL h.bp)/\w=w'):=
 oY ⟨p,0,rfl,_,ae n.bw rfl,Ok.mk ⟨rfl,rfl⟩⟩
def Tl(x:bU w p F c self X):PP 55 #[ZL p,ZH e,ZH q] w (Ok λy w'=>fU w (Vu c.decl X.S.l e q) y w'/\ai w w'):=by
 obtain⟨z,h,cls,m⟩:=x;refine qk (PA.mk λA b S B=>PC.ok (Cy (cQ.af m b)) ?_);rintro _ _ ⟨rfl,rfl⟩;have C:=cQ.af m b;have n:c_ A h.bp (λP=>F P/\cls P=4) c.decl c.every.toNat X.S.l:=C.at' 4;refine⟨_,rfl,_,_,Mj,PC.ok (Km n) ?_⟩;rintro _ o ⟨g,i,j,G,rfl,k,r,d⟩;have E:=k.aE;have T:=d.size;refine⟨_,_,_,_,_,rfl,PA.mk λU H V I=>PS.mk I sM λW J Y K=>PS.mk K sM λL M Z l=>?_⟩;have a:ai o L:=H.new (J.then M) λP n=>.inr (by have n:P=o.heap.size:=n;omega);have s:=a.get (d.get B id) id;have b0:=a.size;have t:(((bO c.decl X.S.l).state e q).getD Ht).cells.length<=8:=D_ (HE z.decl X.S.l).1 ⟨0,0,0,[],e,q,0,0,0,0⟩;unfold Vu
 cases N:(bO c.decl X.S.l).state e q with
 |none=>
  refine al.tt rfl (aC (iO (bK 14) none 0 0 none 0 0 none 0 0) s rfl λb1 O b2 Q=>ar (iO (bK 14) none 0 0 none 0 0 none 0 0) Q (Ok.mk ⟨fU.plain rfl rfl rfl,?_⟩));exact((b.then d).then a).new O λP n=>.inr (by have n:P=w.heap.size:=n;omega)
 |some f=>
  rw[N]at k t l;refine al.ff rfl ⟨_,_,_,_,ae l rfl,ae l rfl,aC (iO ⟨0,(0,0),f,[],[],false⟩ g i j none 0 0 none 0 0) s rfl λb3 u b4 R=>ar (iO ⟨0,(0,0),f,[],[],false⟩ g i j none 0 0 none 0 0) R (Ok.mk ⟨?_,?_⟩)⟩
  ·refine⟨g,i,j,none,0,0,none,0,0,G,rfl,((k.af a).keep u λP n v=>by have v:P=w.heap.size:=v;have:=r P n;omega).row dC (by have:f.cells.length<=8:=t;show f.cells.length*32<=aT;unfold aT;omega),dx _ _,dx _ _,λP n=>⟨by have:=r P n;omega,by have:=E P n;omega⟩⟩
  ·exact((b.then d).then a).new u λP n=>.inr (by have n:P=w.heap.size:=n;omega)
def Ps(a:aS)(n:List ah)(b:Int):(jq a n b).length<=n.length:=by
 unfold jq;split
 ·simp
 split
 ·simp
 ·rename_i P c
  have e:=ME a n P (QZ c);have d:=(xW (P.rows.map (·.2))).length_eq;rw[Q8]at d;show(P.rows.map (·.2)|>.foldr nu []).length<=_;omega
def N_(A:bU w p F c self X):PP 56 #[ZL p,ZH e,ZH q] w (Ok λd w'=>fU w (Bb c.decl X.S.l e q) d w'/\ai w w'):=by
 obtain⟨R,h,cls,B⟩:=A;refine nY (PA.mk λf g S r=>?_);have a:=cQ.af B g;have no:(e<0\/e>=(c.decl.projs.length:Int))->oG ZP 53 (ZL w.heap.size) (.agg (fT (bK 1) none 0 0 none 0 0 none 0 0).toArray) f λs=>jZ ZP 53 (ZL w.heap.size) s λC=>Ok (λd w'=>fU w (Bb c.decl X.S.l e q) d w'/\ai w w') (.returned C) s:=λE=>by
  refine aC (iO (bK 1) none 0 0 none 0 0 none 0 0) r rfl λT H U I=>ar (iO (bK 1) none 0 0 none 0 0 none 0 0) I (Ok.mk ⟨?_,g.new H λn P=>.inr (by have P:n=w.heap.size:=P;omega)⟩);unfold Bb;rw[Zx E];exact fU.plain rfl rfl rfl
 have V:=(show bt f (λn=>F n/\cls n=1) c.decl h.ta h.tn h.pa h.pn from a.at' 1).FG.len;refine al.dec (λi=>no (.inl i)) (λi=>⟨p,0,rfl,_,_,_,ae a.bw rfl,al.dec (λt=>no (.inr oM)) (λt=>PC.ok (Cy a) ?_)⟩);rintro _ _ ⟨rfl,rfl⟩;have P:c_ f h.bp (λn=>F n/\cls n=4) c.decl c.every.toNat X.S.l:=a.at' 4;have W:X.S.l.length<=20000000:=P.1.2.2.2;have Y:=Ps c.decl X.S.l e;refine⟨_,rfl,_,_,Pq,PC.ok (NN P) ?_⟩;rintro _ Z ⟨⟨a0,a1,cc,G,rfl,b,j,hG⟩,J⟩;have hn:=b.len dC;have K:=b.lA;refine⟨_,_,_,rfl,PC.ok (Md (b.row dC ba) b.aE K J oM) ?_⟩;rintro _ L ⟨a2,rfl,k,l,m,M,rfl,u,o,v⟩;have N:=u.aE;have a9:=j.size;have b0:=o.size;have b1:(oE (jq c.decl X.S.l e) q 32).1.length<=32:=by unfold oE;rw[Qy];omega
 have O:ai w L:=(g.then j).then o;refine⟨_,_,_,_,rfl,aC (iO ⟨0,(0,0),⟨0,[]⟩,[],(oE (jq c.decl X.S.l e) q 32).1,(oE (jq c.decl X.S.l e) q 32).2⟩ none 0 0 none 0 0 k l m) (o.get (j.get r id) id) rfl λb2 x b3 Q=>ar (iO ⟨0,(0,0),⟨0,[]⟩,[],(oE (jq c.decl X.S.l e) q 32).1,(oE (jq c.decl X.S.l e) q 32).2⟩ none 0 0 none 0 0 k l m) Q (Ok.mk ⟨?_,O.new x λn P=>.inr (by have P:n=w.heap.size:=P;omega)⟩)⟩;unfold Bb;rw[Zq (by rintro(y|y);exact i y;exact t oM)];refine⟨none,0,0,none,0,0,k,l,m,M,rfl,dx _ _,dx _ _,(u.keep x λn P z=>by have z:n=w.heap.size:=z;have:=v n P;omega).row dC (by show(oE (jq c.decl X.S.l e) q 32).1.length*24<=aT;unfold aT;omega),λn P=>⟨by have:=v n P;omega,by have:=N n P;omega⟩⟩
end
def CR{a:Type}{b:a->Bool}:∀{L:List a} {j:Nat} {n:a},L[j]? =some n->b n=true->(L.filter b)[((L.take j).filter b).length]? =some n
 |[],j,n,P,_=>by simp at P
 |x::L,0,n,P,c=>by simp at P;subst P;simp[c]
 |x::L,j+1,n,P,c=>by
  have d:=CR (L:=L) (j:=j) (by simpa using P) c;rw[Zw,List.filter_cons,List.filter_cons];split
  ·simpa using d
  ·exact d
variable{E g3:Nat×Nat}{p:TypeId}
section
variable {w w' wz A B w1:World} {D:ZN} {a:WP} {n c:Nat} {l:List cX} {O R1 R2 f most:Nat} {own L:List (Bx cX)} {pre:List (List Value)}
def Vh(a n:Int)(P:cX):Bool:=P.ev.aZ==a&&P.ev.agg==n
def DX{e:cX}{a:WP}{n c:Nat}(i:Row aP 8 w D a n e.ev.aN)(t:∀P,D P->P<w.heap.size):
  PP 149 #[FF e a n c] w (Ok λu w'=>∃a n c G,u=FF e a n c/\Row aP 8 w' G a n e.ev.aN/\(∀P,G P->w.heap.size<=P/\P<w'.heap.size)/\ai w w'):=by
 have v:=i.fj;have x:=i.len;refine zI (PA.mk λw1 m A f=>PA.mk λB g C j=>⟨_,_,_,ae (g.get f id) rfl,PC.ok (bP (i.af (m.then g)) λP b=>by have:=t P b;omega) ?_⟩);rintro _ E ⟨o,p,q,G,rfl,r,h,k⟩;have f:=h.get (g.get f id) id;have j:=h.get j id;have F:=h.size;refine⟨_,_,_,rfl,PS.mk f sM λH l I y=>?_⟩;refine ar (cs:=lz e o p q) (mu _ _ _ _) y (aC (mu _ _ _ _) (l.get j (λd=>by have d:w1.heap.size=w.heap.size:=d;omega)) rfl λJ s K z=>ar (mu _ _ _ _) z (Ok.mk ⟨o,p,q,G,rfl,?_,?_,?_⟩))
 ·refine(((r.keep l λP b d=>?_).keep s λP b d=>?_).row (bytes:=8) dC (by rw[<-x];exact v))
  ·have d:P=w.heap.size:=d;have:=k P b;omega
  ·have d:P=w1.heap.size:=d;have:=k P b;omega
 ·intro P b
  have:=k P b;have:=r.aE P b;omega
 ·exact((((m.then g).then h).new l λP b=>.inr (by have b:P=w.heap.size:=b;omega)).new s λP b=>.inr (by have b:P=w1.heap.size:=b;omega))
def PI{d:cX}{f h:Nat}(j:w.heap[f]? =some (.cells #[ZH e] g E))(k:w.heap[h]? =some (.cells #[ZH q] p g3)):
  PP 148 #[FF d a n c,ZL f,ZL h] w (Ok λl w'=>l= .bool (Vh e q d)/\ai w w'):=by
 refine zH (PA.mk λw1 P m i=>⟨_,ae i rfl,_,ae (P.get j id) rfl,al.mk (λb=>⟨_,ae i rfl,_,ae (P.get k id) rfl,Ok.mk ⟨?_,P⟩⟩) (λb=>Ok.mk ⟨?_,P⟩)⟩)
 ·unfold Vh;rw[b];rfl
 ·unfold Vh;rw[b];rfl
structure PV (wz:World) (O:Nat) (own:List (Bx cX)) (f most:Nat) (pre:List (List Value)) (A:World):Prop where
 keep:aj (·=O) wz A
 fj:wz.heap.size+2<=A.heap.size
 nx:∃a n c G,A.heap[O]? =some (.cells #[.slice a n c] 50 (0,0))/\aV AA 133 G A a n c (((own.take pre.length).drop f).map (·.x))/\(∀b,G b->wz.heap.size+2<=b)/\n<=most
structure Wr (wz:World) (O R1 R2:Nat) (own:List (Bx cX)) (f most:Nat) (A:World):Prop where
 keep:aj (λb=>b=O\/b=R1\/b=R2) wz A
 r2:A.heap[R2]? =some (.cells #[.bool true] 4 (0,0))
 more:most<(own.drop f).length
 nx:∃a n c G,A.heap[R1]? =some (.cells #[.slice a n c] 50 (0,0))/\aV AA 133 G A a n c (((own.drop f).take most).map (·.x))/\(∀b,G b->wz.heap.size+2<=b)
def PV.af(b:PV wz O own f most pre A)(P:ai A B):PV wz O own f most pre B:=by
 obtain⟨d,e,a,n,c,G,g,h,i⟩:=b;exact⟨d.af P,Xx e P.size,a,n,c,G,P.get g id,h.af P,i⟩
def PV.fk(o:O<wz.heap.size)(h:PV wz O own f most pre A)(i:qQ (wz.heap.size+1) A B):PV wz O own f most pre B:=by
 obtain⟨j,p,a,n,c,G,k,l,g,m⟩:=h;obtain⟨e,q⟩:=i;exact⟨j.new e λb d=>.inr (by have d:b=wz.heap.size+1:=d;omega),oM,a,n,c,G,e.get k (λP=>by have P:O=wz.heap.size+1:=P;omega),l.keep e λb d P=>by have P:b=wz.heap.size+1:=P;have:=g b d;omega,g,m⟩
def Wr.fk(q:O<wz.heap.size/\R1<wz.heap.size/\R2<wz.heap.size)(h:Wr wz O R1 R2 own f most A){k:Nat}(r:wz.heap.size<=k/\k<=wz.heap.size+1)(i:qQ k A B):Wr wz O R1 R2 own f most B:=by
 obtain⟨j,l,m,a,n,c,G,o,p,g⟩:=h;obtain⟨b,s⟩:=i;exact⟨j.new b λd e=>.inr (by have e:d=k:=e;omega),b.get l (λP=>by have P:R2=k:=P;omega),m,a,n,c,G,b.get o (λP=>by have P:R1=k:=P;omega),p.keep b λd e P=>by have P:d=k:=P;have:=g d e;omega,g⟩
def Uy{r s t u:Nat}{R:ZU}{Rx:ZU}(hO:O<wz.heap.size)(Y:wz.heap[r]? =some (.cells #[ZH e] g E))(Z:wz.heap[s]? =some (.cells #[ZH q] p g3))(h1:r≠O)(h2:s≠O)(v:∃j f,wz.heap[t]? =some (.cells #[.slice a n c] j f))(h3:t≠O)(w:∃j f,wz.heap[u]? =some (.cells #[.func (.func 148) #[] #[ZL r,ZL s]] j f))(h4:u≠O)(I:Row MA.kr 120 wz D a n L)(hD:∀P,D P->P<wz.heap.size/\P≠O)(J:own=L.filter λP=>Vh e q P.x)(b6:L.length<=20000000)(hR:∀A B,R A->aj (oR wz) A B->R B)(hy:∀pre l A,PV wz O own f most pre A->R A->tV [ZH 0,FF ⟨sH,false,(0,0)⟩ none 0 0] l->(∃P,own[pre.length]? =some P/\l=[ZH (pre.length:Int),FF P.x P.a P.n P.c])->kD ZP (wz.heap.size+1) l A λP d=>(P=true/\PV wz O own f most (pre++[l]) d/\R d)\/(P=false/\Wr wz O R1 R2 own f most d/\Rx d))(K:PV wz O own f most [] w1)(a4:R w1):
  PP 214 #[.func (.yield (wz.heap.size+1)) #[] #[],ZL t,ZL u] w1 (λj d=>(∃a0,j= .returned a0)/\((R d/\∃k:List (List Value),PV wz O own f most k d/\k.length=own.length)\/(Wr wz O R1 R2 own f most d/\Rx d))):=by
 obtain⟨e3,f3,v⟩:=v;obtain⟨e4,f4,w⟩:=w;have hn:=I.len;refine vH ⟨_,_,_,ae (K.keep.get v h3) rfl,λM a1 x w'=>∃(b:Nat) (pre:List (List Value)),x=b/\b<=n/\M=n-b/\a1=(pre.length:Int)/\pre.length=((L.take b).filter λP=>Vh e q P.x).length/\PV wz O own f most pre w'/\R w',⟨_,0,[],rfl,Qj _,rfl,rfl,rfl,K,a4⟩,?_⟩;rintro M _ _ _ N ⟨b,pre,rfl,hj,rfl,rfl,i,m,Q⟩;refine al.dec (λb7=>?_) (λb8=>?_)
 ·obtain⟨P,h⟩:∃P,L[b]? =some P:=⟨_,Qq oM⟩
  obtain⟨a2,a3,es,ha,a5,a6,y,rfl,-⟩:=(I.keep m.keep λP h=>(hD P h).2).el b P h;have b3:pre.length<=20000000:=by
   rw[i];have h5:=List.length_filter_le (λP:Bx cX=>Vh e q P.x) (L.take b);have h6:=List.length_take_le b L;omega
  refine⟨a2,a3,ha,oM,oM,ck (es:=lz P.x P.a P.n P.c) (k:=13) (mu _ _ _ _) rfl (λx ht=>by rw[Qx];exact y x ht) (PA.mk λb9 a7 c1 a8=>aC (mu P.x P.a P.n P.c) a8 rfl λa9 b0 c2 S=>?_)⟩;have T:ai N a9:=a7.new b0 λP h=>.inr (by have h:P=N.heap.size:=h;omega);have z:=m.af T;refine⟨_,ae (z.keep.get w h4) rfl,ar (mu P.x P.a P.n P.c) S ⟨_,_,_,rfl,kR,PC.ok (PI (z.keep.get Y h1) (z.keep.get Z h2)) ?_⟩⟩;rintro _ b1 ⟨rfl,U⟩;have V:=T.then U;have W:=m.af V;have X:=hR _ _ Q (ai.keep V);refine⟨_,rfl,al.not (al.mk (λo=>?_) (λo=>⟨_,oM,b+1,pre,an oM,oM,rfl,rfl,?_,W,X⟩))⟩
  rotate_left
  ·rw[Qw,h,List.filter_append,i];simp[o]
  refine ar (mu P.x P.a P.n P.c) (U.get S id) ⟨_,rfl,(hy pre _ b1 W X ?_ ⟨P,?_,rfl⟩).mono ?_⟩
  ·exact λφ C=>C pre.length P.x.ev.origin P.x.ev.seq P.x.ev.aB P.a P.n P.c P.x.ev.aZ P.x.ev.agg P.x.ev.field P.x.ev.op P.x.ev.arg P.x.ev.key P.x.void P.x.FE.1 P.x.FE.2
  ·rw[J,i];exact CR h o
  ·rintro b' d (⟨rfl,F,b5⟩|⟨rfl,H,b2⟩)
   ·refine al.ff rfl ⟨_,oM,b+1,pre++[_],an oM,oM,rfl,?_,?_,F,b5⟩
    ·rw[an oM];simp
    ·rw[Qw,h,List.filter_append,QX,QX,<-i];simp[o]
   ·exact al.tt rfl ⟨⟨_,rfl⟩,.inr ⟨H,b2⟩⟩
 ·rw[Qz oM]at i
  exact⟨⟨_,rfl⟩,.inl ⟨Q,pre,m,by rw[J];exact i⟩⟩
end
section
variable {w w' wz A B w1:World} {D:ZN} {a:WP} {n c:Nat} {l:List cX}
def JC{most:Nat}(I:Row AA 120 w D a n l)(hD:∀P,D P->P<w.heap.size)(hm:most<=1000)(hl:l.length<=20000000)(k2:aM R):
  PP 88 #[.slice a n c,ZH e,ZH q,ZH R,ZH (most:Int)] w (Ok λa6 w'=>∃N,a6= .tuple #[N,.bool (lr l e q R most).2]/\qC AA 133 w (lr l e q R most).1 N w'):=by
 obtain⟨V,c3,hL,e9⟩:=fl.boxes (N:=MA) I;have l0:V.length=l.length:=by rw[<-c3,Q8]
 obtain⟨own,p⟩:∃own,own=V.filter λP=>Vh e q P.x:=⟨_,rfl⟩
 obtain⟨i,hf⟩:∃i:Nat,i=(max R 0).toNat:=⟨_,rfl⟩
 have c7:own.map (·.x)=l.filter λb=>b.ev.aZ==e&&b.ev.agg==q:=by rw[p,<-c3,List.filter_map];rfl
 have f2:lr l e q R most=(((own.drop i).take most).map (·.x),decide (most<(own.drop i).length)):=by
  unfold lr;rw[<-c7,<-hf];simp only[List.map_take,List.map_drop,XZ,Q8]
 rw[f2];have h3:own.length<=20000000:=by rw[p];have:=List.length_filter_le (λP:Bx cX=>Vh e q P.x) V;omega
 refine DG (PA.mk λw6 k6 s6 g6=>PA.mk λv k7 s7 g7=>PA.mk λw8 k8 s8 g8=>PA.mk λj k9 s9 g9=>PA.mk λk a0 l3 f4=>PA.mk λm W l4 f6=>PA.mk λf8 O l5 g0=>?_);have a7:=(((k8.then k9).then a0).then W).then O;have c8:=a7.get (show v.heap[w6.heap.size]? =_ from g7) id;have k5:(if 0>(if False then(0:Int)else R)then 0 else R)=(i:Int):=by simp;split<;>omega
 refine⟨_,ae ((((k9.then a0).then W).then O).get g8 id) rfl,?_⟩;have g1:(if 0>R then(0:Int)else R)=(i:Int):=by rw[hf];split<;>omega
 rw[g1];refine PS.mk ((((k9.then a0).then W).then O).get g8 id) sM λE J l6 g2=>?_;have c9:E.heap[v.heap.size]? =some (.cells #[ZH (i:Int)] 3 (0,0)):=g2;have d0:ai w f8:=((k6.then k7).then a7)
 have d1:ai w E:=d0.new J λP d=>.inr (by have d:P=v.heap.size:=d;omega);have d2:=J.get ((k7.then a7).get g6 id) (λb=>by have b:w.heap.size=v.heap.size:=b;omega);have d3:=J.get c8 (λb=>by have b:w6.heap.size=v.heap.size:=b;omega);have d6:=J.get (((a0.then W).then O).get g9 id) (λb=>by have b:w8.heap.size=v.heap.size:=b;omega);have d7:=J.get ((W.then O).get f4 id) (λb=>by have b:j.heap.size=v.heap.size:=b;omega);have d9:=J.get (O.get f6 id) (λb=>by have b:k.heap.size=v.heap.size:=b;omega);have e2:=J.get g0 (λb=>by have b:m.heap.size=v.heap.size:=b;omega);refine PC.ok (φ:=λa6 w'=>a6= .func (.func 214) #[] #[ZL E.heap.size,.pointer (some ⟨E.heap.size+1,0,none⟩)]/\w'.heap[E.heap.size]? =some (.cells #[.slice a n c] 50 (0,0))/\(∃b ff,w'.heap[E.heap.size+1]? =some (.cells #[.func (.func 148) #[] #[ZL w.heap.size,ZL w6.heap.size]] b ff))/\ai E w'/\w'.heap.size=E.heap.size+2)
  (Bm (PA.mk λw3 k3 s3 g3=>PA.mk λw4 k4 s4 g4=>Ok.mk ⟨by rw[s3],k4.get g3 id,⟨_,_,by rw[<-s3];exact g4⟩,k3.then k4,oM⟩)) ?_
 rintro _ wz ⟨rfl,g5,h0,y,sz⟩;have h:=d1.then y;have a8:=y.get d2 id;have a9:=y.get d3 id;have b0:=y.get d6 id;have b1:=y.get c9 id;have K:=y.get d7 id;have L:=y.get d9 id;have X:=y.get e2 id;have Y:m.heap.size<wz.heap.size:=aA X;have d4:j.heap.size<wz.heap.size:=aA K;have d5:k.heap.size<wz.heap.size:=aA L;have b2:∀P,D P->P<wz.heap.size/\P≠m.heap.size:=λP d=>⟨by have:=hD P d;have:=h.size;omega,λb=>by have:=hD P d;omega⟩
 have e3:∀P∈V,MA.In wz D P:=λP d=>(e9 P d).keep h λ_ _ I=>I;have e4:∀{c0:Nat} {P:Bx cX},own[c0]? =some P->P∈V:=λ{c0 P} d=>by
  have:=QZ d;rw[p]at this;exact(List.mem_filter.1 this).1
 refine⟨_,rfl,214,_,rfl,kR,Unit,(),λ_=>PV wz m.heap.size own i most,λN _ A=>N= .ret/\Wr wz m.heap.size j.heap.size k.heap.size own i most A,
  λf Q=>∃P,own[f.length]? =some P/\Q=[ZH (f.length:Int),FF P.x P.a P.n P.c],λz=>z.length=own.length,?_,λ_ f A B M t=>M.fk Y t,λN f A B hx t=>⟨hx.1,hx.2.fk ⟨Y,d4,d5⟩ ⟨oM,oM⟩ t⟩,?_,?_,?_,?_,trivial⟩
 ·intro w1 hk hs
  refine⟨ai.keep hk,oM,none,0,0,λ_=>False,hk.get X id,?_,λP d=>d.elim,Qj _⟩;simpa using aV.nil w1
 ·rintro _ f A M l7 l8 l9 m0 m1 ta tn tc m2 m3 m4 m5 m6 m7 m8 m9 n0 ⟨P,d,he⟩
  simp only[lz,aH,List.cons_append,List.nil_append,List.cons.injEq,Value.agg.injEq,Array.mk.injEq,Value.int.injEq,XX,Value.bool.injEq,and_true,true_and]at he;obtain⟨rfl,rfl,rfl,rfl,⟨rfl,rfl,rfl⟩,rfl,rfl,rfl,rfl,rfl,rfl,rfl,rfl,rfl⟩:=he;have n1:f.length<own.length:=(Qv.1 d).1;refine PA.mk λn3 h8 n4 h9=>aC (mu P.x P.a P.n P.c) h9 rfl λi0 i1 n8 i2=>?_;have c1:ai A i0:=h8.new i1 λP d=>.inr (by have d:P=A.heap.size:=d;omega);refine⟨ai.keep c1,λb3 t=>?_⟩;have c2:=(M.af c1).fk Y t;have i3:=t.1.get i2 (λb=>by have b:A.heap.size=wz.heap.size+1:=b;omega);have n9:=t.2;have Z:=c2.keep;have c4:∀Q:List Value,(((own.take (f++[Q]).length).drop i)=if f.length<i then []else((own.take f.length).drop i)++[P]):=λQ=>by
   rw[QX,List.length_singleton,Qw,d];have i4:(own.take f.length).length=f.length:=by rw[Qy];omega
   split
   ·rename_i r
    exact List.drop_eq_nil_of_le (by rw[QX,i4];simp;omega)
   ·rename_i r
    rw[List.drop_append_of_le_length oM];rfl
  obtain⟨o,x,C,F,S,G,u,s,r,h6⟩:=c2;have a1:=s.len dC;rw[Q8,XZ,Qy,X2 oM]at a1;refine⟨_,ae (Z.get b1 (λb=>by have b:v.heap.size=m.heap.size:=b;omega)) rfl,al.dec (λo0=>⟨aj.refl _,?_⟩) (λo1=>⟨_,_,_,ae u rfl,_,ae (Z.get b0 (λb=>by have b:w8.heap.size=m.heap.size:=b;omega)) rfl,al.dec (λi5=>?_) (λi6=>λd8 i7=>?_)⟩)⟩
  ·refine⟨o,x,C,F,S,G,u,?_,r,h6⟩
   rw[c4,Zx oM];rw[List.drop_eq_nil_of_le (by rw[Qy];omega)]at s;exact s
  ·have e6:F=most:=oM
   have b4:=Z.get K (λb=>by have b:j.heap.size=m.heap.size:=b;omega);have b5:=Z.get L (λb=>by have b:k.heap.size=m.heap.size:=b;omega);refine⟨_,_,_,ae u rfl,PS.mk b4 sM λo2 e0 o3 i8=>PS.mk (e0.get b5 (λb=>by have b:k.heap.size=j.heap.size:=b;omega)) sM λi9 e1 o4 j0=>?_⟩;have T:aj (λP=>P=j.heap.size\/P=k.heap.size) b3 i9:=(e0.mono λP _ b=>.inl b).then (e1.mono λP _ b=>.inr b);have j1:(own.drop i).take most=(own.take f.length).drop i:=by
    rw[<-e6,a1,List.drop_take]
   refine⟨T.mono λP _ d=>⟨by rcases d with rfl|rfl<;>omega,by rcases d with rfl|rfl<;>omega⟩,.inl rfl,rfl,(o.mono λP _ b=>.inl b).then (T.mono λP _ b=>.inr b),j0,by rw[XZ];omega,C,F,S,G,e1.get i8 (λb=>by have b:j.heap.size=k.heap.size:=b;omega),?_,r⟩;rw[j1];exact s.keep T λP d b=>by have:=r P d;rcases b with rfl|rfl<;>omega
  ·have U:ai b3 d8:=i7.keep
   have c5:=(e3 P (e4 d)).keep Z λP d b=>(b2 P d).2 b;have e7:Row aP 8 d8 D P.a P.n P.x.ev.aN:=c5.1.af U;have e8:P.x.ev.Ok:=c5.2;refine⟨λ_=>False,id,_,_,_,ae (U.get u id) rfl,ar (mu P.x P.a P.n P.c) (U.get i3 id) (PC.ok (DX e7 λP d=>by have:=(b2 P d).1;have:=U.size;omega) ?_)⟩;rintro _ o5 ⟨f0,n2,f1,G2,rfl,j2,b6,b7⟩;have o6:=U.size;have o7:=b7.size;refine⟨_,_,_,_,_,_,_,_,_,_,_,_,_,_,_,rfl,b7,PA.mk λo8 b8 o9 j3=>⟨b8,?_⟩⟩;have a2:=(U.then b7).then b8;refine fK (c:=AA) (x:=P.x) (s.af a2) SF j3 (D:=G2) ⟨f0,n2,f1,rfl,j2.af b8,e8⟩ (λP d=>⟨by have:=b6 P d;omega,λb=>by have:=s.aE P (s.self P b);have:=b6 P d;omega⟩) (by rw[Q8,XZ,Qy];unfold aT;omega) (by rw[Q8,XZ,Qy];unfold maxLen;omega) λa' c' p0 F' f3 b9 j4=>⟨_,_,_,rfl,?_⟩
   have g:∀P,aG C=some P->wz.heap.size+2<=P:=λP d=>r P (s.self P d);have j5:¬aG C=some m.heap.size:=λb=>by have:=g _ b;omega
   have p1:=b9.size;have p2:=a2.size;have H:∀P,F' P->wz.heap.size+2<=P:=λP d=>by
    rcases j4 P d with h7|h7|h7
    ·exact r P h7
    ·have:=b6 P h7;omega
    ·omega
   refine PS.mk (b9.get (a2.get u id) j5) sM λj6 e5 p3 j7=>?_;have T:aj (λP=>aG C=some P\/P=m.heap.size) b3 j6:=((ai.keep a2).then (b9.mono λP _ b=>.inl b)).then (e5.mono λP _ b=>.inr b);refine⟨T.mono λP _ d=>⟨?_,?_⟩,⟨(o.new (T.mono λP _ b=>b) λP d=>d.elim (λb=>.inr (by have:=g P b;omega)) .inl),oM,a',F+1,c',F',j7,?_,H,oM⟩⟩
   ·rcases d with d|rfl
    ·have:=g P d;omega
    ·omega
   ·rcases d with d|rfl
    ·have:=g P d;omega
    ·omega
   ·rw[c4,Zq oM,Q3]
    exact f3.keep e5 λP d b=>by have b:P=m.heap.size:=b;have:=H P d;omega
 ·intro f5 Rx hR _ p4 hy w1 j8 f7
  refine Calls.mono (Uy (own:=own) (f:=i) (most:=most) (R:=f5) (Rx:=Rx .ret) (R1:=j.heap.size) (R2:=k.heap.size) Y a8 a9 oM oM ⟨_,_,y.size|>λ_=>g5⟩ oM h0 oM (hL.af h) b2 p oM hR (λf Q A M j9 t hN=>(hy () f Q A M j9 t hN).mono ?_) j8 f7) ?_
  ·rintro P A' (I|⟨o,N,⟨rfl,x⟩,u⟩)
   ·exact .inl I
   ·exact .inr ⟨o,x,u⟩
  ·rintro b A' ⟨hv,I⟩
   refine⟨hv,?_⟩;rcases I with⟨o,z,x,u⟩|⟨o,x⟩
   ·exact .inl ⟨o,(),z,x,u⟩
   ·exact .inr ⟨.ret,[],⟨rfl,o⟩,x⟩
 ·rintro _ z A M c6 hm
  obtain⟨o,x,C,F,S,G,u,s,r,h6⟩:=M;have a1:=s.len dC;rw[c6,List.take_length]at s;rw[c6,List.take_length,Q8,XZ]at a1;have b4:=o.get K (λb=>by have b:j.heap.size=m.heap.size:=b;omega);have b5:=o.get L (λb=>by have b:k.heap.size=m.heap.size:=b;omega);refine⟨_,_,_,ae u rfl,PS.mk b4 sM λp5 a3 p6 k0=>PS.mk (a3.get b5 (λb=>by have b:k.heap.size=j.heap.size:=b;omega)) sM λp7 a4 p8 k1=>?_⟩;refine⟨a4.get (a3.get hm (λb=>by have b:wz.heap.size=j.heap.size:=b;omega)) (λb=>by have b:wz.heap.size=k.heap.size:=b;omega),λp9 t=>?_⟩;have a5:=t.1;have f9:=a5.get (a4.get k0 (λb=>by have b:j.heap.size=k.heap.size:=b;omega)) (λb=>by have b:j.heap.size=wz.heap.size:=b;omega);have h1:=a5.get k1 (λb=>by have b:k.heap.size=wz.heap.size:=b;omega);refine⟨_,_,_,ae f9 rfl,_,ae h1 rfl,Ok.mk ⟨_,?_,C,F,S,G,rfl,?_,?_,λP d=>by have:=r P d;have:=h.size;omega⟩⟩
  ·rw[Xv (by rw[XZ];omega)]
  ·rw[Qz (by rw[XZ];omega)]
   exact((s.keep a3 λP d b=>by have b:P=j.heap.size:=b;have:=r P d;omega).keep a4 λP d b=>by have b:P=k.heap.size:=b;have:=r P d;omega).keep a5 λP d b=>by have b:P=wz.heap.size:=b;have:=r P d;omega
  ·refine(((h.new o λP d=>.inr (by have d:P=m.heap.size:=d;omega)).new a3 λP d=>.inr (by have d:P=j.heap.size:=d;omega)).new a4 λP d=>.inr (by have d:P=k.heap.size:=d;omega)).new a5 λP d=>.inr (by have d:P=wz.heap.size:=d;have:=h.size;omega)
 ·rintro f A ⟨-,hx⟩ hm
  refine⟨hm,λq0 t=>?_⟩;obtain⟨o,x,h2,C,F,S,G,u,s,r⟩:=hx.fk ⟨Y,d4,d5⟩ ⟨oM,oM⟩ t;refine⟨_,_,_,ae u rfl,_,ae x rfl,Ok.mk ⟨_,by rw[Zy h2],C,F,S,G,rfl,s,?_,λP d=>by have:=r P d;have:=h.size;omega⟩⟩;exact h.new o λP d=>.inr (by rcases d with d|d|d<;>omega)
end
def Ai(P:aS)(a:List ah)(b c n:Int):iF:=⟨0,(0,0),⟨0,[]⟩,(lr (bO P a).entries b c n 32).1,[],(lr (bO P a).entries b c n 32).2⟩
section
variable {w w' w0 w1 w2:World} {p:Nat} {F E D:ZN} {cls:Nat->Nat} {h:kp} {c:bR} {self:Int} {X:bk}
def KK(s:bU w p F c self X)(t:aM R):PP 54 #[ZL p,ZH e,ZH q,ZH R] w (Ok λu w'=>fU w (Ai c.decl X.S.l e q R) u w'/\ai w w'):=by
 obtain⟨I,h,cls,j⟩:=s;refine m_ (PA.mk λv a J x=>PC.ok (Cy (cQ.af j a)) ?_);rintro _ _ ⟨rfl,rfl⟩;have y:=cQ.af j a;have n:c_ v h.bp (λP=>F P/\cls P=4) c.decl c.every.toNat X.S.l:=y.at' 4;have z:=(wR c.decl X.S.l n.1.2.2.2).1;refine⟨_,rfl,_,_,Hf,PC.ok (FJ n) ?_⟩;rintro _ K ⟨L,M,N,G,rfl,k,b,O⟩;refine⟨_,_,_,rfl,PC.ok (JC (most:=32) (k.row dC ba) k.aE oM z t) ?_⟩;rintro _ A ⟨Q,rfl,d,f,g,B,rfl,l,i,m⟩;have C:=l.aE;have S:=b.size;have T:=i.size;have U:(lr (bO c.decl X.S.l).entries e q R 32).1.length<=32:=by unfold lr;rw[Qy];omega
 have E:ai w A:=(a.then b).then i;refine⟨_,_,_,_,rfl,aC (iO (Ai c.decl X.S.l e q R) none 0 0 d f g none 0 0) (i.get (b.get x id) id) rfl λV o W H=>ar (iO (Ai c.decl X.S.l e q R) none 0 0 d f g none 0 0) H (Ok.mk ⟨?_,E.new o λP n=>.inr (by have n:P=w.heap.size:=n;omega)⟩)⟩;refine⟨none,0,0,d,f,g,none,0,0,B,rfl,dx _ _,(l.keep o λP n r=>by have r:P=w.heap.size:=r;have:=m P n;omega).row dC (by show(lr (bO c.decl X.S.l).entries e q R 32).1.length*120<=aT;unfold aT;omega),dx _ _,λP n=>⟨by have:=m P n;omega,by have:=C P n;omega⟩⟩
end
structure fS where
 kind:Int
 n:Int
 m:Int
 cmd:lb
structure fS.Ok (s:fS):Prop where
 kind:aM s.kind
 n:aM s.n
 m:aM s.m
 cmd:s.cmd.Ok
def nQ(n:fS):List Value:=[ZH n.kind,ZH n.n,ZH n.m]++iQ n.cmd
abbrev mz(n:fS):Value:=.agg (nQ n).toArray
structure ey where
 aD:List bk
 ef:List bY
 now:Int
def uY:bY:=⟨0,0,0,[],[]⟩
def dK(P:List bY)(n:Int):Option bY:=if 0<=n then P[n.toNat]? else none
def gC(n:List bY)(P:Int):List bY:=if(dK n P).isSome then n.eraseIdx P.toNat else n
def HS(n P:List bY):List bY:=n++P.take (1024-n.length)
def fM(P:List bk)(n:Int):Option bk:=if 0<=n then P[n.toNat]? else none
def jF(a:bR)(b:Int)(P:bk)(n:fS):iF×bk:=
 if n.kind=1 then(if(eM a b P n.cmd).1≠0 then bK (eM a b P n.cmd).1 else Im (eM a b P n.cmd).2.1,(eM a b P n.cmd).2.2)else
 if n.kind=7 then(bK (gY a P n.m).1,(gY a P n.m).2)else
 if n.kind=8 then(bK (dL a P).1,(dL a P).2)else
 if n.kind=9 then(Ai a.decl P.S.l n.cmd.aZ n.cmd.agg n.m,P)else
 if n.kind=10 then(Vu a.decl P.S.l n.cmd.aZ n.cmd.agg,P)else
 if n.kind=11 then(Bb a.decl P.S.l n.cmd.field n.m,P)else
 (bK 0,{P with D:=P.D.Gb n.m})
def ey.put(n:ey)(P:Int)(a:bk)(b:List bY):ey:=⟨n.aD.set P.toNat a,HS n.ef b,n.now⟩
def jE(a:bR)(P:ey):Option bY->iF×ey
 |none=>(bK 14,P)
 |some n=>match fM P.aD n.mR with
  |none=>(bK 1,P)
  |some b=>(bK (cz a n.mR b n).2.1,P.put n.mR (cz a n.mR b n).2.2 (cz a n.mR b n).1)
def mB(n:ey)(P:Nat):ey:=match n.aD[P]? with
 |none=>n
 |some a=>n.put P (pP P a n.now).2 (pP P a n.now).1
def Ic(n:ey):ey:=(List.range n.aD.length).foldl mB ⟨n.aD,n.ef,n.now+1⟩
def cJ(a:bR)(P:ey)(n:fS):iF×ey:=
 if n.kind=3 then jE a ⟨P.aD,gC P.ef n.n,P.now⟩ (dK P.ef n.n)else
 if n.kind=5 then jE a P (dK P.ef n.n)else
 if n.kind=4 then(bK (if(dK P.ef n.n).isSome then 0 else 14),⟨P.aD,gC P.ef n.n,P.now⟩)else
 if n.kind=6 then(bK 0,Ic P)else
 if n.kind<1\/12<n.kind then(bK 2,P)else
 match fM P.aD n.n with
 |none=>(bK 1,P)
 |some b=>
  if n.kind=2 then(if(fM P.aD n.m).isNone\/n.m=n.n then(bK 1,P)else(bK 0,P.put n.n (fq a n.n b n.m P.now).2 (fq a n.n b n.m P.now).1))
  else((jF a n.n b n).1,⟨P.aD.set n.n.toNat (jF a n.n b n).2,P.ef,P.now⟩)
def AZ(n:bR):Int×ey:=((cA n 0).1,⟨List.replicate n.aD.toNat (cA n 0).2,[],0⟩)
structure Fit (k:Nat) (R:bk):Prop where
 evs:R.S.l.length<=16777216+300*k
 asked:R.gE.asked.length<=k
def Fit.HY{n P:bk}(h:Fit a n)(b:j_ n P):Fit (a+1) P:=⟨by have:=h.evs;rcases b.evs with h|h<;>omega,by have:=h.asked;have:=b.asked;omega⟩
variable{a5:List bY}{d9:List bk}{d8:bk}
def Fit.mono(n:Fit a d8):Fit (a+1) d8:=⟨by have:=n.evs;omega,by have:=n.asked;omega⟩
def Fit.tick(P:Fit a d8)(b n:Int):Fit a (pP b d8 n).2:=⟨P.evs,by unfold pP;dsimp only;rw[ks.Rb];exact P.asked⟩
structure gD (k:Nat) (X:ey):Prop where
 aD:∀R∈X.aD,Fit k R
 NY:0<=X.now
 now:X.now<=k
section
variable {c:bR} {X:ey} {k:Nat} {i:Int} {R R':bk} {s:fS} {ms:List bY} {f:List bY}
def wY{i:Nat}:fM d9 (i:Int)=d9[i]? :=by
 unfold fM;rw[Zx oM,Qx]
def gX(n:fM d9 i=some R):∃P:Nat,i=P/\d9[P]? =some R:=by
 unfold fM at n;split at n
 ·exact⟨i.toNat,oM,n⟩
 ·cases n
def KD:fM d9 i=none↔i<0\/(d9.length:Int)<=i:=by
 unfold fM;split
 ·rw[List.getElem?_eq_none_iff];omega
 ·simp;omega
def KV{i:Int}(n:i<0\/(a5.length:Int)<=i):dK a5 i=none:=by
 unfold dK;split
 ·exact Q7 oM
 ·rfl
def QT{i:Int}(n:0<=i)(P:i<a5.length):(dK a5 i).isSome:=by
 unfold dK;rw[Zx n,Qq oM];rfl
def gD.mono(n:gD k X):gD (k+1) X:=⟨λR P=>(n.aD R P).mono,n.NY,by have:=n.now;omega⟩
def gD.ef(n:gD k X):gD k ⟨X.aD,f,X.now⟩:=⟨n.aD,n.NY,n.now⟩
def gD.put(n:gD k X)(P:Fit (k+1) R'):gD (k+1) (X.put a R' ms):=⟨λb c=>(List.mem_or_eq_of_mem_set c).elim (λd=>(n.aD b d).mono) λe=>e▸P,n.NY,by have n:=n.now;show X.now<=_;omega⟩
def gD.stay(n:gD k X){j:Nat}(P:Fit k R'):gD k (X.put j R' ms):=⟨λa b=>(List.mem_or_eq_of_mem_set b).elim (n.aD a) λc=>c▸P,n.NY,n.now⟩
def MO(n:fM X.aD i=some R):(⟨X.aD.set i.toNat R,X.ef,X.now⟩:ey)=X:=by
 obtain⟨b,rfl,P⟩:=gX n;obtain⟨c,a⟩:=Qv.1 P;rw[Qx,<-a,List.set_getElem_self]
def Ob(a:0<=i)(b:i<max 1 (min c.aD 64)):(cA c i).1=(cA c 0).1/\(cA c i).2=(cA c 0).2:=by
 have:fH c i=fH c 0:=by
  unfold fH within
  by_cases d:1<=c.aD/\c.aD<=64
  ·have n:(decide (0<=i)&&decide (i<=c.aD-1))=true:=by simp;omega
   have P:(decide (0<=(0:Int))&&decide (0<=c.aD-1))=true:=by simp;omega
   rw[n,P]
  ·have n:(decide (1<=c.aD)&&decide (c.aD<=64))=false:=by simp;omega
   simp only[n,Bool.false_and]
 unfold cA;rw[this];exact⟨rfl,rfl⟩
def Ig(P:(cA c i).1=0):1<=c.aD/\c.aD<=64/\dj c.decl=0/\fH c i=true:=by
 unfold cA at P;split at P
 ·contradiction
 rename_i a;split at P
 ·cases P
 ·rename_i n
  have n:fH c i=true:=by simpa using n
  have b:=n;unfold fH within at n;simp only[QK,Zk]at n;exact⟨oM,oM,Classical.not_not.1 a,b⟩

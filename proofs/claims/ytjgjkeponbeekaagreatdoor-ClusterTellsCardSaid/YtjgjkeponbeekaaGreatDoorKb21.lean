import Derived.Test.YtjgjkeponbeekaaGreatDoorKb19
import Derived.Test.YtjgjkeponbeekaaGreatDoorYbQue
set_option linter.all false
set_option maxRecDepth 100000
open Go.IntKind renaming wrap→GT
namespace Go.Proofs.YtjgjkeponbeekaaGreatDoor
open Go.ar
def KI:aT:=⟨[[⟨1,1,true,[]⟩,⟨2,3,false,[]⟩,⟨3,2,false,[]⟩,⟨4,2,false,[⟨0,1,0,2⟩,⟨1,0,-1,0⟩,⟨0,2,-1,0⟩]⟩,⟨2,2,false,[]⟩,⟨1,1,false,[]⟩]],[⟨0,0,1,0,2⟩,⟨0,2,2,0,1⟩,⟨0,5,3,4,4⟩]⟩
def gJ(n:Int):bN:=⟨n,131072,400,3,20,5,4,0,KI⟩
variable{p:Array Value}{J:Bool}{y:ByteArray}{t:UV}{B T b1 b5 b6 b7 e l:Int}{a6:List PanicEntry->ac}{w:List UInt8}{H:List ah}{a8:List bW}{e4:List bg}{E a c c1 i o:Nat}{f:RK}{F:Nat×Nat}{d d4 s:am}{f4:Option bW}{j:Type}{g:TypeId}{Q:Value->Prop}{q:UX}{b:World}{h1:World->(RK)->dE->Prop}{i0:World->ac}{N m:ah}{g8:ak->bQ->Int×ak}{I:aw}{f3:bW}{e3:bg}
def Row.AP{c:ks j}{bytes n:Nat}{D:RK}(d:b.heap[n]? =some (.cells p g F)){xs:List j}(k:bL c b D xs p.toList)(q:0<c.k)(P:xs.length*bytes<=aR):Row c bytes b (λa=>a=n\/D a) (L1 n) xs.length xs:=
 ⟨rfl,P,λr s l=>by
  obtain⟨e,m,f⟩:=k.at l;have t:=c.len f;refine⟨n,0,e,rfl,aA d,.inl rfl,λh o=>?_,c.mono f λa P=>.inr P⟩;have i:=m h o;rw[Qq (show h<e.length by omega)]at i⊢;rw[Xz];exact ae d (by simpa using i)⟩
def i10(n:(decide (-1000000<=e)&&decide (e<=1000000))=true):aM e:=by
 simp only[QK,Zk]at n;unfold aM;omega
section
variable {w w' w0:World}
def No:ba 60 #[] w (Ok λu w'=>∃m tn v o p x G,u= .agg #[.slice m tn v,.slice o p x]/\bu w' G KI m tn o p/\(∀n,G n->w.heap.size<=n/\n<w'.heap.size)/\ai w w'):=by
 refine GR (PA.mk λb y V z=>PA.mk λd A W B=>PA.mk λf q X C=>PA.mk λg k Y E=>PA.mk λr h Z F=>?_);have s:=((A.then q).then k).then h;refine PS.mk (s.get z id) sM λw6 H s6 I=>PS.mk I sM λc J s7 t=>⟨_,_,_,_,_,_,ae t rfl,ae t rfl,?_⟩
 have e:aj (λn=>n=w.heap.size) r c:=H.then J;have K:=e.get (h.get (k.get (q.get B id) id) id) (λP=>by have P:b.heap.size=w.heap.size:=P;omega);have L:=e.get (h.get (k.get C id) id) (λP=>by have P:d.heap.size=w.heap.size:=P;omega);have M:=e.get (h.get E id) (λP=>by have P:f.heap.size=w.heap.size:=P;omega);have N:=e.get F (λP=>by have P:g.heap.size=w.heap.size:=P;omega);have O:Row jv 32 c (λn=>n=b.heap.size\/False) (L1 b.heap.size) 3 [⟨0,1,0,2⟩,⟨1,0,-1,0⟩,⟨0,2,-1,0⟩]:=
  Row.AP (c:=jv) (xs:=[⟨0,1,0,2⟩,⟨1,0,-1,0⟩,⟨0,2,-1,0⟩]) (D:=λ_=>False) K ⟨_,_,rfl,⟨rfl,i10 rfl,i10 rfl,i10 rfl,i10 rfl⟩,_,_,rfl,⟨rfl,i10 rfl,i10 rfl,i10 rfl,i10 rfl⟩,_,_,rfl,⟨rfl,i10 rfl,i10 rfl,i10 rfl,i10 rfl⟩,rfl⟩ dC dC
 have Q:Row sJ 48 c (λn=>n=d.heap.size\/n=b.heap.size\/False) (L1 d.heap.size) 6 [⟨1,1,true,[]⟩,⟨2,3,false,[]⟩,⟨3,2,false,[]⟩,⟨4,2,false,[⟨0,1,0,2⟩,⟨1,0,-1,0⟩,⟨0,2,-1,0⟩]⟩,⟨2,2,false,[]⟩,⟨1,1,false,[]⟩]:=by
  have no:∀(i j:Int) (l:Bool),aM i->aM j->sJ.rep c (λn=>n=b.heap.size\/False) ⟨i,j,l,[]⟩ [WP i,WP j,.bool l,.slice none 0 0]:=λi j l R S=>⟨none,0,0,rfl,dA _ _,R,S⟩
  exact Row.AP (c:=sJ) (xs:=[⟨1,1,true,[]⟩,⟨2,3,false,[]⟩,⟨3,2,false,[]⟩,⟨4,2,false,[⟨0,1,0,2⟩,⟨1,0,-1,0⟩,⟨0,2,-1,0⟩]⟩,⟨2,2,false,[]⟩,⟨1,1,false,[]⟩]) (D:=λn=>n=b.heap.size\/False) L ⟨_,_,rfl,no 1 1 true (i10 rfl) (i10 rfl),_,_,rfl,no 2 3 false (i10 rfl) (i10 rfl),_,_,rfl,no 3 2 false (i10 rfl) (i10 rfl),_,_,rfl,⟨_,_,_,rfl,O,i10 rfl,i10 rfl⟩,_,_,rfl,no 2 2 false (i10 rfl) (i10 rfl),_,_,rfl,no 1 1 false (i10 rfl) (i10 rfl),rfl⟩ dC dC
 have T:Row Ci 40 c (λn=>n=f.heap.size\/False) (L1 f.heap.size) 3 KI.projs:=
  Row.AP (c:=Ci) (xs:=[⟨0,0,1,0,2⟩,⟨0,2,2,0,1⟩,⟨0,5,3,4,4⟩]) (D:=λ_=>False) M ⟨_,_,rfl,⟨rfl,i10 rfl,i10 rfl,i10 rfl,i10 rfl,i10 rfl⟩,_,_,rfl,⟨rfl,i10 rfl,i10 rfl,i10 rfl,i10 rfl,i10 rfl⟩,_,_,rfl,⟨rfl,i10 rfl,i10 rfl,i10 rfl,i10 rfl,i10 rfl⟩,rfl⟩ dC dC
 have U:Row nz 24 c (λn=>n=g.heap.size\/n=d.heap.size\/n=b.heap.size\/False) (L1 g.heap.size) 1 KI.types:=
  Row.AP (c:=nz) (xs:=[[⟨1,1,true,[]⟩,⟨2,3,false,[]⟩,⟨3,2,false,[]⟩,⟨4,2,false,[⟨0,1,0,2⟩,⟨1,0,-1,0⟩,⟨0,2,-1,0⟩]⟩,⟨2,2,false,[]⟩,⟨1,1,false,[]⟩]]) (D:=λn=>n=d.heap.size\/n=b.heap.size\/False) N ⟨_,_,rfl,⟨_,_,_,rfl,Q⟩,rfl⟩ dC dC
 refine Ok.mk ⟨_,_,_,_,_,_,λn=>(n=g.heap.size\/n=d.heap.size\/n=b.heap.size\/False)\/n=f.heap.size\/False,rfl,⟨U.mono λn a=>.inl a,T.mono λn a=>.inr a⟩,λn a=>?_,?_⟩
 ·have z7:c.heap.size=r.heap.size:=oM
  rcases a with(rfl|rfl|rfl|a)|rfl|a<;>first|omega|exact a.elim
 ·exact(y.then s).new e λn a=>.inr (by have a:n=w.heap.size:=a;omega)
def KJ:ba 24 #[WP e] w (Ok λk w'=>∃P tn d a b f G,k=xq (gJ e) P tn d a b f/\bu w' G KI P tn a b/\(∀n,G n->w.heap.size<=n/\n<w'.heap.size)/\ai w w'):=by
 refine DN (PA.mk λq l r m=>PC.ok No ?_);rintro _ s ⟨P,tn,d,a,b,f,G,rfl,o,g,h⟩;refine⟨_,_,_,_,_,_,rfl,aD (IK (gJ e) P tn d a b f) (h.get m id) rfl λt i u p=>au (IK (gJ e) P tn d a b f) p (Ok.mk ⟨P,tn,d,a,b,f,G,rfl,o.keep i λn c j=>by have j:n=w.heap.size:=j;have:=g n c;omega,λn c=>by have:=g n c;omega,(l.then h).new i λn c=>.inr (by have c:n=w.heap.size:=c;omega)⟩)⟩
end
section
variable {w w' w0:World} {p q:Nat} {F G D E:RK} {c e:bN} {self other:Int} {X Y:bg}
def Lz(c:bN)(self:Int):(cB c self).2.gG.asked=[]:=by
 have n:(Cr c).2.gG.asked=[]:=by unfold Cr;rw[yD]
 unfold cB;split
 ·exact n
 split<;>exact n
def bY.cl(n:bY w p F c self X):X.S.Cl/\X.S.n=c.aC.toNat:=by
 obtain⟨b,d,P,a⟩:=n;exact(a.at' 3).2
def bY.len(a:bY w p F c self X):X.S.l.length<=20000000:=by
 obtain⟨f,b,n,d⟩:=a;have e:dh w b.bp (λP=>F P/\n P=4) c.decl c.every.toNat X.S.l:=d.at' 4;exact e.1.2.2.2
def bY.dok(b:bY w p F c self X):X.D.Ok:=by
 obtain⟨f,P,n,d⟩:=b;obtain⟨Fd,e,-⟩:=(show DL w (λa=>F a/\n a=2) P.dp P.lp X.D X.log from d.at' 2)
 exact e.ok
end
section
variable {w w' w0 w1 w2 wb:World} {p i k g:Nat} {F F1 F' G G' T D:RK} {cls cls':Nat->Nat} {h:Lg} {c:bN} {X:dE} {s:fR} {x:iG} {v:Value} {r:iG×dE} {now:Int} {rs:List (Nat×bg)} {dt:List bW} {y:Nat×bg} {R R':bg} {aC:List bg}
def mS.base(b:mS w1 f x v w2)(r:w.heap.size<=w1.heap.size):mS w f x v w2:=by
 obtain⟨c,d,e,g,h,i,j,k,l,G,m,o,p,q,n⟩:=b;exact⟨c,d,e,g,h,i,j,k,l,G,m,o,p,q,λP a=>⟨by have:=(n P a).1;omega,(n P a).2⟩⟩
def mS.new(b:gN w x v w2)(c:∀n,f n->n<w.heap.size):mS w f x v w2:=by
 obtain⟨d,e,g,h,i,j,k,l,m,G,o,p,q,r,P⟩:=b;exact⟨d,e,g,h,i,j,k,l,m,G,o,p,q,r,λn a=>⟨(P n a).1,(P n a).2,λs=>by have:=c n s;have:=P n a;omega⟩⟩
def Bo{n:ks j}{bytes:Nat}(h:Row n bytes w D d a []):Row n bytes w (λ_=>False) d a []:=by
 have:=h.len;simp at this;subst this;exact⟨rfl,by unfold aR;omega,λi y P=>by simp at P⟩
def mS.flat(e:gN w x v w2)(n:x.st.cells=[])(P:x.Lj=[])(a:x.rows=[]):mS w f x v w2:=by
 obtain⟨g,h,i,j,k,l,m,o,p,G,q,b,c,d,s⟩:=e;rw[n]at b;rw[P]at c;rw[a]at d;exact⟨g,h,i,j,k,l,m,o,p,λ_=>False,q,by rw[n];exact Bo b,by rw[P];exact Bo c,by rw[a];exact Bo d,λt r=>r.elim⟩
def Wj{p:Array Value}(s:mS wb f x v w1)(t:w1.heap[g]? =some (.cells p 53 (0,0)))(u:8=p.size)(E:g<wb.heap.size)(w:∀w2,aj (·=g) w1 w2->mS wb f x v w2->q v w2):
  sK (dz PP 53) λy=>v=y/\nw PP 53 (LL g) y w1 λw2=>jq PP 53 (LL g) w2 λr=>Ok q (.returned r) w2:=by
 obtain⟨a,b,c,d,e,h,i,j,k,G,rfl,z,A,B,l⟩:=s;have o:∀n,G n->¬n=g:=λn P F=>by have:=l n P;omega
 exact cz (Rw x a b c d e h i j k) ⟨rfl,aD (iP x a b c d e h i j k) t u λw2 m H C=>au (iP x a b c d e h i j k) C (Ok.mk (w w2 m ⟨a,b,c,d,e,h,i,j,k,G,rfl,z.keep m o,A.keep m o,B.keep m o,λn P=>⟨(l n P).1,by have:=(l n P).2.1;omega,(l n P).2.2⟩⟩))⟩
def _root_.Go.ar.cy.last(P:cy F w f w1)(a:aj T w1 w2)(b:∀n,T n->w.heap.size<=n):cy F w f w2:=⟨P.keep.new a λn c=>.inr (b n c),P.new⟩
def _root_.Go.ar.cy.af(n:cy F w f w1)(P:ai w1 w2):cy F w f w2:=⟨n.keep.then (ai.keep P),n.new⟩
def _root_.Go.ar.cy.of(n:ai w w1):cy F w F w1:=⟨ai.keep n,λa P=>.inl P⟩
def Ub(j:Rv h1 a){c:Array Value}(l:Nx h1 wb F1 k r v w1)(d:cy F w F1 wb)(A:a<=w.heap.size)(e:wb.heap[g]? =some (.cells c 53 (0,0)))(m:8=c.size)(B:w.heap.size<=g)(f:¬F1 g):
  sK (dz PP 53) λy=>v=y/\nw PP 53 (LL g) y w1 λw2=>jq PP 53 (LL g) w2 λo=>Ok (Nx h1 w F k r) (.returned o) w2:=by
 obtain⟨p,q,s,t,b⟩:=l;have u:=aA e;exact Wj q (b.keep.get e f) m u λw2 i x=>⟨p,x.base d.keep.size,j _ _ _ _ _ s i (λP z n=>by have n:P=g:=n;subst n;exact(b.new P z).elim f λh=>oM) (λP n=>by have n:P=g:=n;omega),t,(d.trans b).last i λP n=>by have n:P=g:=n;omega⟩
def Wl(d:Rv h1 a){no:Int}{b:Array Value}(e:h1 w1 F1 X)(f:fT k X)(h:cy F w F1 w1)(q:a<=w.heap.size)(i:w1.heap[g]? =some (.cells b 53 (0,0)))(j:8=b.size)(r:w.heap.size<=g)(l:¬F1 g):
  nw PP 53 (LL g) (.agg #[WP no,WP 0,WP 0,WP 0,.slice none 0 0,.slice none 0 0,.slice none 0 0,.bool false]) w1 λw2=>jq PP 53 (LL g) w2 λm=>Ok (Nx h1 w F k (bP no,X)) (.returned m) w2:=
 aD (iP (bP no) none 0 0 none 0 0 none 0 0) i j λw2 c s o=>au (iP (bP no) none 0 0 none 0 0 none 0 0) o (Ok.mk ⟨F1,.flat (gN.plain rfl rfl rfl) rfl rfl rfl,d _ _ _ _ _ e c (λP p n=>by have n:P=g:=n;subst n;exact l p) (λP n=>by have n:P=g:=n;omega),f,h.last c λP n=>by have n:P=g:=n;omega⟩)
def qQ{n:Array Value}(P:jo w0 wb p F1 c k r v w1)(a:cy F w F1 wb)(b:w0.heap.size<=w.heap.size)(d:wb.heap[g]? =some (.cells n 53 (0,0)))(e:8=n.size)(f:w.heap.size<=g)(h:¬F1 g):
  sK (dz PP 53) λy=>v=y/\nw PP 53 (LL g) y w1 λw2=>jq PP 53 (LL g) w2 λi=>Ok (jo w0 w p F c k r) (.returned i) w2:=Ub EC P a b d e f h
def GF{n:Array Value}(P:cA w0 w1 p F1 c X)(a:fT k X)(b:cy F w F1 w1)(d:w0.heap.size<=w.heap.size)(e:w1.heap[g]? =some (.cells n 53 (0,0)))(f:8=n.size)(h:w.heap.size<=g)(i:¬F1 g):
  nw PP 53 (LL g) (.agg #[WP 0,WP 0,WP 0,WP 0,.slice none 0 0,.slice none 0 0,.slice none 0 0,.bool false]) w1 λw2=>jq PP 53 (LL g) w2 λj=>Ok (jo w0 w p F c k (bP 0,X)) (.returned j) w2:=Wl EC P a b d e f h i
def Ry{no:Int}:ba 35 #[WP no] w (Ok λv w'=>gN w (bP no) v w'/\ai w w'):=
 Bp (PA.mk λw2 P e a=>aD (iP (bP no) none 0 0 none 0 0 none 0 0) a rfl λf b g c=>au (iP (bP no) none 0 0 none 0 0 none 0 0) c (Ok.mk ⟨gN.plain rfl rfl rfl,P.new b λd n=>.inr (by have n:d=w.heap.size:=n;omega)⟩))
def iy{no:Int}(P:cA w0 w p F c X)(a:fT k X):ba 35 #[WP no] w (Ok (jo w0 w p F c k (bP no,X))):=
 Calls.ok Ry λv w' ⟨b,n⟩=>⟨F,.flat b rfl rfl rfl,P.af n,a,cy.of n⟩
def GG:(fL e4 e).isSome=decide (0<=e/\e<e4.length):=by
 by_cases h:0<=e/\e<e4.length
 ·rw[Zy h];unfold fL
  rw[Zx h.1,Qq oM];rfl
 ·rw[Xv h,Lk.2 oM];rfl
def cX.n(n:cX w F cls p h now c rs dt)(P:h.ps=rs.map (·.1)):h.n=rs.length:=by
 have:=n.nu.len dC;rw[P,Q8]at this;exact this
def sq(b:cA w0 w p F c X):ba 27 #[LL p,WP e] w (Ok λv w'=>v= .bool (fL X.aC e).isSome/\w=w'):=by
 obtain⟨h,cls,rs,a,d,f,i,j,k⟩:=b;have g:=a.n d;rw[GG,f,Q8];refine nN (al.dec (λP=>⟨p,0,rfl,_,_,_,ae a.cell rfl,Ok.mk ⟨?_,rfl⟩⟩) (λP=>Ok.mk ⟨?_,rfl⟩))
 ·rw[g];congr 1;exact decide_eq_decide.2 ⟨λn=>⟨P,n⟩,λn=>n.2⟩
 ·congr 1;exact(Xv λn=>P n.1).symm
def cX.ptr(b:cX w F cls p h now c rs dt)(d:h.ps=rs.map (·.1))(f:rs[i]? =some y)(q:rs.length<=1000):∃n P,h.a=some ⟨n,P,none⟩/\i<h.n/\w.cell? ⟨n,P+i,none⟩=some (LL y.1)/\F n/\cls n=0:=by
 have r:=b.n d;have s:=(Qv.1 f).1;obtain⟨n,P,g,t,j,-,k,a,e,l⟩:=(b.nu.row (bytes:=8) dC (by rw[d,Q8];unfold aR;omega)).IA (i:=i) oM;have m:g=y.1:=by rw[d,Q9,f]at a;injection a with a;exact a.symm
 obtain⟨rfl,-⟩:=l;have e:=e 0 dC;subst m;have o:=b.c0.2.2.2 n k;exact⟨n,P,j,oM,by simpa[show YI.k=1 from rfl]using e,o.1⟩
def cX.self(n:cX w F cls p h now c rs dt):F p/\cls p=0:=n.c0.1
def mT{c g:Type}{f:c->g}:∀{n:List c} {d:Nat} {a b:c},n[d]? =some a->f b=f a->(n.set d b).map f=n.map f
 |x::n,0,a,b,P,e=>by simp at P;subst P;simp[e]
 |x::n,d+1,a,b,P,e=>by simp at P;simp[mT P e]
def cA.Ll(n:cX w F cls p h now c (rs.set i (y.1,R')) dt)(P:rs[i]? =some y)(a:h.ps=rs.map (·.1))(b:aC=rs.map (·.2))(d:rs.length=c.aC.toNat)(e:jX c 0)(f:Env w0 w F):cA w0 w p F c ⟨aC.set (i:Int).toNat R',dt,now⟩:=
 ⟨h,cls,_,n,by rw[a];exact(mT (f:=(·.1)) (b:=(y.1,R')) P rfl).symm,by dsimp only;rw[b,List.map_set,Qx],by rw[List.length_set];exact d,e,f⟩
def jo.rep{R':bg}(e:cX w F cls p h X.now c rs X.dt)(f:h.ps=rs.map (·.1))(g:X.aC=rs.map (·.2))(j:rs.length=c.aC.toNat)(l:jX c 0)(m:Env w0 w F)(a:rs[i]? =some y)(o:gN w x v w')(q:x.st.cells=[])(r:x.Lj=[])(s:x.rows=[])(t:bY w' y.1 G' c i R')(u:cy (λb=>F b/\cls b=i+2) w G' w')(n:fT k X)(z:Fit (k+1) R'):
  jo w0 w p F c (k+1) (x,⟨X.aC.set (i:Int).toNat R',X.dt,X.now⟩) v w':=by
 obtain⟨F1,E,P,d,H,-⟩:=EB e fD a t u;refine⟨F1,.flat o q r s,cA.Ll P a f g j l (m.iE d),?_,d⟩;exact⟨λA B=>(List.mem_or_eq_of_mem_set B).elim (λP=>(n.aC A P).mono) λC=>C▸z,n.Lm,by have h:=n.now;show X.now<=_;omega⟩
def IB(a:aw)(n:Int)(P:bW)(b:Int):(my a n P b).length<=2:=by
 have d:∀(c:Prop) [Decidable c] (e:bW),(if c then [e]else([]:List bW)).length<=1:=λc _ e=>by split<;>simp
 unfold my
 by_cases f:P.kind≠1/\P.kind≠2
 ·rw[Zx f];simp
 rw[Zq f];have h:=d (0<(a.missing P.vec (max 1 (min b 32))).length) ⟨3,n,P.bO,[],a.missing P.vec (max 1 (min b 32))⟩;have i:=d (P.kind=1/\(mU P.vec a.vec=2\/mU P.vec a.vec=3)) ⟨2,n,P.bO,a.vec,[]⟩;dsimp only;generalize(if 0<(a.missing P.vec (max 1 (min b 32))).length then [(⟨3,n,P.bO,[],a.missing P.vec (max 1 (min b 32))⟩:bW)]else [])=j at h;generalize(if P.kind=1/\(mU P.vec a.vec=2\/mU P.vec a.vec=3)then [(⟨2,n,P.bO,a.vec,[]⟩:bW)]else [])=k at i
 by_cases g:(j++k).isEmpty=true
 ·rw[Zx g];simp
 ·rw[Zq g,QX];omega
def IC(c:bN)(n:Int)(X:bg)(P:bW):(ck c n X P).1.length<=2:=by
 unfold ck
 cases X.log with
 |none=>simp
 |some a=>
  dsimp only;split
  ·simp
  split
  ·simp
  split
  ·unfold lD
   dsimp only;split
   ·simp
   split<;>simp
  split
  ·exact IB _ _ _ _
  split<;>simp
def xp(n:cX w F cls p h now c rs dt)(P:rs[i]? =some y)(b:F a/\cls a=0):¬(F a/\cls a=i+2):=λd=>by omega
def ED(m:cA w0 w p F c X)(o:fT k X)(hk:k<=1000)(b:Option bW){x z:am}{A M B N:Nat}(hv:Row aP 8 w D x A (b.getD vv).vec)(b1:Row kY 96 w D z B (b.getD vv).events)(q:∀P,D P->P<w.heap.size/\¬F P):
  ba 61 #[LL p,iQ (b.getD vv) x A M z B N,.bool b.isSome] w (Ok (jo w0 w p F c (k+1) (fm c X b))):=by
 have a1:=m.aF;have C:=m.env.gr.size;refine nP (PA.mk λw1 k1 s1 O=>PA.mk λw2 E s2 H=>?_);have g:=k1.then E;have I:=m.af g;have z2:=g.size;have r:¬F w1.heap.size:=λa=>by have:=a1 _ a;omega
 cases b with
 |none=>exact al.tt rfl (PC.ok (iy I o.mono) λv w' i=>qQ i (cy.of g) C H rfl oM r)
 |some n=>
  refine al.ff rfl ⟨_,ae (E.get O id) rfl,PC.ok (sq I) ?_⟩;rintro _ _ ⟨rfl,rfl⟩;refine⟨_,rfl,?_⟩;show al (!(fL X.aC n.mQ).isSome) _ _
  cases J:fL X.aC n.mQ with
  |none=>
   have a:fm c X (some n)=(bP 1,X):=by unfold fm;dsimp only;rw[J]
   rw[a];exact al.tt rfl (PC.ok (iy I o.mono) λv w' i=>qQ i (cy.of g) C H rfl oM r)
  |some R=>
   obtain⟨d,Q,S⟩:=eJ J;have a:fm c X (some n)=(bP (ck c d R n).2.1,X.put d (ck c d R n).2.2 (ck c d R n).1):=by unfold fm;dsimp only;rw[J];dsimp only;rw[Q]
   rw[a];refine al.ff rfl λT d3=>?_;have s:ai w2 T:=d3.keep;have j:=g.then s;obtain⟨h,cls,rs,e,U,K,a5,L,V⟩:=m.af j;obtain⟨a6,b8,b9⟩:=L.aC;rw[K,Q9]at S;obtain⟨y,f,rfl⟩:=Option.map_eq_some_iff.1 S;obtain⟨P,b,b2,c0,a2,c1⟩:=e.ptr U f oM;have W:=s.get (E.get O id) id;have Y:=cX.rep e f;have a7:y.2∈X.aC:=by rw[K];exact Xk.2 ⟨y,QZ f,rfl⟩
   have Z:=o.aC _ a7;have b3:=Y.waits;have b4:=L.Ln;have z3:=j.size;have c2:=s.size;refine⟨p,0,rfl,_,_,_,ae e.cell rfl,_,ae W rfl,P,b,b2,by show(0:Int)<=n.mQ;omega,by show n.mQ<_;omega,_,by show T.cell? ⟨P,b+Int.toNat n.mQ,none⟩=_;rw[Q,Qx];exact a2,au (eU n x A M z B N) W ?_⟩;refine PC.ok (ID Y V.part (hv.af j) (λP l=>⟨by have:=(q P l).1;omega,λa=>(q P l).2 a.1⟩) (b1.af j) (λP l=>⟨by have:=(q P l).1;omega,λa=>(q P l).2 a.1⟩) (by have:=Z.evs;omega)) ?_;rintro _ w4 ⟨v1,G',rfl,t,a8,a0⟩;have a9:=DF c d y.2 n b3 b4.2;have b0:=IC c d y.2 n;generalize ck c d y.2 n=dl at t a8 a9 b0;obtain⟨oa,on,oc,a3,Do,rfl,t⟩:=t;have np:=xp e f e.self;refine⟨oa,on,oc,_,rfl,p,0,rfl,_,ae (a0.keep.get e.cell np) rfl,?_⟩;refine PC.ok (Bn e f a8 a0 ⟨oa,on,oc,a3,Do,rfl,t⟩ oM) ?_;rintro _ w5 ⟨a4,F5,c3,rfl,b5,u,-⟩;have b6:¬F5 w1.heap.size:=λa=>(u.new _ a).elim r λh=>by omega
   have b7:cA w0 w5 p F5 c (X.put d dl.2.2 dl.1):=cA.Ll b5 f U K a5 L (V.iE u);exact⟨a4,rfl,PC.ok (iy b7 (o.put (Z.IE a9))) λv w' i=>qQ i (cy.after j u) C (u.keep.get (s.get H id) r) rfl oM b6⟩
def cX.take(P:cX w F cls p h now c rs dt)(d:aM e):ba 62 #[LL h.q,WP e] w (Ok λv w'=>Bq w (dP dt e) v w'/\cX w' F cls p h now c rs (fw dt e)/\aj (λa=>F a/\cls a=1) w w'):=by
 refine Calls.ok (IF P.Xi d) λv w' ⟨f,g,b⟩=>⟨f,?_,b⟩
 refine bb.same P fD b g λi G j n=>?_
 match i,j,n with
 |0,_,n=>exact n
 |k+2,_,n=>exact n
def IG(b:cA w0 w p F c X)(q:fT k X)(r:k<=1000)(t:s.Ok):
  ba 29 #[LL p,lb s] w (Ok (jo w0 w p F c (k+1) (fm c ⟨X.aC,fw X.dt s.n,X.now⟩ (dP X.dt s.n)))):=by
 have d:=b.aF;have u:=b.env.gr.size;refine lY (PA.mk λw1 x O y=>PA.mk λw2 e Q z=>λi A=>?_);have f:ai w2 i:=A.keep;have g:=(x.then e).then f;have R:=g.size;have S:=e.size;obtain⟨h,cls,rs,j,B,C,E,H,I⟩:=b.af g;refine⟨p,0,rfl,_,ae j.cell rfl,_,ae (f.get (e.get y id) id) rfl,PC.ok (j.take t.n) ?_⟩;rintro _ J ⟨⟨T,U,V,W,Y,Z,G,rfl,K,L,l⟩,M,m⟩;have o:cy F i F J:=⟨m.mono λP _ n=>n.1,λP n=>.inl n⟩
 refine cz (EE _ _ _ _ _ _ _) ⟨_,rfl,PC.ok (ED (X:=⟨X.aC,fw X.dt s.n,X.now⟩) ⟨h,cls,rs,M,B,C,E,H,I.iE o⟩ q.dt r _ K L λP n=>⟨(l P n).2,λa=>by have:=d P a;have:=l P n;omega⟩) λv w' N=>qQ N (cy.after g o) u (m.get (f.get z id) λa=>by have:=d _ a.1;omega) rfl oM λa=>by have:=d _ a;omega⟩
def Lp(n:cA w0 w p F c X)(m:fT k X)(o:k<=1000)(C:s.Ok):
  ba 30 #[LL p,lb s] w (Ok (jo w0 w p F c (k+1) (fm c X (dP X.dt s.n)))):=by
 have g:=n.aF;have q:=n.env.gr.size;refine mV (PA.mk λw1 r E t=>PA.mk λw2 a H u=>λx y=>?_);have b:ai w2 x:=y.keep;have P:=(r.then a).then b;have I:=P.size;have J:=a.size;obtain⟨h,cls,rs,i,-⟩:=n.af P;refine⟨p,0,rfl,_,ae i.cell rfl,_,ae (b.get (a.get t id) id) rfl,PC.ok (yB i.Xi) ?_⟩;rintro _ K ⟨⟨L,M,N,O,Q,R,G,rfl,z,A,j⟩,d⟩;refine cz (EE _ _ _ _ _ _ _) ⟨_,rfl,PC.ok (ED (n.af (P.then d)) m o _ z A λe l=>⟨(j e l).2,λf=>by have:=g e f;have:=j e l;omega⟩) λv w' B=>qQ B (cy.of (P.then d)) q (d.get (b.get u id) id) rfl oM λf=>by have:=g _ f;omega⟩
def Rz(u:cA w0 w p F c X)(B:fT k X)(C:s.Ok):
  ba 31 #[LL p,lb s] w (Ok (jo w0 w p F c k (bP (if(dP X.dt s.n).isSome then 0 else 14),⟨X.aC,fw X.dt s.n,X.now⟩))):=by
 have i:=u.aF;have E:=u.env.gr.size;refine oG (PA.mk λw1 O s1 Q=>PA.mk λw2 x s2 R=>λe S=>?_);have m:ai w2 e:=S.keep;have j:=(O.then x).then m;have z3:=j.size;have z2:=x.size;have b0:=m.size;obtain⟨h,cls,rs,o,T,U,V,W,Y⟩:=u.af j;have Z:=m.get (x.get Q id) id;have H:=m.get R id;have I:=o.self;have l:∀{b:World} (n:Bool),cX b F cls p h X.now c rs (fw X.dt s.n)->cy F e F b->b.heap[w1.heap.size]? =some (.cells (fS (bP 0) none 0 0 none 0 0 none 0 0).toArray 53 (0,0))->al (!n) (PC PP 35 #[WP 14] b (λa4 a5=>sK (dz PP 53) λJ=>a4=J/\nw PP 53 (LL w1.heap.size) J a5 λK=>jq PP 53 (LL w1.heap.size) K λa6=>Ok (jo w0 w p F c k (bP (if n then 0 else 14),⟨X.aC,fw X.dt s.n,X.now⟩)) (.returned a6) K) (λch a0=>Ok (jo w0 w p F c k (bP (if n then 0 else 14),⟨X.aC,fw X.dt s.n,X.now⟩)) (.panicked ch) a0))
   (nw PP 53 (LL w1.heap.size) (.agg #[WP 0,WP 0,WP 0,WP 0,.slice none 0 0,.slice none 0 0,.slice none 0 0,.bool false]) b λL=>jq PP 53 (LL w1.heap.size) L λa7=>Ok (jo w0 w p F c k (bP (if n then 0 else 14),⟨X.aC,fw X.dt s.n,X.now⟩)) (.returned a7) L):=λ{b} n y z q=>by
  have M:cA w0 b p F c ⟨X.aC,fw X.dt s.n,X.now⟩:=⟨h,cls,rs,y,T,U,V,W,Y.iE z⟩
  cases n with
  |false=>exact al.tt rfl (PC.ok (iy M B.dt) λv w' hq=>qQ hq (cy.after j z) E q rfl oM λP=>by have:=i _ P;omega)
  |true=>exact al.ff rfl (GF M B.dt (cy.after j z) E q rfl oM λP=>by have:=i _ P;omega)
 have r:∀n,w.heap.size<=n->¬(F n/\cls n=1):=λn a P=>by have:=i _ P.1;omega
 have a8:=i p I.1;refine⟨λn=>(F n/\cls n=1)\/e.heap.size<=n,p,0,rfl,λP=>P.elim (λh=>by have:=h.2;have:=I.2;omega) (λh=>Nat.lt_irrefl _ (Qk a8 (Xx j.size h))),_,ae o.cell rfl,λP=>P.elim (r _ oM) (λh=>by have h:e.heap.size<=w.heap.size:=h;omega),_,ae Z rfl,PC.ok (o.take C.n) ?_,PA.mk λt d s4 g4=>⟨ai.keep d,PC.ok (cX.take (cX.af o d) C.n) ?_⟩⟩
 ·rintro _ t ⟨⟨va,vn,vc,ea,en,ec,G,rfl,-⟩,a9,d⟩
  have z4:=d.size;refine cz (EE _ _ _ _ _ _ _) ⟨_,rfl,d.mono λn _ a=>.inl a,PA.mk λb f s5 q=>⟨ai.keep f,aD (eU _ _ _ _ _ _ _) q rfl λN g s6 g6=>⟨g.mono λn a P=>.inr (by have P:n=t.heap.size:=P;omega),?_⟩⟩⟩;have A:ai t N:=f.new g λn a=>.inr (by have a:n=t.heap.size:=a;omega);exact l (dP X.dt s.n).isSome (cX.af a9 A) ⟨(d.mono λn _ a=>a.1).then (ai.keep A),λn a=>.inl a⟩ (A.get (d.get H (r _ oM)) id)
 ·rintro _ b ⟨⟨va,vn,vc,ea,en,ec,G,rfl,-⟩,y,f⟩
  have z5:=f.size;refine cz (EE _ _ _ _ _ _ _) ⟨_,rfl,f.mono λn _ a=>.inl a,aD (eU _ _ _ _ _ _ _) (f.get g4 (r _ oM)) rfl λN g s6 g6=>⟨g.mono λn a P=>.inr (by have P:n=e.heap.size:=P;omega),?_⟩⟩;refine l (dP X.dt s.n).isSome (bb.keep y fD g λn a P=>by have P:n=e.heap.size:=P;have:=i _ a;omega) ⟨?_,λn a=>.inl a⟩ (g.get (f.get (d.get H id) (r _ oM)) λP=>by have P:w1.heap.size=e.heap.size:=P;omega);exact((ai.keep d).then (f.mono λn _ a=>a.1)).new g λn P=>.inr (by have P:n=e.heap.size:=P;omega)
end
section
variable {w w' w0 w1 w2 wb:World} {p i k g:Nat} {F F1 F' G G' T D:RK} {cls cls':Nat->Nat} {h:Lg} {c:bN} {X:dE} {s:fR} {x:iG} {v:Value} {r:iG×dE} {now:Int} {rs:List (Nat×bg)} {dt:List bW} {y:Nat×bg} {R R':bg} {aC:List bg}
def RA(c:bN)(n:Int)(X:bg)(P now:Int):(fk c n X P now).1.length<=1:=by
 unfold fk;split<;>simp
def Lq(j:cA w0 w p F c X)(b:fL X.aC i=some R):∃h cls rs y,cX w F cls p h X.now c rs X.dt/\h.ps=rs.map (·.1)/\X.aC=rs.map (·.2)/\rs.length=c.aC.toNat/\jX c 0/\Env w0 w F/\rs[i]? =some y/\y.2=R/\(∃n d,h.a=some ⟨n,d,none⟩/\i<h.n/\w.cell? ⟨n,d+i,none⟩=some (LL y.1)/\F n/\cls n=0)/\R∈X.aC:=by
 obtain⟨h,cls,rs,e,f,P,k,g,l⟩:=j;obtain⟨m,o,q⟩:=g.aC;rw[nQ,P,Q9]at b;obtain⟨y,a,rfl⟩:=Option.map_eq_some_iff.1 b;exact⟨h,cls,rs,y,e,f,P,k,g,l,a,rfl,e.ptr f a oM,by rw[P];exact Xk.2 ⟨y,QZ a,rfl⟩⟩
def RB(b:cA w0 w p F c X)(t:fT k X)(Q:s.Ok)(u:fL X.aC s.n=some R):
  ba 33 #[LL p,lb s] w (Ok (jo w0 w p F c (k+1) (if(fL X.aC s.m).isNone\/s.m=s.n then(bP 1,X)else(bP 0,X.put s.n (fk c s.n R s.m X.now).2 (fk c s.n R s.m X.now).1)))):=by
 have S:=b.aF;have C:=b.env.gr.size;refine oH (PA.mk λw1 T s1 U=>PA.mk λw2 E s2 H=>?_);have d:=T.then E;have z2:=d.size;have x:∀n,w.heap.size<=n->¬F n:=λn f a=>by have:=S _ a;omega
 have g:=E.get U id;have no:∀{r},r=(bP 1,X)->PC PP 35 #[WP 1] w2 (λv w'=>sK (dz PP 53) λy=>v=y/\nw PP 53 (LL w1.heap.size) y w' λw2=>jq PP 53 (LL w1.heap.size) w2 λV=>Ok (jo w0 w p F c (k+1) r) (.returned V) w2) (λW w'=>Ok (jo w0 w p F c (k+1) r) (.panicked W) w'):=λa=>by
  rw[a];exact PC.ok (iy (b.af d) t.mono) λv w' Y=>qQ Y (cy.of d) C H rfl oM (x _ oM)
 refine⟨_,ae g rfl,PC.ok (sq (b.af d)) ?_⟩;rintro _ _ ⟨rfl,rfl⟩;refine⟨_,rfl,al.mk (λe=>no (Zx (.inl (by simpa using e)))) (λe=>⟨_,ae g rfl,_,ae g rfl,al.eH (λz=>no (Zx (.inr z))) (λz=>?_)⟩)⟩;rw[Zq (by
         rintro(i|i);·simp at e;rw[Option.isNone_iff_eq_none]at i;rw[i]at e;simp at e
         ·exact z i)]
 intro Z d3;have j:ai w2 Z:=d3.keep;have A:=d.then j;have z3:=A.size;have b3:=j.size;have I:=j.get g id;obtain⟨B,l,-⟩:=eJ u;rw[l]at u⊢;obtain⟨h,cls,rs,y,P,a4,hX,a0,a5,he,m,rfl,⟨n,a1,a6,b4,a2,b5⟩,a3⟩:=Lq (b.af A) u;have hr:=cX.rep P m;have np:=xp P m P.self;have a7:=P.self;refine⟨λn=>F n/\cls n≠0,p,0,rfl,λa=>a.2 a7.2,_,ae P.cell rfl,p,0,rfl,_,_,_,ae P.cell rfl,_,ae I rfl,n,a1,a6,by rw[l];omega,by rw[l];omega,_,by rw[l,Qx];exact a2,_,ae I rfl,p,0,rfl,_,ae P.cell rfl,PC.ok (GH hr Q.m) ?_⟩;rintro _ w4 ⟨G',o,J,K⟩;have L:=Lr c B y.2 s.m X.now;have a8:=RA c B y.2 s.m X.now;generalize fk c B y.2 s.m X.now=dl at o J L a8;obtain⟨M,N,O,a9,Do,rfl,o⟩:=o;refine⟨M,N,O,rfl,K.keep.mono λn _ f=>⟨f.1,oM⟩,PC.ok (Bn P m J K ⟨M,N,O,a9,Do,rfl,o⟩ oM) ?_⟩;rintro _ w5 ⟨b0,F5,b6,rfl,b1,q,b2⟩;exact⟨b0,rfl,b2.mono λn _ f=>⟨f.1,oM⟩,GF (cA.Ll b1 m a4 hX a0 a5 (he.iE q)) (t.put ((t.aC _ a3).IE L)) (cy.after A q) C (q.keep.get (j.get H id) (x _ oM)) rfl oM λa=>(q.new _ a).elim (x _ oM) λh=>oM⟩
def Uc(N:cA w0 w p F c X)(J:fT k X)(hk:k<=1000)(O:s.Ok)(K:fL X.aC s.n=some R):
  ba 34 #[LL p,lb s] w (Ok (jo w0 w p F c (k+1) ((iR c s.n R s).1,⟨X.aC.set s.n.toNat (iR c s.n R s).2,X.dt,X.now⟩))):=by
 have Q:=N.aF;have S:=N.env.gr.size;obtain⟨n,z,-⟩:=eJ K;rw[z]at K⊢;refine pX (PA.mk λw1 k1 s1 g1=>PA.mk λw2 k2 s2 g2=>λe d3=>?_);have T:ai w2 e:=d3.keep;have a3:=(k1.then k2).then T;have z3:=a3.size;have z2:=k2.size;have b9:=T.size;have a4:=T.get (k2.get g1 id) id;obtain⟨h,cls,rs,y,a5,a6,hX,a1,a7,b3,U,V,⟨P,b4,b5,c0,b6,b7⟩,b1⟩:=Lq (N.af a3) K;have c1:=Q p a5.self.1;have c2:=Q P b7.1;have n1:¬e.heap.size<=p:=oM
 have n2:¬e.heap.size<=w.heap.size:=oM
 have n3:¬e.heap.size<=P:=oM
 refine⟨λP=>e.heap.size<=P,p,0,rfl,n1,_,_,_,ae a5.cell rfl,n2,_,ae a4 rfl,P,b4,b5,by rw[z];omega,by rw[z];omega,n3,_,by rw[z,Qx];exact b6,n2,?_⟩;refine Ny (es:=iS s.cmd) (yC s.cmd) a4 (λn z=>by rcases n with _|_|_|_|_|_|_|n<;>first|rfl|exact Zz z (by simp[iS])) (PA.mk λw4 k4 s4 g4=>⟨ai.keep k4,aD (yC s.cmd) g4 rfl λi k5 s5 A=>⟨k5.mono λP _ a=>by have a:P=e.heap.size:=a;omega,?_⟩⟩);have B:ai e i:=k4.new k5 λP W=>.inr (by have W:P=e.heap.size:=W;omega);have a9:=a3.then B;have z5:=a9.size;have c3:=B.size;have L:=B.get a4 id;have Y:=B.get (T.get g2 id) id;have C:¬F w1.heap.size:=λa=>by have:=Q _ a;omega
 have Z:cy F w F i:=cy.of a9;have hp:=cX.af a5 B;have E:=b3.af B;rw[<-V];rw[<-V]at b1;have j:=cX.rep hp U;have a0:=J.aC _ b1;have hl:=a0.evs;have a2:∀{x:iG} {R':bg} {v:Value} {w':World} {G':RK},iR c n y.2 s=(x,R')->gN i x v w'->x.st.cells=[]/\x.Lj=[]/\x.rows=[]->bY w' y.1 G' c n R'->cy (λP=>F P/\cls P=n+2) i G' w'->jY y.2 R'->sK (dz PP 53) λb=>v=b/\nw PP 53 (LL w1.heap.size) b w' λw2=>jq PP 53 (LL w1.heap.size) w2 λb=>Ok (jo w0 w p F c (k+1) ((iR c n y.2 s).1,⟨X.aC.set (n:Int).toNat (iR c n y.2 s).2,X.dt,X.now⟩)) (.returned b) w2:=λ{x R' v w' G'} a d ⟨e1,e2,e3⟩ l b0 hg=>by
  rw[a];exact qQ (jo.rep hp a6 hX a1 a7 E U d e1 e2 e3 l b0 J (a0.IE hg)) Z S Y rfl oM C
 have b2:∀{no:Int} {R':bg} {w':World} {G':RK},iR c n y.2 s=(bP no,R')->bY w' y.1 G' c n R'->cy (λP=>F P/\cls P=n+2) i G' w'->jY y.2 R'->PC PP 35 #[WP no] w' (λv w'=>sK (dz PP 53) λb=>v=b/\nw PP 53 (LL w1.heap.size) b w' λw2=>jq PP 53 (LL w1.heap.size) w2 λb=>Ok (jo w0 w p F c (k+1) ((iR c n y.2 s).1,⟨X.aC.set (n:Int).toNat (iR c n y.2 s).2,X.dt,X.now⟩)) (.returned b) w2) (λch w'=>Ok (jo w0 w p F c (k+1) ((iR c n y.2 s).1,⟨X.aC.set (n:Int).toNat (iR c n y.2 s).2,X.dt,X.now⟩)) (.panicked ch) w'):=λ{no R' w' G'} a l b0 hg=>by
  obtain⟨F',-,m,o,q⟩:=jo.rep (x:=bP no) (v:=.agg (fS (bP no) none 0 0 none 0 0 none 0 0).toArray) hp a6 hX a1 a7 E U (gN.plain rfl rfl rfl) rfl rfl rfl l b0 J (a0.IE hg);rw[a];exact PC.ok (iy m o) λv w2 hq=>qQ hq (Z.trans q) S (q.keep.get Y C) rfl oM λa=>(q.new _ a).elim C λh=>by omega
 have a8:∀{x:iG} {v:Value} {w':World},iR c n y.2 s=(x,y.2)->gN i x v w'->ai i w'->sK (dz PP 53) λb=>v=b/\nw PP 53 (LL w1.heap.size) b w' λw2=>jq PP 53 (LL w1.heap.size) w2 λb=>Ok (jo w0 w p F c (k+1) ((iR c n y.2 s).1,⟨X.aC.set (n:Int).toNat (iR c n y.2 s).2,X.dt,X.now⟩)) (.returned b) w2:=λ{x v w'} a d f=>by
  rw[a];refine qQ ⟨F,.new d λP W=>by have:=Q P W;omega,?_,?_,cy.of f⟩ Z S Y rfl oM C
  ·show cA w0 w' p F c ⟨X.aC.set (n:Int).toNat y.2,X.dt,X.now⟩
   rw[V,Nz K];exact N.af (a9.then f)
  ·show fT (k+1) ⟨X.aC.set (n:Int).toNat y.2,X.dt,X.now⟩
   rw[V,Nz K];exact J.mono
 refine⟨_,ae L rfl,al.eH (λg=>?_) (λg=>?_)⟩
 ·refine au (yC s.cmd) A (PC.ok (IH j E.part O.cmd oM) ?_)
  rintro _ H ⟨G',d,r,t⟩;exact a2 (by unfold iR;rw[Zx g]) d (by split<;>exact⟨rfl,rfl,rfl⟩) r t (Ls c n y.2 s.cmd)
 refine al.eH (λu=>?_) (λu=>?_)
 ·refine⟨_,ae L rfl,PC.ok (OL j E.part O.m) ?_⟩
  rintro _ H ⟨G',rfl,r,t,b8⟩;exact⟨_,rfl,b2 (by unfold iR;rw[Zq g,Zx u]) r t ⟨.inr b8,by unfold g_;rw[yD];exact Qj _⟩⟩
 refine al.eH (λI=>?_) (λI=>?_)
 ·refine PC.ok (II j E.part oM) ?_
  rintro _ H ⟨G',rfl,r,t⟩;exact⟨_,rfl,b2 (by unfold iR;rw[Zq g,Zq u,Zx I]) r t (DG c y.2)⟩
 refine al.eH (λM=>?_) (λM=>?_)
 ·refine⟨_,ae A rfl,_,ae A rfl,_,ae L rfl,PC.ok (Lt j O.m) ?_⟩
  rintro _ H ⟨d,f⟩;exact a8 (by unfold iR;rw[Zq g,Zq u,Zq I,Zx M]) d f
 refine al.eH (λh4=>?_) (λh4=>?_)
 ·refine⟨_,ae A rfl,_,ae A rfl,PC.ok (Ud j) ?_⟩
  rintro _ H ⟨d,f⟩;exact a8 (by unfold iR;rw[Zq g,Zq u,Zq I,Zq M,Zx h4]) d f
 refine al.eH (λh5=>?_) (λh5=>?_)
 ·refine⟨_,ae A rfl,_,ae L rfl,PC.ok (OM j) ?_⟩
  rintro _ H ⟨d,f⟩;exact a8 (by unfold iR;rw[Zq g,Zq u,Zq I,Zq M,Zq h4,Zx h5]) d f
 ·refine⟨_,ae L rfl,PC.ok (RC j O.m) ?_⟩
  rintro _ H ⟨G',rfl,r,t⟩;have a:iR c n y.2 s=(bP 0,{y.2 with D:=y.2.D.GI s.m}):=by unfold iR;rw[Zq g,Zq u,Zq I,Zq M,Zq h4,Zq h5]
  obtain⟨F',-,m,o,q⟩:=jo.rep (x:=bP 0) (v:=.agg (fS (bP 0) none 0 0 none 0 0 none 0 0).toArray) hp a6 hX a1 a7 E U (gN.plain rfl rfl rfl) rfl rfl rfl r t J (a0.IE ⟨.inl (by dsimp only;omega),by dsimp only;omega⟩);rw[a];exact⟨rfl,GF m o (Z.trans q) S (q.keep.get Y C) rfl oM λa=>(q.new _ a).elim C λh=>oM⟩
def RD(q:cA w0 w p F c X)(r:fT k X)(hk:k<=999):
  ba 32 #[LL p,lb s] w (Ok (jo w0 w p F c (k+1) (bP 0,IJ X))):=by
 have a6:=q.aF;have b7:=q.env.gr.size;refine oI (PA.mk λw1 k1 s1 g1=>PA.mk λw2 k2 s2 g2=>?_);have t:=k1.then k2;have z2:=t.size;obtain⟨h,cls,rs,j,C,u,c6,E,H⟩:=q.af t;obtain⟨a4,a7,a8⟩:=E.aC;have I:∀P,w.heap.size<=P->¬F P:=λP f d=>by have:=a6 _ d;omega
 have c8:=r.Lm;have c9:=r.now;have b8:GT .i64 (X.now+1)=X.now+1:=wrap_i64 (by unfold aM;omega);have d0:=j.self;refine⟨p,0,rfl,_,ae j.cell rfl,p,0,rfl,PS.mk j.cell sM λw3 k3 s3 J=>?_⟩;rw[b8]at J;obtain⟨l,K⟩:=cX.Y_ (now':=X.now+1) j k3 (by rw[J];rfl);have c7:=l.nu;have hn:=cX.n l C;refine⟨p,0,rfl,_,_,_,ae l.cell rfl,λL a0 w'=>∃(n:Nat) (F1:RK) (m:Nat->Nat) (a:List (Nat×bg)) (g:List bW),a0=n/\n<=h.n/\L=h.n-n/\cX w' F1 m p h (X.now+1) c a g/\h.ps=a.map (·.1)/\a.length=rs.length/\
  (List.range n).foldl fM ⟨X.aC,X.dt,X.now+1⟩=⟨a.map (·.2),g,X.now+1⟩/\cy F w3 F1 w'/\fT (k+1) ⟨a.map (·.2),g,X.now+1⟩,
  ⟨_,0,F,cls,rs,X.dt,rfl,Qj _,rfl,l,C,rfl,by rw[u];rfl,cy.refl _ _,?_⟩,?_⟩
 ·rw[<-u];exact⟨λR hR=>(r.aC R hR).mono,by show 0<=X.now+1;omega,by show X.now+1<=_;omega⟩
 rintro L _ _ w4 ⟨n,F1,m,a,g,rfl,hj,rfl,v,x,b9,M,N,z⟩;have z3:=K.keep.size;have i:=K.trans N;have c1:∀P,w.heap.size<=P->P<w2.heap.size->¬F1 P:=λP f d1 d=>(i.new P d).elim (I P f) λh=>by omega
 refine al.dec (λd2=>?_) (λd3=>?_)
 ·have b:a[n]? =some a[n]:=Qq oM
  generalize a[n]=y at b;obtain⟨P,a1,c2,d4,a5,d6⟩:=cX.ptr v x b oM;refine⟨P,a1,c2,oM,oM,_,by rw[Qx];exact a5,λO d5=>?_⟩;have A:ai w4 O:=d5.keep;have e:=cX.af v A;have hr:=cX.rep e b;have d7:Env w0 O F1:=(H.iE i).af A;have np:=xp e b e.self;have c3:=e.self;have b1:y.2∈a.map (·.2):=Xk.2 ⟨y,QZ b,rfl⟩;have B:=z.aC _ b1;refine⟨λP=>F1 P/\m P≠0,p,0,rfl,λd=>d.2 c3.2,_,ae e.cell rfl,p,0,rfl,_,ae e.cell rfl,PC.ok (RE hr (by have:=B.asked;omega)) ?_⟩;rintro _ w6 ⟨G',o,Q,S⟩;have T:=B.tick n (X.now+1);have b4:(pK n y.2 (X.now+1)).1.length<=1001:=by unfold pK;dsimp only;rw[Q8];have:=NA y.2.gG (X.now+1);have:=B.asked;omega
  have U:(List.range (n+1)).foldl fM ⟨X.aC,X.dt,X.now+1⟩=(⟨a.map (·.2),g,X.now+1⟩:dE).put n (pK n y.2 (X.now+1)).2 (pK n y.2 (X.now+1)).1:=by
   rw[List.range_succ,List.foldl_append,M];show fM _ n=_;unfold fM;dsimp only;rw[Q9,b];rfl
  generalize pK n y.2 (X.now+1)=V at o Q T b4 U;obtain⟨W,Y,Z,a2,Do,rfl,o⟩:=o;refine⟨W,Y,Z,rfl,S.keep.mono λP _ f=>⟨f.1,oM⟩,PC.ok (Bn e b Q S ⟨W,Y,Z,a2,Do,rfl,o⟩ oM) ?_⟩;rintro _ w7 ⟨a3,F7,b5,rfl,c4,b6,c5⟩;refine⟨a3,rfl,c5.mono λP _ f=>⟨f.1,oM⟩,_,oM,n+1,F7,b5,_,_,aq oM,oM,rfl,c4,by rw[x];exact(mT (f:=(·.1)) (b:=(y.1,V.2)) b rfl).symm,by rw[List.length_set];exact b9,?_,N.trans (cy.after A b6),?_⟩
  ·rw[U,List.map_set];rfl
  ·have:=z.stay (j:=n) (ms:=V.1) T
   unfold dE.put at this;dsimp only at this;rw[Qx]at this;rw[List.map_set];exact this
 ·have d:IJ X=⟨a.map (·.2),g,X.now+1⟩:=by
   unfold IJ;rw[<-M,u,Q8,show rs.length=n by omega]
  rw[d];exact GF ⟨h,m,a,v,x,rfl,oM,E,H.iE i⟩ z (cy.after t i) b7 (i.keep.get g2 (I _ oM)) rfl oM (c1 _ oM oM)
def NB(n:cA w0 w p F c X):ba 10 #[LL p,WP e] w (Ok λv w'=>(fL X.aC e=none/\v= .slice none 0 0/\w=w')\/∃R,fL X.aC e=some R/\qI aP 3 w R.S.vec v w'):=by
 refine p_ (PC.ok (sq n) ?_);rintro _ _ ⟨rfl,rfl⟩;refine⟨_,rfl,?_⟩
 cases P:fL X.aC e with
 |none=>exact al.tt rfl (Ok.mk (.inl ⟨rfl,rfl,rfl⟩))
 |some R=>
  obtain⟨m,rfl,-⟩:=eJ P;obtain⟨h,cls,rs,y,a,o,q,r,s,t,b,rfl,⟨d,f,g,u,i,x⟩,z⟩:=Lq n P;refine al.ff rfl ⟨p,0,rfl,_,_,_,ae a.cell rfl,d,f,g,oM,oM,_,by rw[Qx];exact i,PC.ok (Ue (cX.rep a b)) ?_⟩;rintro _ A ⟨j,e,k,G,rfl,l⟩;exact⟨_,_,_,rfl,Ok.mk (.inr ⟨_,rfl,j,e,k,G,rfl,l⟩)⟩
def oJ(P:cA w0 w p F c X):ba 12 #[LL p] w (Ok λv w'=>v= WP (X.dt.length:Int)/\w=w'):=by
 obtain⟨h,cls,rs,n,-⟩:=P;refine mW ⟨p,0,rfl,_,ae n.cell rfl,PC.ok (Lu n.Xi) ?_⟩;rintro _ _ ⟨rfl,rfl⟩;exact⟨_,rfl,Ok.mk ⟨rfl,rfl⟩⟩
def AB(n:cA w0 w p F c X):ba 11 #[LL p] w (Ok λv w'=>v= WP X.now/\w=w'):=by
 obtain⟨h,cls,rs,P,-⟩:=n;exact qb ⟨p,0,rfl,_,ae P.cell rfl,Ok.mk ⟨rfl,rfl⟩⟩
end
def mz:mP PP 84 3 54 .nilFunc:=⟨kR,kR⟩
abbrev Lx(n:Int):Nat:=if n=3 then 29 else if n=5 then 30 else if n=4 then 31 else 32
abbrev zM(n:Int):Nat:=if n=2 then 33 else 34
abbrev bound(n P:Nat):Value:=.func (.func n) #[LL P] #[]
abbrev XE(n:Nat):List (Int×Value):=[(3,bound (Lx 3) n),(5,bound (Lx 5) n),(4,bound (Lx 4) n),(6,bound (Lx 6) n)]
abbrev VA(n:Nat):List (Int×Value):=[(2,bound (zM 2) n),(1,bound (zM 1) n),(7,bound (zM 7) n),(8,bound (zM 8) n),(9,bound (zM 9) n),(10,bound (zM 10) n),(11,bound (zM 11) n),(12,bound (zM 12) n)]
def RF(a:Nat)(n:Int):an (XE a) n=if n=3\/n=5\/n=4\/n=6 then some (bound (Lx n) a)else none:=by
 by_cases P:n=3\/n=5\/n=4\/n=6
 ·rw[Zx P];rcases P with rfl|rfl|rfl|rfl<;>rfl
 ·rw[Zq P];exact jG.2 (by simp;omega)
def ON(P:Nat)(n:Int):an (VA P) n=if n=2\/n=1\/7<=n/\n<=12 then some (bound (zM n) P)else none:=by
 by_cases a:n=2\/n=1\/7<=n/\n<=12
 ·rw[Zx a]
  have:n=2\/n=1\/n=7\/n=8\/n=9\/n=10\/n=11\/n=12:=oM
  rcases this with rfl|rfl|rfl|rfl|rfl|rfl|rfl|rfl<;>rfl
 ·rw[Zq a];exact jG.2 (by simp;omega)
def en1(n:Int):enters PP (Lx n)=true:=by unfold Lx;split;rfl;split;rfl;split<;>rfl
def en2(n:Int):enters PP (zM n)=true:=by unfold zM;split<;>rfl
section
variable {w w' w0 w1 w2 wb:World} {p i k g:Nat} {F F1 F' G G' T D:RK} {c:bN} {X:dE} {s:fR} {R:bg}
def RG(r:cA w0 w p F c X)(g:fT k X)(hk:k<=999)(i:s.Ok):
  ba 13 #[LL p,lb s] w (Ok (jo w0 w p F c (k+1) (cg c X s))):=by
 have b2:=r.aF;have b3:=r.env.gr.size;refine qR (PA.mk λw1 k1 s1 g1=>PA.mk λw2 t s2 g2=>PA.mk λw3 k3 s3 C=>?_);have m:∀{w:World} b,b=w2.heap.size->False\/w2.heap.size<=b:=λb n=>.inr (Nat.le_of_eq n.symm);refine dB (k:=(3:Int)) mz lC (bV.new C) λw4 E H s4=>dB (k:=(5:Int)) mz lC E λw5 I J s5=>dB (k:=(4:Int)) mz lC I λw6 K L s6=>dB (k:=(6:Int)) mz lC K λu M N s7=>PA.mk λw8 k8 s8 O=>?_;have b4:ai w2 u:=(((k3.new H λb d=>.inr oM).new J λb d=>.inr oM).new L λb d=>.inr oM).new N λb d=>.inr oM;refine dB (k:=(2:Int)) mz lC (bV.new O) λw9 Q S s9=>dB (k:=(1:Int)) mz lC Q λb8 T U b9=>dB (k:=(7:Int)) mz lC T λc0 V W c1=>dB (k:=(8:Int)) mz lC V λc2 Y Z c3=>dB (k:=(9:Int)) mz lC Y λc4 a1 a2 c5=>dB (k:=(10:Int)) mz lC a1 λc6 a3 a4 c7=>dB (k:=(11:Int)) mz lC a3 λc8 a5 a6 c9=>dB (k:=(12:Int)) mz lC a5 λo a7 a8 d0=>?_;have a0:ai u o:=(((((((k8.new S λb d=>.inr oM).new U λb d=>.inr oM).new W λb d=>.inr oM).new Z λb d=>.inr oM).new a2 λb d=>.inr oM).new a4 λb d=>.inr oM).new a6 λb d=>.inr oM).new a8 λb d=>.inr oM;have mA:bV o w2.heap.size (Value.int .i64) (XE p):=M.af a0;have mO:bV o u.heap.size (Value.int .i64) (VA p):=a7;have v:=b4.then a0;have a9:=(k1.then t).then v;have j:=v.get (t.get g1 id) id;have b5:=v.get g2 id;have f:=r.af a9;have z2:=t.size;have b6:¬F w1.heap.size:=λn=>by have:=b2 _ n;omega
 have P:∀{b0:iG×dE} {e:Value} {w':World},jo w0 o p F c (k+1) b0 e w'->sK (dz PP 53) λb1=>e=b1/\nw PP 53 (LL w1.heap.size) b1 w' λw2=>jq PP 53 (LL w1.heap.size) w2 λb7=>Ok (jo w0 w p F c (k+1) b0) (.returned b7) w2:=λa=>qQ a (cy.of a9) b3 b5 rfl oM b6
 clear E I K M Q T V Y a1 a3 a5 a7 H J L N S U W Z a2 a4 a6 a8 C O
 refine⟨_,ae j rfl,jE mz lC mA ?_⟩;rw[RF]
 by_cases x:s.kind=3\/s.kind=5\/s.kind=4\/s.kind=6
 ·rw[Zx x]
  refine⟨_,_,rfl,al.tt rfl (au (Bm s) j ⟨_,_,_,rfl,en1 _,?_⟩)⟩;rcases x with h|h|h|h
  ·rw[h]
   have n:cg c X s=fm c ⟨X.aC,fw X.dt s.n,X.now⟩ (dP X.dt s.n):=by unfold cg;rw[Zx h]
   rw[n];exact PC.ok (IG f g oM i) λe w' a=>P a
  ·rw[h]
   have n:cg c X s=fm c X (dP X.dt s.n):=by unfold cg;rw[Zq oM,Zx h]
   rw[n];exact PC.ok (Lp f g oM i) λe w' a=>P a
  ·rw[h]
   have n:cg c X s=(bP (if(dP X.dt s.n).isSome then 0 else 14),⟨X.aC,fw X.dt s.n,X.now⟩):=by unfold cg;rw[Zq oM,Zq oM,Zx h]
   rw[n];exact PC.ok (Rz f g.mono i) λe w' a=>P a
  ·rw[h]
   have n:cg c X s=(bP 0,IJ X):=by unfold cg;rw[Zq oM,Zq oM,Zq oM,Zx h]
   rw[n];exact PC.ok (RD f g hk) λe w' a=>P a
 rw[Zq x];refine⟨_,_,rfl,al.ff rfl ⟨_,ae j rfl,jE mz lC mO ?_⟩⟩;rw[ON]
 by_cases hO:s.kind=2\/s.kind=1\/7<=s.kind/\s.kind<=12
 ·rw[Zx hO]
  refine⟨_,_,rfl,al.ff rfl ⟨_,ae j rfl,PC.ok (sq f) ?_⟩⟩;rintro _ _ ⟨rfl,rfl⟩;refine⟨_,rfl,?_⟩;have e0:¬s.kind=3/\¬s.kind=5/\¬s.kind=4/\¬s.kind=6/\¬(s.kind<1\/12<s.kind):=oM
  obtain⟨y,z,m,A,B⟩:=e0
  cases l:fL X.aC s.n with
  |none=>
   have n:cg c X s=(bP 1,X):=by unfold cg;rw[Zq y,Zq z,Zq m,Zq A,Zq B,l]
   rw[n];exact al.tt rfl (PC.ok (iy f g.mono) λe w' a=>P a)
  |some R=>
   refine al.ff rfl (au (Bm s) j ⟨_,_,_,rfl,en2 _,?_⟩)
   by_cases q:s.kind=2
   ·have n:cg c X s=(if(fL X.aC s.m).isNone\/s.m=s.n then(bP 1,X)else(bP 0,X.put s.n (fk c s.n R s.m X.now).2 (fk c s.n R s.m X.now).1)):=by unfold cg;rw[Zq y,Zq z,Zq m,Zq A,Zq B,l];exact Zx q
    rw[n,q];exact PC.ok (RB f g i l) λe w' a=>P a
   ·have n:cg c X s=((iR c s.n R s).1,⟨X.aC.set s.n.toNat (iR c s.n R s).2,X.dt,X.now⟩):=by unfold cg;rw[Zq y,Zq z,Zq m,Zq A,Zq B,l];exact Zq q
    rw[n];have:zM s.kind=34:=Zq q
    rw[this];exact PC.ok (Uc f g oM i l) λe w' a=>P a
 ·rw[Zq hO]
  have n:cg c X s=(bP 2,X):=by unfold cg;rw[Zq oM,Zq oM,Zq oM,Zq oM,Zx oM]
  rw[n];exact⟨_,_,rfl,al.tt rfl (PC.ok (iy f g.mono) λe w' a=>P a)⟩
end
section
variable {w w' w0 w1 w2 wb:World} {p q i k g:Nat} {F F1 F' G G' T D:RK} {cls:Nat->Nat} {h:Lg} {c:bN} {X:dE} {s:fR} {R:bg} {now:Int} {rs:List (Nat×bg)} {dt:List bW}
def cX.more(i:cX w F cls p h now c rs dt)(j:ai w w')(e:bY w' q G' c rs.length R)(l:∀d,G' d->w.heap.size<=d):
  ∃F' a,cX w' F' a p h now c (rs++[(q,R)]) dt/\cy F w F' w':=by
 obtain⟨m,b,o,r,-⟩:=bb.iE i fD (k:=rs.length+2) (G':=G') (C2:=jw (GD p h now) (λw G=>et w h.q G dt) c (rs++[(q,R)])) ⟨ai.keep j,λd s=>.inr (l d s)⟩ e.aF (λf n=>by
  rw[X8 (Q4 _),Nat.sub_self]at n
  injection n with n;subst n;exact e) λt G g P=>by
  match t,g,P with
  |0,_,P=>exact P
  |1,_,P=>exact P
  |k+2,g,P=>
   intro f n;refine P f ?_;rcases Nat.lt_trichotomy k rs.length with h|h|h
   ·rwa [XW h]at n
   ·omega
   ·rw[Q7 (by simp;omega)]at n;cases n
 exact⟨m,b,o,r⟩
def RH(w0 w:World)(c:bN)(n:Value)(w':World):Prop:=ai w w'/\
 (((Br c).1≠0/\n= .tuple #[.pointer none,WP (Br c).1])\/
  ((Br c).1=0/\∃p F,n= .tuple #[LL p,WP 0]/\cA w0 w' p F c (Br c).2/\(∀P,F P->w.heap.size<=P)/\fT 0 (Br c).2))
def NC(V:ft w0)(W:Laid w0)(A:ai w0 w){B C:am}{tn X E Y:Nat}(hd:bu w D c.decl B tn C E)(hD:∀n,D n->n<w.heap.size)(hs:aM c.bj)(a9:aM c.every)(b0:aM c.start):
  ba 9 #[xq c B tn X C E Y] w (Ok (RH w0 w c)):=by
 refine DH (PA.mk λw1 Z s1 g1=>PC.ok Ly ?_);rintro _ w2 ⟨q,Fq,rfl,H,b1,u⟩;have z2:=u.size;refine⟨_,rfl,PA.mk λw3 k s3 g3=>?_⟩;have c4:=(Z.then u).then k;have z3:=k.size;have z0:=A.size;have b2:=k.get (u.get g1 id) id;obtain⟨g,hB⟩:∃g:Nat,(if(if(64:Int)<c.aC then 64 else c.aC)>1 then(if(64:Int)<c.aC then 64 else c.aC)else 1)=(g:Int):=⟨(if(if(64:Int)<c.aC then 64 else c.aC)>1 then(if(64:Int)<c.aC then 64 else c.aC)else 1).toNat,by repeat' split<;>omega⟩
 have c5:(g:Int)=max 1 (min c.aC 64):=by rw[<-hB];repeat' split<;>omega
 obtain⟨l,I⟩:=bb.join (w:=w3) (C:=jw (GD w2.heap.size ⟨q,none,0,0,[]⟩ 0) (λw G=>et w q G []) c []) (G:=λa n=>match a with|0=>n=w2.heap.size|1=>Fq n|_=>False)
  (λa=>by
   match a with
   |0=>exact⟨rfl,g3,(aU.nil w3).mono (λn P=>P.elim) (λn P=>(by cases P)),λn P=>(by cases P)⟩
   |1=>exact H.af k
   |a+2=>exact λc6 J=>by simp at J)
  (λi a n b f=>by
   have hq:=H.aF n
   match i,a,b,f with
   |0,0,_,_=>rfl
   |1,1,_,_=>rfl
   |0,1,b,f=>have b:n=w2.heap.size:=b;have:=hq f;omega
   |1,0,b,f=>have f:n=w2.heap.size:=f;have:=hq b;omega)
  (λa n P=>by
   match a,P with
   |0,P=>have P:n=w2.heap.size:=P;omega
   |1,P=>have:=H.aF n P;omega)
 refine⟨_,ae b2 rfl,λa0 b3 w'=>∃(a:Nat) (h:Lg) (F:RK) (cls:Nat->Nat) (rs:List (Nat×bg)),b3=a/\a<=g/\a0=g-a/\(a=0\/(cB c 0).1=0/\(cB c 0).2.S.l.length<=16777216)/\cX w' F cls w2.heap.size h 0 c rs []/\h.ps=rs.map (·.1)/\rs.length=a/\rs.map (·.2)=List.replicate a (cB c 0).2/\(∀n,F n->w1.heap.size<=n)/\ai w1 w',
  ⟨_,0,⟨q,none,0,0,[]⟩,_,l,[],rfl,Qj _,rfl,.inl rfl,I,rfl,rfl,rfl,λn ⟨a,P⟩=>?_,u.then k⟩,?_⟩
 ·match a,P with
  |0,P=>have P:n=w2.heap.size:=P;omega
  |1,P=>exact b1 n P
 rintro a0 _ _ w4 ⟨a,h,F,cls,rs,rfl,f,rfl,b4,K,m,a1,a2,v,x⟩;have j:=Z.then x;have b5:=x.get g1 id;rw[hB];refine al.dec (λb6=>?_) (λc7=>?_)
 ·have b6:a<g:=oM
  obtain⟨L,e2⟩:=OO (c:=c) (i:=(a:Int)) oM oM;refine au (IK c B tn X C E Y) b5 (PC.ok (Uf (self:=(a:Int)) V W (A.then j) (hd.af j) (λn P=>by have:=hD n P;have:=j.size;omega) hs a9 b0) ?_);rintro v5 M ⟨N,⟨a3,rfl⟩|⟨o,y,G',rfl,hA,hG,a4⟩⟩
  ·refine⟨_,_,rfl,al.eK (λ_=>Ok.mk ⟨j.then N,.inl ⟨?_,?_⟩⟩) (λh=>Zz h a3)⟩
   ·show(cB c 0).1≠0
    rw[<-L];exact a3
   ·show _=Value.tuple #[.pointer none,WP (cB c 0).1]
    rw[<-L]
  refine⟨_,_,rfl,al.eK (λh=>Zz rfl h) (λ_=>?_)⟩;rw[L]at o;rw[e2]at hA a4;have z4:=x.size;obtain⟨F2,a5,a6,b7⟩:=cX.more (R:=(cB c 0).2) K N (by rw[a1];exact hA) hG;have b8:GD w2.heap.size h 0 M (λn=>F2 n/\a5 n=0):=a6.at' 0;obtain⟨c1,O,c3,z⟩:=b8;have hn:=c3.len dC;rw[m,Q8]at hn;refine⟨_,0,rfl,_,_,_,ae O rfl,KS (x:=y) (D:=λ_=>False) c3 YZ ⟨rfl,trivial⟩ (λn P=>P.elim) (by rw[m,Q8];unfold aR;omega) (by rw[m,Q8];unfold maxLen;omega) λp d w7 F7 Q S c8 b9=>⟨_,_,_,rfl,_,0,rfl,PS.mk (S.get O λe=>(z _ e).2 rfl) sM λw8 k8 s8 g8=>?_⟩⟩;have z5:=N.size;have z7:=S.size;have c9:=aA O;have T:∀n,aG p=some n->(aG h.a=some n\/M.heap.size<=n)/\n<w7.heap.size:=λn P=>⟨b9 n P,Q.aF n (Q.self n P)⟩
  have a7:∀n,aG p=some n->n≠w2.heap.size:=λn P e=>by rcases(T n P).1 with h|h;exact(z n h).2 e;omega
  have kk:aj (λn=>F2 n/\a5 n=0) M w8:=(S.mono λn _ P=>(z n P).1).then (k8.mono λn _ P=>by have P:n=w2.heap.size:=P;rw[P];exact c1);obtain⟨F8,r,U,s,-⟩:=bb.iE a6 fD (k:=0) (G':=λn=>n=w2.heap.size\/aG p=some n) (C2:=jw (GD w2.heap.size ⟨h.q,p,h.n+1,d,h.ps++[y]⟩ 0) (λw G=>et w h.q G []) c (rs++[(y,(cB c 0).2)]))
   ⟨kk,λn P=>P.elim (λe=>.inl (e▸c1)) λP=>(T n P).1.imp (λh=>(z n h).1) id⟩ (λn P=>P.elim (λe=>oM) λP=>by have:=(T n P).2;omega)
   ⟨.inl rfl,g8,Q.alone.keep k8 λn P e=>a7 n P e,λn P=>⟨.inr P,a7 n P⟩⟩ λi G b t=>by
    match i,b,t with
    |1,_,t=>exact t
    |i+2,_,t=>exact t
  have a8:=b7.trans s;refine⟨_,oM,a+1,⟨h.q,p,h.n+1,d,h.ps++[y]⟩,F8,r,_,aq oM,oM,rfl,.inr ⟨o,a4⟩,U,by rw[m,Q3];rfl,by rw[QX,a1];rfl,by rw[Q3,a2,List.replicate_succ'];rfl,λn P=>(a8.new n P).elim (v n) λh=>oM,x.new a8.keep λn P=>.inr (v n P)⟩
 ·have c0:a≠0:=oM
  obtain⟨o,d0⟩:=b4.resolve_left c0;obtain⟨r1,r2,-,-⟩:=IL o;have c2:a=c.aC.toNat:=oM
  have J:rs[0]? =some rs[0]:=Qq oM;refine Ok.mk ⟨j,.inr ⟨o,_,F,rfl,⟨h,cls,rs,K,m,?_,oM,(cX.rep K J).ok,⟨V,W,A.then j,λn P=>by have:=v n P;omega⟩⟩,λn P=>by have:=v n P;omega,⟨λR hR=>?_,Int.le_refl 0,Int.le_refl 0⟩⟩⟩
  ·rw[a2,c2];rfl
  ·have:=(List.mem_replicate.1 hR).2
   subst this;exact⟨oM,by rw[Lz];exact Qj _⟩
end
def BT:gE:=⟨[],[],[],[],[]⟩
def BU(y:PC_ 24 #[.ii 2] b (kX_ 27 λz A=>PC_ 9 #[z] A (λB j=>∃P k,B= .tuple #[.pointer P,.ii k]/\al (k !=0) (rt t ((.bool false)) j) (PR_ (eq_ .eql 33 (.tmp 18) (.const (.pointer none)) (.pointer P) (.pointer none)) j (kB λC l=>al C (rt t ((.bool false)) l) (PC_ 25 #[.ii 0,.ii 3] l (λD E=>∃m o p q r s u,D= .agg #[.ii m,.ii o,.ii p,.ii q,.ii r,.ii s,.ii u]/\PC_ 13 #[.pointer P,.agg #[.ii 1,.ii 0,.ii 0,.ii m,.ii o,.ii p,.ii q,.ii r,.ii s,.ii u]] E (kX_ 53 λF a=>PA a (.cells #[.ii 0,.ii 0,.ii 0,.ii 0,.slice none 0 0,.slice none 0 0,.slice none 0 0,.bool false] 53) λG=>St 53 (ab_ a 0) F G λH=>PC_ 13 #[.pointer P,.agg #[.ii 2,.ii 1,.ii 0,.ii 0,.ii 0,.ii 0,.ii 0,.ii 0,.ii 0,.ii 0]] H (kX_ 53 λI d=>PA d (.cells #[.ii 0,.ii 0,.ii 0,.ii 0,.slice none 0 0,.slice none 0 0,.slice none 0 0,.bool false] 53) λJ=>St 53 (ab_ d 0) I J λK=>PC_ 13 #[.pointer P,.agg #[.ii 3,.ii 0,.ii 0,.ii 0,.ii 0,.ii 0,.ii 0,.ii 0,.ii 0,.ii 0]] K (kX_ 53 λL e=>PA e (.cells #[.ii 0,.ii 0,.ii 0,.ii 0,.slice none 0 0,.slice none 0 0,.slice none 0 0,.bool false] 53) λM=>St 53 (ab_ e 0) L M λN=>PC_ 13 #[.pointer P,.agg #[.ii 3,.ii 0,.ii 0,.ii 0,.ii 0,.ii 0,.ii 0,.ii 0,.ii 0,.ii 0]] N (kX_ 53 λO f=>PA f (.cells #[.ii 0,.ii 0,.ii 0,.ii 0,.slice none 0 0,.slice none 0 0,.slice none 0 0,.bool false] 53) λQ=>St 53 (ab_ f 0) O Q λR=>PC_ 13 #[.pointer P,.agg #[.ii 10,.ii 1,.ii 0,.ii 0,.ii 0,.ii 0,.ii 0,.ii 0,.ii 0,.ii 0]] R (kX_ 53 λS c=>PA c (.cells #[.ii 0,.ii 0,.ii 0,.ii 0,.slice none 0 0,.slice none 0 0,.slice none 0 0,.bool false] 53) λT=>St 53 (ab_ c 0) S T λU=>PC_ 13 #[.pointer P,.agg #[.ii 3,.ii 9,.ii 0,.ii 0,.ii 0,.ii 0,.ii 0,.ii 0,.ii 0,.ii 0]] U (kX_ 53 λV g=>PA g (.cells #[.ii 0,.ii 0,.ii 0,.ii 0,.slice none 0 0,.slice none 0 0,.slice none 0 0,.bool false] 53) λW=>St 53 (ab_ g 0) V W λX=>PC_ 13 #[.pointer P,.agg #[.ii 2,.ii 1,.ii 1,.ii 0,.ii 0,.ii 0,.ii 0,.ii 0,.ii 0,.ii 0]] X (kX_ 53 λY h=>PA h (.cells #[.ii 0,.ii 0,.ii 0,.ii 0,.slice none 0 0,.slice none 0 0,.slice none 0 0,.bool false] 53) λZ=>St 53 (ab_ h 0) Y Z λa1=>PC_ 13 #[.pointer P,.agg #[.ii 6,.ii 0,.ii 0,.ii 0,.ii 0,.ii 0,.ii 0,.ii 0,.ii 0,.ii 0]] a1 (kX_ 53 λb8 i=>(∃v w,i.cell? (ab_ a (0+1))=some (.ii v)/\i.cell? (ab_ a (0+1+1))=some (.ii w)/\PR_ (eq_ .eql 46 (.tmp 47) (.tmp 48) (.agg #[.ii v,.ii w]) (.agg #[.ii 0,.ii 1])) i (kB λa2 n=>al a2 ((rI n (ab_ a 0) λa3=>al (a3==0) ((rI n (ab_ d 0) λa4=>al (a4==0) ((rI n (ab_ e 0) λa5=>al (a5==0) ((rI n (ab_ f 0) λa6=>al (a6==0) ((rS n (ab_ c (0+3+1)) λb9 a7 c0=>al ((a7:Int)==6) ((rS n (ab_ c (0+3+1)) λa8 a9 c1=>(ix_ a8 0 a9 λb0 b1=>(rI n (ad b0 (b1+Int.toNat 0*2)) λb2=>al (b2==3) ((rI n (ab_ g 0) λb3=>al (b3==14) ((rI n (ab_ h 0) λb4=>al (b4==1) (PC_ 11 #[.pointer P] n (kI_ λb5 x=>al (b5==1) (PC_ 12 #[.pointer P] x (kI_ λb6 b7=>rt t ((.bool (b6==1))) b7) (pE t)) (rt t ((.bool false)) x)) (pE t)) (rt t ((.bool false)) n))) (rt t ((.bool false)) n))) (rt t ((.bool false)) n))))) (rt t ((.bool false)) n))) (rt t ((.bool false)) n))) (rt t ((.bool false)) n))) (rt t ((.bool false)) n))) (rt t ((.bool false)) n))) (rt t ((.bool false)) n)) (pV t))) (pE t)) (pE t)) (pE t)) (pE t)) (pE t)) (pE t)) (pE t)) (pE t)) (pE t))) (pV t))) (pE t)) (pE t)):ba 8 #[] b t:=DC BT Tryz.func8 rfl y
def ml:lE:=⟨0,0,0,0,0,0,0⟩
def xg:Bool:=
 let n:=gJ 2
 let P:=cg n (Br n).2 ⟨1,0,0,⟨0,0,0,1,3,-1,0⟩⟩
 let b:=cg n P.2 ⟨2,1,0,ml⟩
 let c:=cg n b.2 ⟨3,0,0,ml⟩
 let d:=cg n c.2 ⟨3,0,0,ml⟩
 let a:=cg n d.2 ⟨10,1,0,ml⟩
 let e:=cg n a.2 ⟨3,9,0,ml⟩
 let f:=cg n e.2 ⟨2,1,1,ml⟩
 let g:=cg n f.2 ⟨6,0,0,ml⟩
 (Br n).1==0&&(P.1.id.1==(0:Int)&&(P.1.id.2==(1:Int)&&(P.1.code==0&&(b.1.code==0&&(c.1.code==0&&(d.1.code==0&&(a.1.st.cells.length==6&&((a.1.st.cells.getD 0 ⟨0,[]⟩).n==3&&(e.1.code==14&&(f.1.code==1&&(g.2.now==1&&g.2.dt.length==1)))))))))))
def TJ:xg=true:=by decide+kernel
def QG:∃(h:dE) (n a b c P d e f:iG×dE),Br (gJ 2)=(0,h)/\cg (gJ 2) h ⟨1,0,0,⟨0,0,0,1,3,-1,0⟩⟩=n/\cg (gJ 2) n.2 ⟨2,1,0,ml⟩=a/\cg (gJ 2) a.2 ⟨3,0,0,ml⟩=b/\cg (gJ 2) b.2 ⟨3,0,0,ml⟩=c/\cg (gJ 2) c.2 ⟨10,1,0,ml⟩=P/\cg (gJ 2) P.2 ⟨3,9,0,ml⟩=d/\cg (gJ 2) d.2 ⟨2,1,1,ml⟩=e/\cg (gJ 2) e.2 ⟨6,0,0,ml⟩=f/\
  n.1.id.1=0/\n.1.id.2=1/\n.1.code=0/\a.1.code=0/\b.1.code=0/\c.1.code=0/\P.1.st.cells.length=6/\(P.1.st.cells.getD 0 ⟨0,[]⟩).n=3/\d.1.code=14/\e.1.code=1/\f.2.now=1/\f.2.dt.length=1:=by
 have g:=TJ;unfold xg at g;simp only[QK,beq_iff_eq]at g;obtain⟨i,j⟩:=g;exact⟨_,_,_,_,_,_,_,_,_,Prod.ext i rfl,rfl,rfl,rfl,rfl,rfl,rfl,rfl,rfl,j⟩
section
variable {w w' w0 w1 w2 wb:World} {p i k g:Nat} {F F1 F' G G' T D:RK} {c:bN} {X:dE} {s:fR} {x:iG} {v:Value}
def Gj(w:World)(g:Nat)(F:RK)(x:iG):Prop:=∃(P:am) (a b:Nat) (c:am) (d e:Nat) (f:am) (h i:Nat) (G:RK),w.heap[g]? =some (.cells (fS x P a b c d e f h i).toArray 53 (0,0))/\Row gC 32 w G P a x.st.cells/\(∀n,G n->n<w.heap.size/\¬F n)/\¬F g
def Gj.iE(c:Gj w g F x)(P:cy F w F' w'):Gj w' g F' x:=by
 obtain⟨h,i,j,k,l,m,o,p,q,G,e,r,b,f⟩:=c;have s:=P.keep.size;have t:=aA e;exact⟨h,i,j,k,l,m,o,p,q,G,P.keep.get e f,r.keep P.keep λn a=>(b n a).2,λn a=>⟨by have:=(b n a).1;omega,λd=>(P.new n d).elim (b n a).2 λc=>by have:=(b n a).1;omega⟩,λd=>(P.new g d).elim f λc=>oM⟩
def Gj.get(n:Gj w g F x):∃cs:Array Value,w.heap[g]? =some (.cells cs 53 (0,0))/\cs[0]? =some (WP x.code)/\cs[1]? =some (WP x.id.1)/\cs[2]? =some (WP x.id.2):=by
 obtain⟨a,b,c,d,e,f,h,i,j,G,P,k,l,m⟩:=n;exact⟨_,P,rfl,rfl,rfl⟩
def qS(A:cA w0 w p F c X)(E:fT k X)(H:k<=999)(I:s.Ok)(f:∀n b F',w.heap.size<=n.heap.size->cA w0 b p F' c (cg c X s).2->fT (k+1) (cg c X s).2->cy F w F' b->Gj b n.heap.size F' (cg c X s).1->i0 n b):
  PC PP 13 #[LL p,lb s] w (λv n=>sK (dz PP 53) λx=>v=x/\PA n (.cells #[WP 0,WP 0,WP 0,WP 0,.slice none 0 0,.slice none 0 0,.slice none 0 0,.bool false] 53) λw2=>nw PP 53 (LL n.heap.size) x w2 λb=>i0 n b) a6:=by
 have N:=A.env.gr.size;refine PC.ok (RG A E H I) ?_;rintro _ n ⟨F',⟨g,h,i,j,l,m,o,q,r,G,rfl,J,O,Q,t⟩,e,u,B⟩;have C:=e.aF;have K:=B.keep.size;refine cz (Rw _ g h i j l m o q r) ⟨rfl,PA.mk λw2 y R L=>aD (iP _ g h i j l m o q r) L rfl λb z S M=>f n b F' K ?_ u ?_ ?_⟩
 ·exact(e.af y).keep z (λa d P=>by have P:a=n.heap.size:=P;have:=C a d;omega) λa P=>by have P:a=n.heap.size:=P;omega
 ·exact(B.af y).last z λa P=>by have P:a=n.heap.size:=P;omega
 ·exact⟨g,h,i,j,l,m,o,q,r,G,M,(J.af y).keep z λa d P=>by have P:a=n.heap.size:=P;have:=(t a d).2.1;omega,λa d=>⟨by have:=(t a d).2.1;omega,(t a d).2.2⟩,λP=>by have:=C _ P;omega⟩
def lV(n:(decide (-1000000<=e)&&decide (e<=1000000)&&(decide (-1000000<=l)&&decide (l<=1000000))&&(decide (-1000000<=B)&&decide (B<=1000000)))=true):fR.Ok ⟨e,l,B,ml⟩:=by
 simp only[QK,Zk]at n;exact⟨by show aM e;unfold aM;omega,by show aM l;unfold aM;omega,by show aM B;unfold aM;omega,i10 rfl,i10 rfl,i10 rfl,i10 rfl,i10 rfl,i10 rfl⟩
def QH{n arg:Int}:ba 25 #[WP n,WP arg] w (Ok λv w'=>v=xr ⟨0,n,0,1,arg,-1,0⟩/\ai w w'):=
 Je (PA.mk λw1 a f b=>aD (yC ⟨0,n,0,1,arg,-1,0⟩) b rfl λw2 c g d=>au (yC ⟨0,n,0,1,arg,-1,0⟩) d (Ok.mk ⟨rfl,a.new c λe P=>.inr (by have P:e=w.heap.size:=P;omega)⟩))
set_option maxHeartbeats 2000000 in
def IN(Y:ft w0)(Z:Laid w0)(h0:ai w0 w):ba 8 #[] w (Ok λv w'=>v= .bool true/\ai w w'):=by
 obtain⟨X,a0,f,a1,a2,g,a3,s,a4,e0,e1,e2,e3,e4,e5,e6,e7,e8,q1,q2,q3,q4,q5,q6,q7,q8,q9,a6,a7,a8⟩:=QG;refine BU (PC.ok KJ ?_);rintro _ w2 ⟨ta,tn,tc,pa,pn,pc,G2,rfl,a9,b0,r⟩;refine cz (Ye (gJ 2) ta tn tc pa pn pc) ⟨rfl,PC.ok (NC (c:=gJ 2) Y Z (h0.then r) a9 (λf l=>(b0 f l).2) (i10 rfl) (i10 rfl) (i10 rfl)) ?_⟩;rintro v5 w5 t;unfold RH at t;rw[e0]at t;obtain⟨k5,⟨b1,-⟩|⟨-,p,F,rfl,z,hF,A⟩⟩:=t
 ·exact Zz rfl b1
 dsimp only at z A;generalize gJ 2=c2 at*;have b2:=r.then k5;have b3:∀f,F f->w.heap.size<=f:=λf l=>by have:=hF f l;have:=r.size;omega
 refine⟨_,_,rfl,al.eK (λa=>Zz rfl a) (λ_=>gZ Tryz.underlying33 ⟨_,rfl,al.ff rfl (PC.ok QH ?_)⟩)⟩;rintro _ w7 ⟨rfl,B⟩;refine⟨_,_,_,_,_,_,_,rfl,?_⟩;have b4:=b2.then B;refine qS (k:=0) (s:=⟨1,0,0,⟨0,0,0,1,3,-1,0⟩⟩) (z.af B) A oM ⟨i10 rfl,i10 rfl,i10 rfl,i10 rfl,i10 rfl,i10 rfl,i10 rfl,i10 rfl,i10 rfl⟩ λwa w8 Fa za C E c b=>?_;rw[e1]at C E b;refine qS (s:=⟨2,1,0,ml⟩) C E oM (lV rfl) λwb w9 Fb zb H I J d=>?_;rw[e2]at H I d;have b:=b.iE J;have c:=c.trans J;refine qS (s:=⟨3,0,0,ml⟩) H I oM (lV rfl) λwd c8 Fd zd K L u P=>?_;rw[e3]at K L P;have b:=b.iE u;have d:=d.iE u;have c:=c.trans u;refine qS (s:=⟨3,0,0,ml⟩) K L oM (lV rfl) λwf c9 Ff zf M N q n=>?_;rw[e4]at M N n;have b:=b.iE q;have d:=d.iE q;have P:=P.iE q;have c:=c.trans q;refine qS (s:=⟨10,1,0,ml⟩) M N oM (lV rfl) λwg d0 Fg zg O Q m h=>?_;rw[e5]at O Q h;have b:=b.iE m;have d:=d.iE m;have P:=P.iE m;have n:=n.iE m;have c:=c.trans m;refine qS (s:=⟨3,9,0,ml⟩) O Q oM (lV rfl) λwn d1 Fn zn R S k e=>?_;rw[e6]at R S e;have b:=b.iE k;have d:=d.iE k;have P:=P.iE k;have n:=n.iE k;have h:=h.iE k;have c:=c.trans k;refine qS (s:=⟨2,1,1,ml⟩) R S oM (lV rfl) λws d2 Fs zs T U j is=>?_;rw[e7]at T U is;have b:=b.iE j;have d:=d.iE j;have P:=P.iE j;have n:=n.iE j;have h:=h.iE j;have e:=e.iE j;have c:=c.trans j;refine PC.ok (RG (s:=⟨6,0,0,ml⟩) T U oM (lV rfl)) ?_;rintro _ b5 ⟨Ft,⟨sa,sn,sc,ea,en,ec,ra,rn,rc,-,rfl,-⟩,x,b6,i⟩;rw[e8]at x b6;have b:=b.iE i;have d:=d.iE i;have P:=P.iE i;have n:=n.iE i;have h:=h.iE i;have e:=e.iE i;have is:=is.iE i;have c:=c.trans i;refine cz (Rw _ sa sn sc ea en ec ra rn rc) ⟨rfl,?_⟩;obtain⟨za,y,b7,b8,c1⟩:=b.get;obtain⟨zb,yb,c3,-⟩:=d.get;obtain⟨zd,yd,c4,-⟩:=P.get;obtain⟨zf,yf,c5,-⟩:=n.get;obtain⟨zn,yn,c6,-⟩:=e.get;obtain⟨zs,ys,c7,-⟩:=is.get;obtain⟨d3,d4,d5,d6,en2,d7,d8,d9,e9,Gg,V,W,-,-⟩:=h;have f2:=W.len;obtain⟨b9,o9,f4,f5,f6,rfl,f8,-,a5,-⟩:=ny (i:=0) W oM;have o:ai w b5:=b4.new c.keep λf l=>.inr (b3 f l);refine⟨_,_,ae y b8,ae y c1,aK.mk WD ⟨_,rfl,al.tt (by rw[q1,q2];rfl) ⟨_,ae y b7,al.eH (λ_=>⟨_,ae yb c3,al.eH (λ_=>⟨_,ae yd c4,al.eH (λ_=>⟨_,ae yf c5,al.eH (λ_=>⟨_,_,_,ae V rfl,al.eH (λ_=>⟨_,_,_,ae V rfl,b9,o9,rfl,oM,oM,_,a5,al.eH (λ_=>⟨_,ae yn c6,al.eH (λ_=>⟨_,ae ys c7,al.eH (λ_=>?_) (λa=>Zz a6 a)⟩) (λa=>Zz q9 a)⟩) (λa=>Zz q8 a)⟩) (λa=>Zz oM a)⟩) (λa=>Zz q6 a)⟩) (λa=>Zz q5 a)⟩) (λa=>Zz q4 a)⟩) (λa=>Zz q3 a)⟩⟩⟩;refine PC.ok (AB x) ?_;rintro _ _ ⟨rfl,rfl⟩;refine⟨_,rfl,al.eH (λ_=>PC.ok (oJ x) ?_) (λa=>Zz a7 a)⟩;rintro _ _ ⟨rfl,rfl⟩;refine⟨_,rfl,Ok.mk ⟨?_,o⟩⟩;rw[a8];rfl
end
def lu(n:bN)(P:am)(tn a:Nat)(b:am)(c d:Nat)(e:am)(f g:Nat):List Value:=eV n P tn a b c d++[.slice e f g]
abbrev ND(n:bN)(P:am)(tn a:Nat)(b:am)(c d:Nat)(e:am)(f g:Nat):Value:=.agg (lu n P tn a b c d e f g).toArray
def Wm(n:bN)(P:am)(tn a:Nat)(b:am)(c d:Nat)(e:am)(f g:Nat):iM PP 30 (lu n P tn a b c d e f g)=true:=kR
def IM:ks fR:=flat 10 lr fR.Ok (λ_=>rfl) (λP a n=>by simp[lr,iS]at n;rcases n with rfl|rfl|rfl|rfl|rfl|rfl|rfl|rfl|rfl|rfl<;>rfl)
section
variable {w w' w0 w1 w2 wb:World} {p q i k g:Nat} {F F1 F' G G' T D E:RK} {c:bN} {X Y:dE} {s:fR} {x:iG} {v:Value} {ta pa la:am} {tn tc pn pc ln lc:Nat} {l:List fR}
def LA(f:bu w D c.decl ta tn pa pn)(g:Row IM 80 w E la ln l):
  ba 7 #[ND c ta tn tc pa pn pc la ln lc] w (Ok λv w'=>(∃P:Bool,v= .bool P/\(P=false->l.length<=300))/\ai w w'):=by
 have h:=g.len;refine GJ (PA.mk λw1 d i a=>⟨_,_,_,_,_,_,ae a rfl,ae a rfl,PC.ok (LB (f.af d)) ?_⟩);rintro _ w2 ⟨⟨P,rfl⟩,e⟩;have n:=d.then e;have b:=e.get a id;exact⟨_,rfl,al.mk (λ_=>Ok.mk ⟨⟨_,rfl,sM⟩,n⟩) (λ_=>⟨_,_,_,ae b rfl,al.dec (λ_=>Ok.mk ⟨⟨_,rfl,sM⟩,n⟩) (λj=>⟨_,ae b rfl,al.dec (λ_=>⟨_,ae b rfl,Ok.mk ⟨⟨_,rfl,λ_=>oM⟩,n⟩⟩) (λ_=>Ok.mk ⟨⟨_,rfl,λ_=>oM⟩,n⟩)⟩)⟩)⟩
def RI(a:ft w0)(b:Laid w0)(n:ai w0 w):PC PP 8 #[] w (λv w2=>∃P:Bool,v= .bool P/\Ok (λv w'=>v= .bool true/\ai w0 w') (.returned (.bool P)) w2) a6:=by
 refine PC.ok (IN a b n) ?_;rintro _ w' ⟨rfl,k⟩;exact⟨_,rfl,Ok.mk ⟨rfl,n.then k⟩⟩
def Ug(P:w.heap[g]? =some (.cells (lu c ta tn tc pa pn pc la ln lc).toArray 30 (0,0)))(a:Q (xq c ta tn tc pa pn pc)):jq PP 27 (LL g) w Q:=
 Ny (es:=eV c ta tn tc pa pn pc) (IK c ta tn tc pa pn pc) P (λn b=>by rcases n with _|_|_|_|_|_|_|_|_|_|n<;>first|rfl|exact Zz b (by simp[eV])) a
def RJ(c:Row IM 80 w E la ln l){j:Nat}(d:j<ln):∃n P s,la=some ⟨n,P,none⟩/\n<w.heap.size/\E n/\l[j]? =some s/\s.Ok/\∀a:Value->Prop,a (lb s)->jq PP 40 (.pointer (some ⟨n,P+j*10,none⟩)) w a:=by
 obtain⟨n,P,s,p,e,f,g,h,i,rfl,k⟩:=c.IA (i:=j) d;exact⟨n,P,s,e,f,g,h,k,λa b=>cu (es:=lr s) (k:=10) (Bm s) rfl (λm o=>i m o) b⟩
end
def aw.UL(n:N∈I.l):N∈(I.add m).2.l:=by
 rcases I.gg m with⟨-,P⟩|⟨a,-⟩
 ·rw[P];exact n
 ·rw[a];exact(cN m I.l).mem_iff.2 (QJ _ n)
def aw.wv:∀(P:List ah) {S:aw} {n:ah},n∈S.l->n∈(S.eC P).l
 |[],S,n,a=>a
 |e::P,S,n,a=>aw.wv P (S:=(S.add e).2) (aw.UL a)
def aw.Fj:∀(a:List ah) {S:aw} {P:ah},P∈(S.eC a).l->P∈S.l\/P∈a
 |[],S,P,b=>.inl b
 |e::a,S,P,b=>by
  rcases aw.Fj a (S:=(S.add e).2) b with n|n
  ·rcases S.gg e with⟨-,c⟩|⟨c,-⟩
   ·rw[c]at n;exact .inl n
   ·rw[c]at n
    rcases Q2.1 ((cN e S.l).mem_iff.1 n)with d|d
    ·exact .inr (d▸QV ..)
    ·exact .inl d
  ·exact .inr (QJ _ n)
section
variable {D E:ak} {A:oF} {no:Int} {l x:List ah} {k d:Nat} {V:dv} {c:bN} {X:bg} {ref:Bool} {Q:ah->Prop}
def pf(P:D.dead=true)(n:ak->Int×ak):D.op n=(15,D.gone):=by
 unfold ak.op ak.dies;rw[P];rfl
def Jw(n:D.dead=true):Go.Proofs.YtjgjkeponbeekaaGreatDoor.bA V D=(15,V,D.gone):=by
 unfold bA;have:D.create (cH (ax V.next))=(15,D.gone):=pf n _;dsimp only;rw[this,Zx sM]
def uS(n:D.dead=true):aH V D=(15,V,D.gone):=by
 unfold aH;split
 ·exact Jw n
 ·have:D.sync V.last=(15,D.gone):=pf n _
  dsimp only;rw[this,Zx sM]
def yR(n:D.dead=true)(x:List ah):(aE V D x).2.2.files=D.files/\(aE V D x).2.2.dead=true/\(x≠[]->(aE V D x).1≠0):=by
 unfold aE;split
 ·exact⟨rfl,n,λ_=>sM⟩
 split
 ·rename_i a;exact⟨rfl,n,λb=>Zz a b⟩
 dsimp only
 by_cases P:V.size<=V.bytes
 ·rw[Zx P,uS n,Zx sM]
  exact⟨rfl,rfl,λ_=>sM⟩
 ·rw[Zq P,Zq sM]
  have:D.append V.last (az x)=(15,D.gone):=pf n _;rw[this,Zx sM];exact⟨rfl,rfl,λ_=>sM⟩
def Hr(n:D.dead=true){size:Int}:(aQ V D x size).no≠0/\(aQ V D x size).D.files=D.files/\(aQ V D x size).D.dead=true:=by
 unfold aQ;split
 ·rename_i P;exact⟨P,rfl,n⟩
 have:bD V.next (bJ x).1 D=(15,D.gone):=by
  unfold bD;have:D.create (cH (ax V.next))=(15,D.gone):=pf n _;dsimp only;rw[this,Zx sM]
 rw[this,Zx sM];exact⟨sM,rfl,rfl⟩
def PE(b:an D.files y=some ⟨w,a,J⟩)(n:(D.sync y).1≠0):(D.sync y).1=15/\(D.sync y).2=D.gone:=by
 unfold ak.sync at n⊢;rcases rp D (ak.yJ y λD P=>(0,D.fv y (P.cut P.bytes.length)))with e|e
 ·rw[e];exact⟨rfl,rfl⟩
 ·rw[e]at n
  unfold ak.yJ at n;rw[dV,b]at n;exact Zz rfl n
def cF.SA(g:cF D A no l k)(b:EM V A no l)(i:∀n∈x,n.Ok/\n.aN.length<=64){size:Int}:
  ((aQ V D x size).no≠0/\cF (aQ V D x size).D A no l k)\/
  (cF (aQ V D x size).D [] V.next x x.length/\((aQ V D x size).no=0/\EM (aQ V D x size).V [] V.next x/\(aQ V D x size).V.size=size\/(aQ V D x size).no≠0/\(aQ V D x size).D.dead=true)):=by
 have r:bJ x=(az x,0):=by
  unfold bJ;rw[Zq];intro s;obtain⟨n,t,j⟩:=List.any_eq_true.1 s;have:=(i n t).2;unfold eQ at j;simp at j;omega
 unfold aQ;rw[r,Zq sM];rcases g.bD b i with⟨c,m⟩|⟨c,m,h⟩
 ·dsimp only
  rw[Zx c];exact .inl ⟨c,m⟩
 dsimp only;rw[Zq (by simpa using c)];generalize(Go.Proofs.YtjgjkeponbeekaaGreatDoor.bD V.next (az x) D).2=o at h;have u:=g.ne_next b;obtain⟨v,p⟩:=By V.a_ h.tidy;have P:cF (jJ V.a_ o) [] V.next x x.length:=by
  refine h.same v (λd e=>?_) (p _ λd e n=>?_)
  ·obtain rfl:d=V.next:=by simpa[cY]using e
   exact p _ λw q n=>u w (by rw[b.a_]at q;exact q) n.symm
  ·rw[b.a_]at e
   exact(fy (n:=d) (.inr (by have:=g.Ay d e;omega))).1 n.symm
 generalize jJ V.a_ o=a at P
 cases f:a.dead with
 |false=>
  have y:V.next<iz a:=by
   obtain⟨F,z,-⟩:=P.last;have:=P.uh;exact Jy oM (by rw[z];rfl)
  have:=sv a.list;rw[LK P f];exact .inr ⟨P,.inl ⟨rfl,⟨rfl,rfl,y,this.2⟩,rfl⟩⟩
 |true=>
  obtain⟨B,C⟩:=OZ (size:=size) f;refine .inr ⟨P.files C,.inr ⟨by rw[B];simp,?_⟩⟩;have E:told a=[]:=by
   have:a.read b_=([],15):=by unfold ak.read;rw[f];rfl
   unfold told dF;rw[this];rfl
  unfold aS;rw[E];unfold cO gi;rw[Zq sM,Zx (show(dQ a size).a_=[]from rfl),show aH _ _=_ from uS f]
  rfl
def Jz(P:cF D A no l k)(n:Int):cf (du (D.eu n))/\Tidy (du (D.eu n)).files/\(∀a∈cY A++[no],an (du (D.eu n)).files (ay a)=an (D.eu n).files (ay a))/\an (du (D.eu n)).files b_=an (D.eu n).files b_:=by
 have g:=Jn D n;have j:=Mg P.tidy n;have m:∀x∈cY A++[no],aM x:=λx p=>by have:=P.Ay x p;unfold aM;omega
 have q:(cY A++[no]).length<=64:=by have:=P.many;simpa[cY]using this
 have r:dF (D.eu n)=some (cY A++[no]):=by
  unfold dF;rw[g.read (uP P.tidy n P.Xl),Zq sM,show(dU (bS (cY A++[no]))).bytes=bS (cY A++[no])from rfl,oP m q]
 have o:∀c∈GO (D.eu n),(∀a∈cY A++[no],ay a≠c)/\b_≠c:=λc d=>by
  have b:=(List.mem_filter.1 d).2;unfold jH at b;rw[r]at b;refine⟨λa h e=>?_,λe=>?_⟩
  ·have m:=P.Ay a h
   subst e;rw[yj oM,Xv (fy (n:=a) (.inr oM)).2]at b;simp only[Option.getD_some,Zy h]at b;simp at b
  ·subst e
   rw[Xv Lf,RV]at b;simp at b
 have f:∀(i:List ByteArray) {D:ak},Tidy D.files->Tidy (Le D i).files:=by
  intro i
  induction i with
  |nil=>intro D P;exact P
  |cons c i s=>
   intro D P;refine s (D:=(D.delete c).2) ?_;rcases jF D c with e|e
   ·rw[e];exact P
   ·rw[e];exact P.bM _
 refine⟨Bi _ g,f _ j,λa h=>?_,?_⟩
 ·unfold du
  rw[Bj _ g j,Zq λd=>(o _ d).1 a h rfl]
 ·unfold du
  rw[Bj _ g j,Zq λd=>(o _ d).2 rfl]
def Mz{size keep:Int}(n:cF D A no l k):∃P,k<=P/\P<=l.length/\(aS (du (D.eu keep)) size).no=0/\(aS (du (D.eu keep)) size).out=cj A (l.take P)/\EM (aS (du (D.eu keep)) size).V A no (l.take P)/\(aS (du (D.eu keep)) size).V.size=size/\
  cF (aS (du (D.eu keep)) size).D A no (l.take P) P/\cf (aS (du (D.eu keep)) size).D:=by
 obtain⟨g,h,d,i⟩:=Jz n keep;obtain⟨j,m,z,o⟩:=n.last;obtain⟨a,B,C,p⟩:=ES keep (az l) o;have e:an (D.eu keep).files (ay no)=some ⟨(az l).take a,((az l).take a).length,true⟩:=by
  rw[ER n.tidy,m];show(if true then some (tm keep ⟨az l,j,true⟩)else none)=_;rw[p];rfl
 have q:((az l).take a).length=a:=by simp;omega
 rw[q]at e;obtain⟨P,r,s,E,t,u,v,w,F,H,b,c,y⟩:=PF (size:=size) (n:=a) g h n (λx f=>by rw[d x.1 (ZV _ (Xk.2 ⟨x,f,rfl⟩))];exact uP n.tidy keep (n.full x f)) (by rw[i];exact uP n.tidy keep n.Xl) (by rw[d no sM];exact e) oM oM;exact⟨P,r,s,t,u,v,w,c oM,b⟩
structure fx (Q:ah->Prop) (c:bN) (X:bg) (ref:Bool):Prop where
 log:∃V A no l k d,X.log=some V/\cF X.D A no l k/\(X.D.dead=true\/EM V A no l/\V.size=c.bj)/\Yf c.bj A/\X.S=(⟨c.aC.toNat,[]⟩:aw).eC ((cj A l).take d)/\d<=JA A k/\(d<(cj A l).length->X.D.dead=true/\ref=true)/\∀e∈cj A l,Q e
def sw(A:oF)(l:List ah):(cj A l).length=JA A l.length:=by unfold cj JA;simp
def fx.same{Y:bg}(b:fx Q c X ref)(e:Y.S=X.S)(n:Y.D=X.D)(f:Y.log=X.log){r2:Bool}(g:ref=true->r2=true):fx Q c Y r2:=by
 obtain⟨V,A,no,l,k,d,h,i,j,m,o,p,P,q⟩:=b.log;exact⟨V,A,no,l,k,d,by rw[f];exact h,by rw[n];exact i,by rw[n];exact j,m,by rw[e];exact o,p,λa=>⟨by rw[n];exact(P a).1,g (P a).2⟩,q⟩
def fx.GI(n:fx Q c X ref)(P:Int):fx Q c {X with D:=X.D.GI P} ref:=by
 obtain⟨V,A,no,l,k,d,a,b,e,f,g,h,i,j⟩:=n.log;exact⟨V,A,no,l,k,d,a,b.files rfl,e,f,g,h,i,j⟩
def fx.take(q:fx Q c X ref)(E:X.S.Cl)(F:X.S.n=c.aC.toNat)(T:X.D.Ok)(H:∀b∈x,b.Ok/\Q b)(U:x.length<=20000000):
  ((df c X x).1=0/\(df c X x).2.S=X.S.eC x/\∀I,fx Q c (df c X x).2 I)\/
  ((df c X x).1≠0/\(df c X x).2.S=X.S/\fx Q c (df c X x).2 (ref||(df c X x).1==15)):=by
 obtain⟨V,A,no,l,k,d,W,m,Y,r,h,J,s,o⟩:=q.log;have n:df c X x=(if(aE V X.D x).1≠0 then((aE V X.D x).1,{X with log:=some (aE V X.D x).2.1,D:=(aE V X.D x).2.2})else
   if((aE V X.D x).2.2.sync (aE V X.D x).2.1.last).1≠0 then(((aE V X.D x).2.2.sync (aE V X.D x).2.1.last).1,{X with log:=some (aE V X.D x).2.1,D:=((aE V X.D x).2.2.sync (aE V X.D x).2.1.last).2})else
   (0,{X with log:=some (aE V X.D x).2.1,D:=((aE V X.D x).2.2.sync (aE V X.D x).2.1.last).2,S:=eY c X.S x})):=by
  unfold df;rw[W]
 by_cases t:X.D.dead=true
 ·obtain⟨K,u,e3⟩:=yR (V:=V) t x
  generalize aE V X.D x=P at*
  by_cases a:P.1≠0
  ·rw[Zx a]at n
   rw[n];exact .inr ⟨a,rfl,P.2.1,A,no,l,k,d,rfl,m.files K,.inl u,r,h,J,λf=>⟨u,by rw[(s f).2];rfl⟩,o⟩
  ·rw[Zq a]at n
   have Z:P.2.2.sync P.2.1.last=(15,P.2.2.gone):=pf u _;rw[Z,Zx sM]at n;rw[n];exact .inr ⟨sM,rfl,P.2.1,A,no,l,k,d,rfl,m.files K,.inl rfl,r,h,J,λf=>⟨rfl,by rw[(s f).2];rfl⟩,o⟩
 obtain⟨hv,L⟩:=Y.resolve_left t;have a0:(cj A l).length<=d:=Nat.le_of_not_lt λa1=>t (s a1).1;rw[Qz a0]at h;have M:(cj A l).length=JA A k:=by
  have:=sw A l;have:=m.kl;unfold JA at*;omega
 obtain⟨i,v,g,N,w,y,O,e,z,p,f7⟩:=yS (x:=x) m hv (λb B=>(H b B).1) U T (by rw[L];exact r);rw[L]at z p;generalize aE V X.D x=P at*
 by_cases a:P.1≠0
 ·rw[Zx a]at n
  rw[Zq a]at e;rw[n];exact .inr ⟨a,rfl,P.2.1,i,v,g,N,(cj i g).length,rfl,w,.inr ⟨y,z⟩,p,by rw[List.take_length,e];exact h,by rw[e,M];exact O,λf=>Zz f (Nat.lt_irrefl _),by rw[e];exact o⟩
 rw[Zq a]at n;have a:P.1=0:=Classical.not_not.1 a;rw[Zx a]at e;rw[cF.uT y]at n;obtain⟨a2,s1,s2,s3⟩:=w.last;have R:∀b∈cj i g,Q b:=by rw[e];exact λb B=>(Q6.1 B).elim (o b) λq=>(H b q).2
 rcases Fk w with⟨j,C⟩|⟨j,C⟩
 ·rw[Zq (by rw[j];simp)]at n
  rw[n];refine .inl ⟨rfl,wx E F x,λI=>⟨P.2.1,i,v,g,g.length,(cj i g).length,rfl,C,.inr ⟨y,z⟩,p,?_,by rw[sw];exact Q4 _,λf=>Zz f (Nat.lt_irrefl _),R⟩⟩;rw[List.take_length,e,aw.Bl,<-h];exact wx E F x
 ·obtain⟨z1,S⟩:=PE s1 j
  rw[Zx j]at n;rw[n];refine .inr ⟨j,rfl,P.2.1,i,v,g,N,(cj A l).length,rfl,C,.inl (by rw[S];rfl),p,?_,by rw[M];exact O,λ_=>⟨by rw[S];rfl,by rw[z1];simp⟩,R⟩;rw[e,List.take_left];exact h
def fx.eu(P:fx Q c X ref)(keep:Int):(g_ c X keep).1=0/\(∀a∈X.S.l,a∈(g_ c X keep).2.S.l)/\(ref=false->(g_ c X keep).2.S=X.S)/\fx Q c (g_ c X keep).2 false:=by
 obtain⟨V,A,no,l,k,d,C,g,E,h,e,i,j,m⟩:=P.log;obtain⟨n,F,o,p,q,r,s,t,H⟩:=Mz (size:=c.bj) (keep:=keep) g;have u:g_ c X keep=(0,{X with D:=(aS (du (X.D.eu keep)) c.bj).D,waits:=[],gG:=⟨X.gG.di,[],[]⟩,log:=some (aS (du (X.D.eu keep)) c.bj).V,S:=(⟨c.aC.toNat,[]⟩:aw).eC (cj A (l.take n))}):=by
  unfold g_ fC;dsimp only;rw[Zq (by rw[p];simp),q]
 have v:(cj A l).take d=(cj A (l.take n)).take d:=by
  have f:d<=((A.map (·.2)).flatten).length+n:=by unfold JA at i;omega
  unfold cj;rw[List.take_append,List.take_append,List.take_take,X2 oM]
 have w:(⟨c.aC.toNat,[]⟩:aw).eC (cj A (l.take n))=X.S.eC ((cj A (l.take n)).drop d):=by
  rw[e,v,<-aw.Bl,ZX]
 rw[u];refine⟨rfl,λa b=>?_,λx=>?_,_,A,no,l.take n,n,(cj A (l.take n)).length,rfl,t,.inr ⟨r,s⟩,h,by rw[List.take_length],?_,λf=>Zz f (Nat.lt_irrefl _),λa b=>m a ?_⟩
 ·show a∈((⟨c.aC.toNat,[]⟩:aw).eC (cj A (l.take n))).l
  rw[w];exact aw.wv _ b
 ·show(⟨c.aC.toNat,[]⟩:aw).eC (cj A (l.take n))=X.S
  have y:(cj A l).length<=d:=Nat.le_of_not_lt λz=>by have:=(j z).2;rw[x]at this;cases this
  have:=sw A l;have B:n=l.length:=by unfold JA at*;omega
  rw[B,List.take_length,e,Qz y]
 ·rw[sw];unfold JA;rw[Qy,X2 o];exact Q4 _
 ·unfold cj at b⊢
  exact(Q6.1 b).elim (λP=>ZV _ P) λP=>ZW _ (List.mem_of_mem_take P)
def fx.UM(y:fx Q c X ref)(f:X.S.Cl)(z:X.S.n=c.aC.toNat):(de c X).2.S=X.S/\fx Q c (de c X).2 ref:=by
 obtain⟨V,A,no,l,k,d,g,q,B,r,i,s,t,j⟩:=y.log;have P:de c X=(if(aQ V X.D X.S.l c.bj).no≠0 then((aQ V X.D X.S.l c.bj).no,{X with D:=(aQ V X.D X.S.l c.bj).D})else(0,{X with D:=(aQ V X.D X.S.l c.bj).D,log:=some (aQ V X.D X.S.l c.bj).V})):=by
  unfold de;rw[g]
 refine⟨by rw[P];split<;>rfl,?_⟩
 by_cases m:X.D.dead=true
 ·obtain⟨C,E,u⟩:=Hr (V:=V) (x:=X.S.l) (size:=c.bj) m
  rw[Zx C]at P;rw[P];exact⟨V,A,no,l,k,d,g,q.files E,.inl u,r,i,s,λa=>⟨u,(t a).2⟩,j⟩
 obtain⟨v,F⟩:=B.resolve_left m;have L:(cj A l).length<=d:=Nat.le_of_not_lt λH=>m (t H).1;have I:∀n∈X.S.l,n.Ok/\n.aN.length<=64:=λn b=>⟨f.ok.ok n b,by
  obtain⟨-,-,-,-,-,-,M,-⟩:=nK (f.ok.YH n b);have:=f.ok.n;omega⟩
 have w:X.S=(⟨c.aC.toNat,[]⟩:aw).eC X.S.l:=by rw[<-z];exact f.Wg.symm
 have x:∀n∈cj [] X.S.l,Q n:=λn b=>by
  have b:n∈X.S.l:=b;rw[i]at b;exact j n (List.mem_of_mem_take ((aw.Fj _ b).resolve_left sM))
 rcases q.SA v I (size:=c.bj)with⟨h,e⟩|⟨h,⟨e,o,J⟩|⟨e,o⟩⟩
 ·rw[Zx h]at P
  rw[P];exact⟨V,A,no,l,k,d,g,e,.inr ⟨v,F⟩,r,i,s,λa=>Zz a oM,j⟩
 ·rw[Zq (by rw[e];simp)]at P
  rw[P];exact⟨_,[],V.next,X.S.l,X.S.l.length,X.S.l.length,rfl,h,.inr ⟨o,J⟩,λK p=>by simp at p,by rw[show(cj [] X.S.l)=X.S.l from rfl,List.take_length];exact w,by unfold JA;simp,λa=>Zz a (by rw[show(cj [] X.S.l)=X.S.l from rfl];exact Nat.lt_irrefl _),x⟩
 ·rw[Zx e]at P
  rw[P];exact⟨V,[],V.next,X.S.l,X.S.l.length,X.S.l.length,g,h,.inl o,λK p=>by simp at p,by rw[show(cj [] X.S.l)=X.S.l from rfl,List.take_length];exact w,by unfold JA;simp,λa=>Zz a (by rw[show(cj [] X.S.l)=X.S.l from rfl];exact Nat.lt_irrefl _),x⟩
def OP{self:Int}(n:(cB c self).1=0):fx Q c (cB c self).2 false/\(cB c self).2.waits=[]:=by
 have b:cB c self=Cr c:=by
  unfold cB at n⊢;split
  ·rename_i P;rw[Zx P]at n;exact Zz n P
  rename_i P;rw[Zq P]at n;split
  ·rename_i d;rw[Zx d]at n;simp at n
  ·rfl
 rw[b]at n⊢;unfold Cr fC at n⊢;dsimp only at n⊢;rcases SB c.uR.toNat c.bj with a|⟨a,e,f,g,h,l,m,o⟩
 ·rw[Zx oM]at n
  exact Zz n (by dsimp only;omega)
 ·rw[Zq (by rw[a];simp)]
  exact⟨⟨_,[],1,[],0,0,rfl,f,.inr ⟨g,h⟩,λp i=>by simp at i,by rw[e];rfl,Qj _,λj=>by simp[cj]at j,λq k=>by simp[cj]at k⟩,rfl⟩
def MA{P x:ah}(n:x∈(eT a H P).2):x=P\/x∈H:=by
 unfold eT at n;split at n
 ·exact .inr n
 ·exact Q2.1 ((cN P H).mem_iff.1 n)
def wy(n:Nat)(Q:ah->Prop):∀(l:List ah) (f:aw) (P b:List ah),(∀e∈l,Q e)->(∀e∈P,Q e)->(∀e∈b,Q e)->(∀e∈(gT n l f P b).2.1,Q e)/\∀e∈(gT n l f P b).2.2,Q e
 |[],f,P,b,_,c,d=>⟨c,d⟩
 |e::l,f,P,b,h,c,d=>by
  have i:=h e (QV ..);have g:∀x∈l,Q x:=λx a=>h x (QJ _ a);unfold gT;split
  ·exact wy n Q l _ _ _ g (λx a=>(Q6.1 a).elim (c x) λa=>by rw[List.mem_singleton.1 a];exact i) d
  split
  ·exact wy n Q l _ _ _ g c d
  ·exact wy n Q l _ _ _ g c λx a=>(MA a).elim (λj=>by rw[j];exact i) (d x)
def rK(Q:ah->Prop):∀(l:List ah) (b:aw) (n:List ah),(∀e∈l,Q e)->(∀e∈n,Q e)->∀e∈(eE l b n).2,Q e
 |[],b,n,_,a=>a
 |e::l,b,n,c,a=>by
  have d:∀x∈l,Q x:=λx P=>c x (QJ _ P);unfold eE;split
  ·exact rK Q l _ _ d λx P=>(Q6.1 P).elim (a x) λP=>by rw[List.mem_singleton.1 P];exact c e (QV ..)
  ·exact rK Q l _ _ d a
def wA(Q:ah->Prop):∀(l:List ah) (P:aw) {a:ah×aw×List ah},dO P l=some a->(∀e∈l,Q e)->Q a.1/\∀e∈a.2.2,Q e
 |[],P,a,n,_=>by cases n
 |e::l,P,a,n,c=>by
  unfold dO at n;split at n
  ·cases n;exact⟨c e (QV ..),λx b=>c x (QJ _ b)⟩
  ·cases d:dO P l with
   |none=>rw[d]at n;cases n
   |some i=>
    rw[d]at n
    cases n
    obtain⟨f,g⟩:=wA Q l P d λx b=>c x (QJ _ b);exact⟨f,λx b=>(Q2.1 b).elim (λh=>by rw[h];exact c e (QV ..)) (g x)⟩
def wB(Q:ah->Prop):∀(k:Nat) (a:aw) (l n:List ah),(∀P∈l,Q P)->(∀P∈n,Q P)->(∀P∈(dq k a l n).1,Q P)/\∀P∈(dq k a l n).2,Q P
 |0,a,l,n,b,c=>⟨c,b⟩
 |k+1,a,l,n,b,c=>by
  unfold dq
  cases e:dO a l with
  |none=>exact⟨c,b⟩
  |some h=>
   obtain⟨f,g⟩:=wA Q l a e b;exact wB Q k _ _ _ g λx d=>(Q6.1 d).elim (c x) λd=>by rw[List.mem_singleton.1 d];exact f
def JB(Q:ah->Prop):∀(k:Nat) (P:aw) (a b:List ah),(∀n∈a,Q n)->(∀n∈b,Q n)->(∀n∈(pM k P a b).1,Q n)/\∀n∈(pM k P a b).2,Q n
 |0,P,a,b,c,e=>⟨c,e⟩
 |k+1,P,a,b,c,e=>by
  unfold pM;have d:=wB Q ((b.filter λn=>(P.get (bd n)).isNone).length+1) P (b.filter λn=>(P.get (bd n)).isNone) [] (λx f=>e x (List.mem_filter.1 f).1) sM;have n:bG P b=dq ((b.filter λn=>(P.get (bd n)).isNone).length+1) P (b.filter λn=>(P.get (bd n)).isNone) []:=rfl;rw[<-n]at d;dsimp only;split
  ·exact⟨c,d.2⟩
  ·exact JB Q k _ _ _ (rK Q _ _ _ d.1 c) d.2
def Fu{c:bN}{X:bg}{l:List ah}(Q:ah->Prop)(P:∀n∈l,Q n)(a:∀n∈X.waits,Q n):(∀n∈(gI c X l).1,Q n)/\∀n∈(gI c X l).2,Q n:=by
 obtain⟨b,d⟩:=wy c.buffer.toNat Q l (eY c X.S []) [] X.waits P sM a;exact JB Q _ _ _ _ b d
def Cs(c:bN)(X:bg)(x:List ah):(df c X x).2.waits=X.waits:=by
 unfold df
 cases X.log with
 |none=>rfl
 |some V=>
  dsimp only;split
  ·rfl
  split<;>rfl
def JC(ref:Bool)(kind no:Int):Bool:=ref&&kind !=4||(kind==0||kind==2)&&(no==15||no==12)
structure pN (Q:ah->Prop) (c:bN) (X:bg) (ref:Bool) (kind:Int) (r:Int×bg):Prop where
 YF:∀e∈X.S.l,e∈r.2.S.l
 Zb:fx Q c r.2 (JC ref kind r.1)
 idle:kind≠0->kind≠2->kind≠4->r.2.S=X.S
 no:kind=0\/kind=2->r.1≠0->r.2.S=X.S
 cr:kind=4->ref=false->r.2.S=X.S
 wait:∀e∈r.2.waits,e.Ok/\Q e
def ot{ref:Bool}{n no:Int}(P:n≠4)(a:ref=true):JC ref n no=true:=by unfold JC;rw[a];simp[P]
def pN.still{no:Int}(P:fx Q c X ref)(b:e≠4)(n:e3.S=X.S)(d:e3.D=X.D)(f:e3.log=X.log)(g:∀a∈e3.waits,a.Ok/\Q a):pN Q c X ref e (no,e3):=
 ⟨λa h=>by rw[n];exact h,P.same n d f (ot b),λ_ _ _=>n,λ_ _=>n,λP=>Zz P b,g⟩
def Fw(n:ei f3 a e=0)(b:f3.kind=3)(c:e<=32):f3.events.length<=32:=by
 rcases Nat.lt_or_ge 32 f3.events.length with P|P
 ·exfalso
  unfold ei at n;rw[Zx b]at n;split at n
  ·cases n
  ·unfold eA at n
   split at n
   ·cases n
   ·rw[Zx (.inr oM)]at n;cases n
 ·exact P
def fx.call{a:Ui}(b:fx Q c X ref)(f:∀P∈X.waits,P.Ok/\Q P)(v:X.S.Cl)(w:X.S.n=c.aC.toNat)(B:X.D.Ok)(E:a.cmd.Ok)(F:∀P∈a.m.events,P.Ok/\Q P)(H:a.kind=0->(gD c.decl X.S (bZ c.decl X.S.l) e c.start a.cmd).2.1=true->Q (gD c.decl X.S (bZ c.decl X.S.l) e c.start a.cmd).1)(I:aM e)(J:aM c.start)(K:X.S.l.length<=20000000)(W:X.waits.length<=256)(L:c.chunk<=32):
  pN Q c X ref a.kind (RM c e X a):=by
 unfold RM;split
 ·rename_i h
  have i:a.kind≠4:=oM
  obtain⟨V,A,no,l,k,d,t,-⟩:=b.log;unfold eP;rw[t];dsimp only;split
  ·exact pN.still b i rfl rfl rfl f
  split
  ·rename_i M
   have N:=NR (d:=c.decl) (V:=bZ c.decl X.S.l) E v.ok I J K;have r:=b.take (x:=[(gD c.decl X.S (bZ c.decl X.S.l) e c.start a.cmd).1]) v w B (λP g=>by rw[List.mem_singleton.1 g];exact⟨N,H h M⟩) sM;have o:=Cs c X [(gD c.decl X.S (bZ c.decl X.S.l) e c.start a.cmd).1];generalize df c X [(gD c.decl X.S (bZ c.decl X.S.l) e c.start a.cmd).1]=x at r o;rcases r with⟨p,m,q⟩|⟨p,m,q⟩
   ·rw[Zq (by rw[p];simp)]
    exact⟨λP g=>by dsimp only;rw[m];exact aw.wv _ g,q _,λn=>Zz h n,λ_ n=>Zz rfl n,λn=>Zz n i,by dsimp only;rw[o];exact f⟩
   ·rw[Zx p]
    refine⟨λP g=>by dsimp only;rw[m];exact g,q.same rfl rfl rfl λj=>?_,λn=>Zz h n,λ_ _=>m,λn=>Zz n i,by dsimp only;rw[o];exact f⟩;rcases Bool.or_eq_true .. ▸j with j|j
    ·exact ot i j
    ·unfold JC;dsimp only;rw[j,h];simp
  ·exact pN.still b i rfl rfl rfl f
 split
 ·rename_i h
  unfold fk;split<;>exact pN.still b oM rfl rfl rfl f
 split
 ·rename_i h
  have i:a.kind≠4:=oM
  obtain⟨V,A,no,l,k,d,t,-⟩:=b.log;unfold ck;rw[t];dsimp only;split
  ·exact pN.still b i rfl rfl rfl f
  rename_i O;split
  ·exact pN.still b i rfl rfl rfl f
  split
  ·rename_i R
   have Y:=Fw (Classical.not_not.1 O) R L;unfold lD;obtain⟨C,y⟩:=Fu (c:=c) (X:=X) (λP=>P.Ok/\Q P) F f;have S:=uU c X a.m.events;generalize gI c X a.m.events=s at C y S;dsimp only;split
   ·exact pN.still b i rfl rfl rfl y
   have r:=(b.same (Y:={X with waits:=s.2}) rfl rfl rfl id).take (x:=s.1) v w B C oM;have o:=Cs c {X with waits:=s.2} s.1;generalize df c {X with waits:=s.2} s.1=x at r o;dsimp only at r o;rcases r with⟨p,m,q⟩|⟨p,m,q⟩
   ·rw[Zq (by rw[p];simp)]
    exact⟨λP g=>by dsimp only;rw[m];exact aw.wv _ g,q _,λ_ n=>Zz h n,λ_ n=>Zz rfl n,λn=>Zz n i,by dsimp only;rw[o];exact y⟩
   ·rw[Zx p]
    refine⟨λP g=>by dsimp only;rw[m];exact g,q.same (Y:={x.2 with waits:=[]}) (r2:=JC ref a.kind x.1) rfl rfl rfl λj=>?_,λ_ n=>Zz h n,λ_ _=>m,λn=>Zz n i,sM⟩;rcases Bool.or_eq_true .. ▸j with j|j
    ·exact ot i j
    ·unfold JC;rw[j,h];simp
  split
  ·exact pN.still b i rfl rfl t.symm f
  split<;>exact pN.still b i rfl rfl t.symm f
 split
 ·exact pN.still b oM rfl rfl rfl f
 split
 ·rename_i h
  obtain⟨u,z,T,U⟩:=b.eu a.n;have P:JC ref a.kind (g_ c X a.n).1=false:=by unfold JC;rw[h];simp
  refine⟨z,by rw[P];exact U,λ_ _ n=>Zz h n,λn=>oM,λ_ n=>T n,?_⟩;unfold g_ fC;dsimp only;split<;>simp
 split
 ·rename_i h
  exact⟨λP g=>g,(b.GI a.n).same rfl rfl rfl (ot oM),λ_ _ _=>rfl,λ_ _=>rfl,λ_ _=>rfl,f⟩
 split
 ·rename_i h
  obtain⟨u,z⟩:=b.UM v w;refine⟨λP g=>by rw[u];exact g,z.same rfl rfl rfl (ot oM),λ_ _ _=>u,λ_ _=>u,λ_ _=>u,?_⟩;unfold de
  cases X.log with
  |none=>exact f
  |some V=>
   dsimp only;split<;>exact f
 ·exact⟨λP g=>g,b.same rfl rfl rfl (ot oM),λ_ _ _=>rfl,λ_ _=>rfl,λ_ _=>rfl,f⟩
end
section
variable {D E:ak} {A:oF} {no:Int} {l x:List ah} {k d:Nat} {V:dv} {c:bN} {X:bg} {ref:Bool} {Q:ah->Prop} {nm:ByteArray}
def Va(P:(an D.files nm).isSome=true)(a:∀D n,(g8 D n).1≠14):(D.op (ak.yJ nm g8)).1≠14:=by
 rcases rp D (ak.yJ nm g8)with e|e
 ·rw[e];simp
 ·rw[e]
  unfold ak.yJ;rw[dV];obtain⟨n,b⟩:=Option.isSome_iff_exists.1 P;rw[b];exact a _ _
def CM(n:(an D.files nm).isSome=true)(P:List UInt8):(D.append nm P).1≠14:=Va n λD a=>by split<;>simp
def HF(n:(an D.files nm).isSome=true):(D.sync nm).1≠14:=Va n λD P=>by simp
def SU(n:(an D.files nm).isSome=true):(D.delete nm).1≠14:=Va n λD P=>by simp
def SV(n:(an D.files nm).isSome=true)(P:ByteArray):(D.rename nm P).1≠14:=Va n λD a=>by split<;>simp
def JV:(D.create nm).1≠14:=by
 unfold ak.create;rcases rp D λD=>if cT nm then(if(an D.files nm).isSome then(16,D)else if 64<=D.files.length then(12,D)else(0,D.fv nm ⟨[],0,false⟩))else(1,D)with e|e
 ·rw[e];simp
 ·rw[e]
  split
  ·split
   ·simp
   split<;>simp
  ·simp
def CN(n:(D.create nm).1=0):(an (D.create nm).2.files nm).isSome=true:=by
 rcases jK D nm with⟨P,-⟩|⟨-,-,-,a⟩
 ·exact Zz n P
 ·rw[a,bl,Zx sM];rfl
def MK(a:(an D.files nm).isSome=true)(P:List UInt8):(an (D.append nm P).2.files nm).isSome=true:=by
 rcases lF D nm P with⟨-,n⟩|⟨-,b,-,n⟩
 ·rw[n];exact a
 ·rw[n,bl,Zx sM];rfl
def SX(P:(an D.files nm).isSome=true):(an (D.sync nm).2.files nm).isSome=true:=by
 rcases lG D nm with⟨-,n⟩|⟨-,a,-,n⟩
 ·rw[n];exact P
 ·rw[n,bl,Zx sM];rfl
def aad(l:List Int):(bz D l).1≠14:=by
 have e:∀D,(gF l 0 D).1≠14:=λD=>by
  show(dS D).1≠14;unfold dS;split
  ·rename_i f;exact SU f
  ·simp
 unfold bz;split
 ·simp
 unfold kJ;split
 ·exact e D
 unfold kJ;split
 ·exact JV
 rename_i n;have n:((gF l 0 D).2.create aO).1=0:=Classical.not_not.1 n;have P:(an (gF l (0+1) (gF l 0 D).2).2.files aO).isSome=true:=CN n;generalize(gF l (0+1) (gF l 0 D).2).2=b at P;unfold kJ;split
 ·exact CM P _
 have a:(an (gF l (0+1+1) b).2.files aO).isSome=true:=MK P _;generalize(gF l (0+1+1) b).2=c at a;unfold kJ;split
 ·exact HF a
 have d:(an (gF l (0+1+1+1) c).2.files aO).isSome=true:=SX a;generalize(gF l (0+1+1+1) c).2=g at d;unfold kJ;split
 ·exact SV d _
 ·unfold kJ;simp
def FM:(Go.Proofs.YtjgjkeponbeekaaGreatDoor.bA V D).1≠14:=by
 unfold bA;dsimp only;split
 ·exact JV
 rename_i n;have n:(D.create (cH (ax V.next))).1=0:=Classical.not_not.1 n;have P:=CN n;generalize(D.create (cH (ax V.next))).2=a at P;unfold lP;dsimp only;split
 ·exact HF P
 split
 ·exact aad _
 ·simp
def Vb(n:cF D A no l k)(P:EM V A no l):(aH V D).1≠14:=by
 obtain⟨b,a,-⟩:=n.last;unfold aH;split
 ·exact FM
 dsimp only;split
 ·rw[cF.uT P];exact HF (by rw[a];rfl)
 ·exact FM
def JW(n:cF D A no l k)(P:EM V A no l):(aE V D x).1≠14:=by
 obtain⟨i,d,-⟩:=n.last;unfold aE;split
 ·simp
 split
 ·simp
 dsimp only
 by_cases c:V.size<=V.bytes
 ·rw[Zx c]
  have e:=Vb n P;rcases n.begin P with⟨a,-⟩|⟨a,-,f,g,-⟩
  ·rw[Zx a];exact e
  ·rw[Zq (by simpa using a)]
   obtain⟨j,h,-⟩:=f.last;have b:((aH V D).2.2.append (aH V D).2.1.last (az x)).1≠14:=CM (by rw[cF.uT g,h];rfl) _;split
   ·exact b
   ·simp
 ·rw[Zq c,Zq sM]
  have b:(D.append V.last (az x)).1≠14:=CM (by rw[cF.uT P,d];rfl) _;dsimp only;split
  ·exact b
  ·simp
def WL(n:D.dead=true):(aE V D x).1≠14:=by
 unfold aE;split
 ·simp
 split
 ·simp
 dsimp only
 by_cases P:V.size<=V.bytes
 ·rw[Zx P,uS n,Zx sM];simp
 ·rw[Zq P,Zq sM,show D.append V.last (az x)=(15,D.gone)from pf n _,Zx sM];simp
def fx.WM(e:fx Q c X ref)(f:X.D.Ok)(g:∀h∈x,h.Ok)(i:x.length<=20000000):(df c X x).1≠14:=by
 obtain⟨V,A,no,l,k,d,j,a,m,o,v,w,y,z⟩:=e.log;unfold df;rw[j];dsimp only
 by_cases n:X.D.dead=true
 ·obtain⟨B,p,C⟩:=yR (V:=V) n x
  have P:=WL (V:=V) (x:=x) n;split
  ·exact P
  rw[show(aE V X.D x).2.2.sync (aE V X.D x).2.1.last=(15,(aE V X.D x).2.2.gone)from pf p _,Zx sM];simp
 obtain⟨b,q⟩:=m.resolve_left n;obtain⟨E,F,H,I,r,s,-⟩:=yS (x:=x) a b g i f (by rw[q];exact o);have P:=JW (x:=x) a b;obtain⟨J,t,-⟩:=r.last;split
 ·exact P
 have u:((aE V X.D x).2.2.sync (aE V X.D x).2.1.last).1≠14:=HF (by rw[cF.uT s,t];rfl);split
 ·exact u
 ·simp
def JX{n:Type}{P:n->Int}(a:∀x,P x≠14):∀l:List n,cD P l≠14
 |[]=>by unfold cD;simp
 |x::l=>by
  unfold cD
  split
  ·exact a x
  ·exact JX a l
def PR(n:ah)(P:Nat):cQ n P≠14:=by
 unfold cQ
 repeat' split
 all_goals simp
def ML:ei f3 a e≠14:=by
 unfold ei eA gw;dsimp only
 repeat' split
 all_goals first|exact JX (λn=>PR n a) _|simp
def OT{self:Int}(P:fx Q c X ref)(a:X.D.Ok)(b:∀n∈X.waits,n.Ok)(e:∀n∈f3.events,n.Ok)(o:X.waits.length<=256)(f:c.chunk<=32):(ck c self X f3).2.1≠14:=by
 obtain⟨V,A,no,l,k,d,g,-⟩:=P.log;unfold ck;rw[g];dsimp only;split
 ·exact ML
 rename_i h;split
 ·simp
 split
 ·rename_i i
  have p:=Fw (Classical.not_not.1 h) i f;obtain⟨j,q⟩:=Fu (c:=c) (X:=X) ah.Ok e b;have r:=uU c X f3.events;unfold lD;dsimp only;split
  ·simp
  have m:=(P.same (Y:={X with waits:=(gI c X f3.events).2}) rfl rfl rfl id).WM (x:=(gI c X f3.events).1) a j oM;split
  ·exact m
  ·simp
 split
 ·simp
 split<;>simp
end
structure yE (c:bN) (X:dE):Prop where
 len:X.aC.length=c.aC.toNat
 cl:∀R∈X.aC,R.S.Cl/\R.S.n=c.aC.toNat/\R.D.Ok/\R.S.l.length<=20000000/\R.waits.length<=256
 evs:∀m∈X.dt,∀e∈m.events,e.Ok
 chunk:c.chunk<=32
 start:aM c.start
 aC:c.aC<=64
def Bs(P:ah->Prop)(c:bN)(a:bg):Prop:=(∃n,fx P c a n)/\∀b∈a.waits,b.Ok/\P b
def LC(a:Nat->ah->Prop)(b:bN)(c:dE):Prop:=∀n P,c.aC[n]? =some P->Bs (a n) b P
section
variable {c:bN} {X:dE} {k j:Nat} {i:Int} {R R':bg} {s:fR} {ms:List bW} {m:bW} {Q:Nat->ah->Prop} {P:ah->Prop} {f:List bW} {now:Int} {n:Int}
def LC.set(d:LC Q c X)(e:Bs (Q j) c R'):LC Q c ⟨X.aC.set j R',f,now⟩:=λP a n=>by
 have n:(X.aC.set j R')[P]? =some a:=n
 by_cases b:j=P
 ·subst b
  by_cases g:j<X.aC.length
  ·rw[List.getElem?_set_self g]at n;injection n with n;exact n▸e
  ·rw[Q7 (by rw[List.length_set];omega)]at n;cases n
 ·rw[List.getElem?_set_ne b]at n;exact d P a n
def Bs.same(a:Bs P c R)(b:R'.S=R.S)(d:R'.D=R.D)(e:R'.log=R.log)(f:R'.waits=R.waits):Bs P c R':=by
 obtain⟨⟨n,g⟩,h⟩:=a;exact⟨⟨n,g.same b d e id⟩,by rw[f];exact h⟩
def Bs.call(e:Bs P c R)(n:yE c X)(f:R∈X.aC)(g:aM i){a:Ui}(h:a.cmd.Ok)(j:∀b∈a.m.events,b.Ok/\P b)(k:a.kind=0->(gD c.decl R.S (bZ c.decl R.S.l) i c.start a.cmd).2.1=true->P (gD c.decl R.S (bZ c.decl R.S.l) i c.start a.cmd).1):Bs P c (RM c i R a).2:=by
 obtain⟨⟨l,m⟩,o⟩:=e;obtain⟨p,q,r,s,t⟩:=n.cl R f;have d:=m.call o p q r h j k g n.start s t n.chunk;exact⟨⟨_,d.Zb⟩,d.wait⟩
def IP:Ui:=⟨0,0,0,⟨0,0,0,0,0,0,0⟩,⟨0,0,0,[],[]⟩⟩
def AD:lE.Ok ⟨0,0,0,0,0,0,0⟩:=by
 have:aM 0:=by unfold aM;omega
 exact⟨this,this,this,this,this,this⟩
def Bs.one(n:Bs P c R)(b:yE c X)(d:R∈X.aC)(e:aM i)(g:s.Ok)(h:(gD c.decl R.S (bZ c.decl R.S.l) i c.start s.cmd).2.1=true->P (gD c.decl R.S (bZ c.decl R.S.l) i c.start s.cmd).1):Bs P c (iR c i R s).2:=by
 have a:∀f∈([]:List ah),f.Ok/\P f:=λf a=>by cases a
 unfold iR;split
 ·exact n.call b d e (a:=⟨0,0,0,s.cmd,IP.m⟩) g.cmd a λ_=>h
 split
 ·exact n.call b d e (a:=⟨4,s.m,0,IP.cmd,IP.m⟩) AD a λn=>by cases n
 split
 ·exact n.call b d e (a:=⟨6,0,0,IP.cmd,IP.m⟩) AD a λn=>by cases n
 split
 ·exact n
 split
 ·exact n
 split
 ·exact n
 ·exact n.call b d e (a:=⟨5,s.m,0,IP.cmd,IP.m⟩) AD a λn=>by cases n
def EF(c:bN)(i:Int)(R:bg)(n now:Int):(fk c i R n now).2.S=R.S/\(fk c i R n now).2.D=R.D/\(fk c i R n now).2.log=R.log/\(fk c i R n now).2.waits=R.waits:=by
 unfold fk;split<;>exact⟨rfl,rfl,rfl,rfl⟩
def LD(n:LC Q c X):LC Q c (fM X j):=by
 unfold fM;split
 ·exact n
 ·rename_i R P
  exact n.set ((n j R P).same rfl rfl rfl rfl)
def IQ:∀(n:List Nat) {X:dE},LC Q c X->LC Q c (n.foldl fM X)
 |[],_,P=>P
 |j::n,_,P=>IQ n (LD P)
def sr(P:dP a8 n=some m):m∈a8:=by
 unfold dP at P;split at P
 ·exact QZ P
 ·cases P
def XF(n:yE c X)(P:j<X.aC.length):aM (j:Int):=by
 have:=n.len;have:=n.aC;unfold aM;omega
def IS(n:LC Q c X)(a:yE c X)(h:∀m,f4=some m->m∈X.dt/\∀i:Nat,m.mQ=i->∀P∈m.events,Q i P):LC Q c (fm c ⟨X.aC,f,X.now⟩ f4).2:=by
 unfold fm
 cases f4 with
 |none=>exact n
 |some m=>
  dsimp only;split
  ·exact n
  ·rename_i R b
   obtain⟨j,e,b⟩:=eJ b;have d:X.aC[j]? =some R:=b;obtain⟨k,l⟩:=h m rfl;have o:=(n j R d).call a (QZ d) (XF a (Qv.1 d).1) (a:=⟨2,0,0,IP.cmd,m⟩) AD (λP g=>⟨a.evs m k P g,l j e P g⟩) λn=>by cases n
   rw[e];exact LC.set (X:=X) n o
def RN(P:LC Q c X)(b:yE c X)(f:s.Ok)(d:(s.kind=3\/s.kind=5)->∀m,dP X.dt s.n=some m->∀i:Nat,m.mQ=i->∀g∈m.events,Q i g)(h:∀(i:Nat) R,X.aC[i]? =some R->(gD c.decl R.S (bZ c.decl R.S.l) i c.start s.cmd).2.1=true->Q i (gD c.decl R.S (bZ c.decl R.S.l) i c.start s.cmd).1):LC Q c (cg c X s).2:=by
 unfold cg;split
 ·rename_i k
  exact IS P b λm n=>⟨sr n,d (.inl k) m n⟩
 split
 ·rename_i l
  exact IS (f:=X.dt) P b λm n=>⟨sr n,d (.inr l) m n⟩
 split
 ·exact P
 split
 ·exact IQ _ (X:=⟨X.aC,X.dt,X.now+1⟩) P
 split
 ·exact P
 split
 ·exact P
 ·rename_i R a
  obtain⟨j,o,a⟩:=eJ a;have p:=(Qv.1 a).1;have e:=P j R a;rw[o];split
  ·split
   ·exact P
   ·obtain⟨q,r,t,u⟩:=EF c j R s.m X.now
    exact LC.set (X:=X) P (e.same q r t u)
  ·exact LC.set (X:=X) P (e.one b (QZ a) (XF b p) f (h j R a))
def GK(X:dE)(k:Nat):Option aw:=(X.aC[k]?).map (·.S)
def LF(n:k≠j):GK ⟨X.aC.set j R',f,now⟩ k=GK X k:=by
 unfold GK;rw[List.getElem?_set_ne (Ne.symm n)]
def vw(n:X.aC[j]? =some R)(a:R'.S=R.S):GK ⟨X.aC.set j R',f,now⟩ k=GK X k:=by
 by_cases P:k=j
 ·subst P
  unfold GK;rw[List.getElem?_set_self (Qv.1 n).1,n];show some R'.S=some R.S;rw[a]
 ·exact LF P
def OQ:GK (fM X j) k=GK X k:=by
 unfold fM;split
 ·rfl
 ·rename_i R n
  exact vw (R:=R) n rfl
def GM:∀(n:List Nat) {X:dE},GK (n.foldl fM X) k=GK X k
 |[],_=>rfl
 |j::n,X=>(GM n).trans OQ
def EG:∀(n:List Nat) {X:dE},(n.foldl fM X).now=X.now
 |[],_=>rfl
 |j::n,X=>(EG n).trans (IT X j)
def OR(c:bN)(R:bg):(de c R).2.S=R.S:=by
 unfold de
 cases R.log with
 |none=>rfl
 |some n=>
  dsimp only;split<;>rfl
def XG(n:s.kind≠1)(P:s.kind≠7):(iR c i R s).2.S=R.S:=by
 unfold iR;rw[Zq n,Zq P];split
 ·exact OR c R
 repeat' split
 all_goals rfl
def NF{o:Option bW}:∃P:Nat,∀k,k≠P->GK (fm c ⟨X.aC,f,X.now⟩ o).2 k=GK X k:=by
 unfold fm
 cases o with
 |none=>exact⟨0,λk _=>rfl⟩
 |some m=>
  dsimp only;split
  ·exact⟨0,λk _=>rfl⟩
  ·rename_i R n
   obtain⟨j,a,n⟩:=eJ n;rw[a];exact⟨j,λk b=>LF (X:=X) b⟩
def Uj:∃n:Nat,(∀k,k≠n->GK (cg c X s).2 k=GK X k)/\((s.kind=1\/s.kind=7)/\s.n=n\/s.kind=3\/s.kind=5\/GK (cg c X s).2 n=GK X n):=by
 unfold cg;split
 ·rename_i e
  obtain⟨n,P⟩:=NF (c:=c) (X:=X) (f:=fw X.dt s.n) (o:=dP X.dt s.n);exact⟨n,P,.inr (.inl e)⟩
 split
 ·rename_i f
  obtain⟨n,P⟩:=NF (c:=c) (X:=X) (f:=X.dt) (o:=dP X.dt s.n);exact⟨n,P,.inr (.inr (.inl f))⟩
 split
 ·exact⟨0,λ_ _=>rfl,.inr (.inr (.inr rfl))⟩
 split
 ·exact⟨0,λ_ _=>GM _,.inr (.inr (.inr (GM _)))⟩
 split
 ·exact⟨0,λ_ _=>rfl,.inr (.inr (.inr rfl))⟩
 split
 ·exact⟨0,λ_ _=>rfl,.inr (.inr (.inr rfl))⟩
 ·rename_i R a
  obtain⟨j,g,a⟩:=eJ a;rw[g];split
  ·split
   ·exact⟨0,λ_ _=>rfl,.inr (.inr (.inr rfl))⟩
   ·have d:=(EF c j R s.m X.now).1
    exact⟨0,λ_ _=>vw (X:=X) a d,.inr (.inr (.inr (vw (X:=X) a d)))⟩
  ·refine⟨j,λk h=>LF (X:=X) h,?_⟩
   by_cases b:s.kind=1\/s.kind=7
   ·exact .inl ⟨b,rfl⟩
   ·exact .inr (.inr (.inr (vw (X:=X) a (XG (λP=>b (.inl P)) λP=>b (.inr P)))))
def EH:(fm c ⟨X.aC,f,X.now⟩ f4).2.now=X.now:=by
 unfold fm
 cases f4 with
 |none=>rfl
 |some m=>
  dsimp only;split<;>rfl
def OS:(cg c X s).2.now=if s.kind=6 then X.now+1 else X.now:=by
 by_cases n:s.kind=6
 ·rw[Zx n]
  unfold cg;rw[Zq oM,Zq oM,Zq oM,Zx n];exact EG _
 rw[Zq n];unfold cg;split
 ·exact EH
 split
 ·exact EH (f:=X.dt)
 split
 ·rfl
 split
 ·rfl
 split
 ·rfl
 ·split
  ·split<;>rfl
  ·rfl
def LG(a:s.kind=4)(P:(cg c X s).1.code=0):((cg c X s).2.dt.length:Int)=X.dt.length-1:=by
 unfold cg at P⊢;rw[Zq oM,Zq oM,Zx a]at P⊢;dsimp only at P⊢
 cases n:dP X.dt s.n with
 |none=>rw[n]at P;simp at P
 |some m=>
  unfold fw;rw[n];show((X.dt.eraseIdx s.n.toNat).length:Int)=_;unfold dP at n;split at n
  ·have:=(Qv.1 n).1
   rw[List.length_eraseIdx,Zx this];omega
  ·cases n
def IU(b:LC (λ_ _=>True) c X)(a:yE c X)(d:∀m,f4=some m->m∈X.dt)(P:(fm c ⟨X.aC,f,X.now⟩ f4).1.code=14):f4=none:=by
 cases f4 with
 |none=>rfl
 |some m=>
  exfalso;unfold fm at P;dsimp only at P;split at P
  ·simp at P
  ·rename_i R n
   obtain⟨j,p,n⟩:=eJ n;have n:X.aC[j]? =some R:=n;obtain⟨⟨e,g⟩,h⟩:=b j R n;obtain⟨q,r,i,s,k⟩:=a.cl R (QZ n);exact OT (self:=m.mQ) g i (λl o=>(h l o).1) (a.evs m (d m rfl)) k a.chunk P
def RO(g:LC (λ_ _=>True) c X)(h:yE c X)(n:(cg c X s).1.code=14):(cg c X s).2.dt=X.dt:=by
 unfold cg at n⊢;split
 ·rename_i a
  rw[Zx a]at n;have P:=IU g h (λm b=>sr b) n;rw[P];show fw X.dt s.n=X.dt;unfold fw;rw[P];rfl
 rename_i a;rw[Zq a]at n;split
 ·rename_i d
  rw[Zx d]at n;have P:=IU (f:=X.dt) g h (λm b=>sr b) n;rw[P];rfl
 rename_i d;rw[Zq d]at n;split
 ·rename_i e
  rw[Zx e]at n
  cases i:dP X.dt s.n with
  |none=>show fw X.dt s.n=X.dt;unfold fw;rw[i];rfl
  |some m=>rw[i]at n;simp at n
 rename_i e;rw[Zq e]at n;split
 ·rename_i f;rw[Zx f]at n;simp at n
 rename_i f;rw[Zq f]at n;split
 ·rfl
 rename_i j;rw[Zq j]at n;split
 ·rfl
 ·rename_i R k
  rw[k]at n;dsimp only at n;split
  ·rename_i l
   rw[Zx l]at n;split
   ·rfl
   ·rename_i o;rw[Zq o]at n;simp at n
  ·rfl
end
section
variable {w w' w0 w1 w2 wb:World} {p q i k g:Nat} {F F1 F' G G' T D E:RK} {c:bN} {X Y:dE} {s:fR} {x:iG} {v:Value}
def RL(P:Row kY 96 w D d a H):∀n∈H,n.Ok:=λn b=>by
 obtain⟨i,c⟩:=List.mem_iff_getElem?.1 b;obtain⟨f,g,h,-,-,-,-,j,k,l,-,-,e⟩:=P.el i n c;exact e
def cA.facts(P:cA w0 w p F c X)(f:aM c.start):yE c X:=by
 have a:=P.len;obtain⟨r,g,s,b,t,h,u,i,v⟩:=P;refine⟨a.1,λx d=>?_,λy e=>?_,i.Ln.2,f,a.2.2.1⟩
 ·rw[h]at d
  obtain⟨z,j,rfl⟩:=Xk.1 d;obtain⟨A,k⟩:=List.mem_iff_getElem?.1 j;have n:=cX.rep b k;exact⟨n.cl.1,n.cl.2,n.dok,n.len,n.waits⟩
 ·obtain⟨B,C,E,H,D,I,J,l,m,-⟩:=b.Xi
  rw[<-l]at e;obtain⟨o,q,rfl⟩:=Xk.1 e;exact RL (m o q).2
def Uh{Q:Nat->ah->Prop}(P:(Br c).1=0):LC Q c (Br c).2:=λi a b=>by
 have n:=QZ b;have n:a∈List.replicate c.aC.toNat (cB c 0).2:=n;rw[(List.mem_replicate.1 n).2];obtain⟨d,e⟩:=OP (Q:=Q i) (c:=c) (self:=0) P;exact⟨⟨false,d⟩,by rw[e];intro g f;cases f⟩
structure VBx where
 a:am
 n:Nat
 c:Nat
 vs:List Int
def YJ:ks VBx:=flat 1 (λn=>[Value.slice n.a n.n n.c]) (λ_=>True) (λ_=>rfl) (λx a P=>by simp at P;subst P;rfl)
def Za:kv PP 41 42 YJ.k 24:=⟨kR,kR,dC⟩
end
def qz:gE:=⟨[(9,[(5,WP 0)]),(14,[(7,.slice none 0 0),(8,WP 0)]),(22,[(12,WP 0),(13,WP 0)])],[(27,[(14,.bool false)])],[24,29],[],[(29,⟨[0,1,2,4,12,4,52,4,132,260,580,1028,2064,4096,12288,4096,36864,86016,135168],[524287,524286,524285,524283,524275,524283,524235,524283,524155,524027,523707,523259,522239,520191,511999,520191,487423,438271,389119],[0,0,0,0,2,0,0,0,1,0,0,0,0,0,2,0,0,0,0]⟩)]⟩
def qd(a1:PA b (.cells #[.ii e,.ii l,.ii B,.ii T,.ii b1,.ii b5,.ii b6,.ii b7,.slice d a c,.slice s i o,.slice d4 E c1] 30) λU=>(Ld 30 (ab_ b 0) U λa2=>PC_ 7 #[a2] U (kB λa3 N=>al a3 (PC_ 8 #[] N (kB λa4 b8=>rt t ((.bool a4)) b8) (pE t)) ((Ld 27 (ab_ b 0) N λb9=>PC_ 9 #[b9] N (λc0 V=>∃g W,c0= .tuple #[.pointer g,.ii W]/\al (W !=0) (PC_ 8 #[] V (kB λa5 c2=>rt t ((.bool a5)) c2) (pE t)) (PR_ (eq_ .eql 33 (.tmp 27) (.const (.pointer none)) (.pointer g) (.pointer none)) V (kB λc3 A=>al c3 (rt t ((.bool false)) A) ((rI A (ab_ b 0) λc4=>al (decide (c4>64)) (rt t ((.bool false)) A) ((∃k:Nat->Int->ac,(∃j,k j 0 A)/\∀(j:Nat) (h:Int) (h9:Nat->Value) (P:World),k j h P->(rS P (ab_ b (0+10)) λi0 c5 i1=>al (decide (h<(c5:Int))) ((rS P (ab_ b (0+10)) λc6 c7 i2=>(ix_ c6 h c7 λc8 c9=>(Ld 40 (ad c8 (c9+Int.toNat h*10)) P λd0=>PA P (.cells #[.ii 0,.ii 0,.ii 0,.ii 0,.ii 0,.ii 0,.ii 0,.ii 0,.ii 0,.ii 0] 40) λd1=>St 40 (ab_ P 0) d0 d1 λd2=>(∃D:Nat->am->Nat->Nat->Int->ac,(∃C,D C none 0 0 0 d2)/\∀(C:Nat) (O:am) (Q:Nat) (X:Nat) (F:Int) (i3:Nat->Value) (H:World),D C O Q X F H->(rI H (ab_ b 0) λd3=>al (decide (F<d3)) (PC_ 10 #[.pointer g,.ii F] H (kS_ λa6 d5 d6 Y=>PA Y (.cells #[.slice a6 d5 d6] 42) λd7=>PR_ (ap_ 41 (.slice O Q X) (.slice (some (ab_ Y 0)) 1 1)) d7 (kS_ λd8 d9 e0 e1=>(∃Z,Z<C/\D Z d8 d9 e0 (GT .i64 (F+1)) e1)) (pV t)) (pE t)) (PC_ 11 #[.pointer g] H (kI_ λa8 e2=>PC_ 12 #[.pointer g] e2 (kI_ λI a9=>(Ld 40 (ab_ P 0) a9 λe3=>PC_ 13 #[.pointer g,e3] a9 (kX_ 53 λe4 v=>PA v (.cells #[.ii 0,.ii 0,.ii 0,.ii 0,.slice none 0 0,.slice none 0 0,.slice none 0 0,.bool false] 53) λe5=>St 53 (ab_ v 0) e4 e5 λe6=>(∃w:Nat->Int->Int->ac,(∃r,w r 0 0 e6)/\∀(r:Nat) (x:Int) (m:Int) (i4:Nat->Value) (J:World),w r x m J->(rI J (ab_ b 0) λe7=>al (decide (m<e7)) ((∀K,bw J K->∃G:RK,(ix_ O m Q λb0 e8=>(¬G b0/\(rS K (ad b0 (e8+Int.toNat m)) λe9 f0 f1=>PC_ 10 #[.pointer g,.ii m] K (kS_ λf2 f3 f4 R=>(aj G K R/\PC_ 14 #[.slice f2 f3 f4,.slice e9 f0 f1] R (kB λf5 q=>(aj G R q/\al f5 ((∃p,p<r/\w p x (GT .i64 (m+1)) q)) ((∃L:Bool->ac,((rI q (ab_ P 0) λf6=>al (f6==1) ((rI q (ab_ P (0+1)) λf7=>L (f7==m) q)) ((rI q (ab_ P 0) λf8=>al (f8==7) ((rI q (ab_ P (0+1)) λf9=>L (f9==m) q)) (L false q)))))/\∀(a0:Bool) (i5:Nat->Value) (u:World),L a0 u->al (!a0) ((rI u (ab_ P 0) λg0=>al (g0 !=3) ((rI u (ab_ P 0) λg1=>al (g1 !=5) (rt t ((.bool false)) u) ((∃p,p<r/\w p (GT .i64 (x+1)) (GT .i64 (m+1)) u)))) ((∃p,p<r/\w p (GT .i64 (x+1)) (GT .i64 (m+1)) u)))) ((∃p,p<r/\w p (GT .i64 (x+1)) (GT .i64 (m+1)) u)))))) (pZ t))) (pZ t)))))) ((∀z,bw J z->∃S:RK,al (decide (x>1)) (rt t ((.bool false)) z) ((¬S P.heap.size/\(rI z (ab_ P 0) λg2=>PC_ 11 #[.pointer g] z (kI_ λg3 M=>(aj S z M/\al (!((g3 !=a8)==(g2==6))) (rt t ((.bool false)) M) (PC_ 11 #[.pointer g] M (kI_ λg4 f=>(aj S M f/\al (decide (g4>(GT .i64 (a8+1)))) (rt t ((.bool false)) f) ((rI f (ab_ P 0) λg5=>al (g5==4) ((rI f (ab_ v 0) λg6=>al (g6==0) (PC_ 12 #[.pointer g] f (kI_ λg7 y=>al (g7 !=(GT .i64 (I-1))) (rt t ((.bool false)) y) ((rI y (ab_ v 0) λg8=>al (g8==14) ((rI y (ab_ P 0) λg9=>al (g9 !=10) (PC_ 12 #[.pointer g] y (kI_ λh0 b2=>al (h0 !=I) (rt t ((.bool false)) b2) ((∃n,n<j/\k n (GT .i64 (h+1)) b2))) (pE t)) ((∃n,n<j/\k n (GT .i64 (h+1)) y)))) ((∃n,n<j/\k n (GT .i64 (h+1)) y))))) (pE t)) ((rI f (ab_ v 0) λh1=>al (h1==14) ((rI f (ab_ P 0) λh2=>al (h2 !=10) (PC_ 12 #[.pointer g] f (kI_ λh3 b3=>al (h3 !=I) (rt t ((.bool false)) b3) ((∃n,n<j/\k n (GT .i64 (h+1)) b3))) (pE t)) ((∃n,n<j/\k n (GT .i64 (h+1)) f)))) ((∃n,n<j/\k n (GT .i64 (h+1)) f)))))) ((rI f (ab_ v 0) λh4=>al (h4==14) ((rI f (ab_ P 0) λh5=>al (h5 !=10) (PC_ 12 #[.pointer g] f (kI_ λh6 b4=>al (h6 !=I) (rt t ((.bool false)) b4) ((∃n,n<j/\k n (GT .i64 (h+1)) b4))) (pE t)) ((∃n,n<j/\k n (GT .i64 (h+1)) f)))) ((∃n,n<j/\k n (GT .i64 (h+1)) f)))))))) (pZ t)))) (pZ t))))))))) (pE t))) (pE t)) (pE t)))))))) (PC_ 8 #[] P (kB λh7 h8=>rt t ((.bool h7)) h8) (pE t)))))))) (pV t))) (pE t)))) (pE t))):ba 3 #[.agg #[.ii e,.ii l,.ii B,.ii T,.ii b1,.ii b5,.ii b6,.ii b7,.slice d a c,.slice s i o,.slice d4 E c1]] b t:=DC qz Tryz.func3 rfl a1
section
variable {w w' w0 w1 w2 wb:World} {p q i k g:Nat} {F F1 F' G G' T D E:RK} {c:bN} {X Y:dE} {s:fR} {x:iG} {v:Value} {ta pa la:am} {tn tc pn pc ln lc:Nat} {l:List fR}
def Uk{P T:bg}(b:X.aC[a]? =some P)(c:Y.aC[a]? =some T)(d:P.S.vec≠T.S.vec):GK Y a≠GK X a:=λn=>by
 unfold GK at n;rw[b,c]at n;simp only[Option.map_some,Q1]at n;exact d (by rw[n])
set_option maxHeartbeats 4000000 in
def ua(hT:ft w)(hL:Laid w)(hd:bu w D c.decl ta tn pa pn)(hD:∀n,D n->n<w.heap.size)(hl:Row IM 80 w E la ln l)(hE:∀n,E n->n<w.heap.size)(hs:aM c.bj)(j5:aM c.every)(c4:aM c.start):
  ba 3 #[ND c ta tn tc pa pn pc la ln lc] w (Ok λv w'=>v= .bool true/\ai w w'):=by
 have n4:=hl.len;refine qd (PA.mk λw1 k1 s1 g1=>au (Wm c ta tn tc pa pn pc la ln lc) g1 (PC.ok (LA (hd.af k1) (hl.af k1)) ?_));rintro _ w3 ⟨⟨b4,rfl,j6⟩,k3⟩;have C:=k1.then k3;have f6:=k3.get g1 id;refine⟨_,rfl,al.mk (λ_=>RI hT hL C) (λj7=>?_)⟩;have j8:=j6 j7;refine Ug f6 (PC.ok (NC hT hL C (hd.af C) (λn B=>by have:=hD n B;have:=C.size;omega) hs j5 c4) ?_);rintro v5 H ⟨k5,⟨j9,rfl⟩|⟨hz,p,F,rfl,hA,hF,f8⟩⟩
 ·exact⟨_,_,rfl,al.eK (λ_=>RI hT hL (C.then k5)) (λh=>Zz h j9)⟩
 have e3:=C.then k5;have e4:=k5.get f6 id;obtain⟨-,n8,n9,-⟩:=hA.len;have z1:w.heap.size<w1.heap.size:=oM
 have z3:=k3.size;have z5:=k5.size;have o0:=e3.size;refine⟨_,_,rfl,al.eK (λh=>Zz rfl h) (λ_=>gZ Tryz.underlying33 ⟨_,rfl,al.ff rfl ⟨_,ae e4 rfl,al.dec (λh=>oM) (λ_=>?_)⟩⟩)⟩;have d0:=Uh (Q:=λ_ _=>True) hz;generalize(Br c).2=X0 at hA f8 d0;refine⟨λa r w'=>∃(j:Nat) (e:RK) (X:dE),r=j/\j<=ln/\a=ln-j/\cA w w' p e c X/\fT j X/\LC (λ_ _=>True) c X/\aj (λn=>w1.heap.size<=n) H w'/\∀n,e n->w1.heap.size<=n,
  ⟨_,0,F,X0,rfl,Qj _,rfl,hA,f8,d0,aj.refl _,λn B=>by have:=hF n B;omega⟩,?_⟩
 rintro a _ _ m ⟨j,e,X,rfl,hj,rfl,R,e5,g0,S,g2⟩;have k2:ai w m:=e3.new S λn B=>.inr (by have B:w1.heap.size<=n:=B;omega);have e6:=S.get e4 oM;have o1:=S.size;refine⟨_,_,_,ae e6 rfl,al.dec (λo2=>?_) (λo3=>RI hT hL k2)⟩;have kE:aj (λn=>w1.heap.size<=n) w m:=(ai.keep e3).then S;obtain⟨n,a8,s,a1,a9,b0,b1,t,a2⟩:=RJ (hl.keep kE λn B h=>by have:=hE n B;omega) (j:=j) oM;refine⟨_,_,_,ae e6 rfl,n,a8,a1,oM,oM,?_⟩;rw[Qx];refine a2 _ (PA.mk λw9 k9 s9 g9=>aD (Bm s) g9 rfl λT k4 o4 k6=>?_);have a3:ai m T:=k9.new k4 λn B=>.inr (by have B:n=m.heap.size:=B;omega);have m7:=a3.size;have d1:=R.af a3;have g3:=a3.get e6 id;obtain⟨o5,-,-,-⟩:=d1.len;refine⟨λa U vn vc r w'=>∃(P:Nat) (y:List VBx) (V:RK),r=P/\P<=c.aC.toNat/\a=c.aC.toNat-P/\ai T w'/\aU YJ 42 (λn=>aG U=some n) w' U vn vc y/\y.map (·.vs)=(X.aC.take P).map (λz=>z.S.vec)/\(∀n∈y,Row aP 8 w' V n.a n.n n.vs)/\(∀n,V n->T.heap.size<=n/\n<w'.heap.size/\aG U≠some n)/\∀n,aG U=some n->T.heap.size<=n,
  ⟨_,0,[],λ_=>False,rfl,Qj _,rfl,aj.refl _,(aU.nil T).mono (λn B=>B.elim) (λn B=>(by cases B)),rfl,sM,λn B=>B.elim,λn B=>(by cases B)⟩,?_⟩
 rintro a U vn vc _ _ o7 ⟨P,y,V,rfl,he,rfl,I,W,c5,d2,J,e7⟩;have g4:=I.get g3 id;have a4:=d1.af I;have o8:=I.size;have m8:=W.len dC;have o9:y.length=P:=by have:=Zj List.length c5;rw[Q8,Q8,Qy]at this;omega
 refine⟨_,ae g4 rfl,al.dec (λm9=>?_) (λn0=>?_)⟩
 ·have o:X.aC[P]? =some X.aC[P]:=Qq oM
  generalize X.aC[P]=z at o;refine PC.ok (NB a4) ?_;rintro _ u (⟨h,-⟩|⟨R1,f,k8,l0,l3,c6,rfl,a5,c8,Y⟩)
  ·rw[nQ,o]at h;cases h
  rw[nQ,o]at f;injection f with f;subst f;have d3:=a5.aF;have l4:=c8.size;have e8:z.S.vec.length*8<=aR:=by
   have:=(R.facts c4).cl z (QZ o);rw[aw.bU,this.2.1];unfold aR;omega
  refine⟨_,_,_,rfl,KS (c:=YJ) (x:=⟨k8,l0,l3,z.S.vec⟩) (D:=λ_=>False) (W.af c8) Za ⟨rfl,trivial⟩ (λn B=>B.elim) (by unfold aR;omega) (by unfold maxLen;omega) λb5 c7 w7 F7 l5 k7 p0 e9=>⟨_,_,_,rfl,_,oM,P+1,_,λn=>V n\/c6 n,aq oM,oM,rfl,(I.then c8).new k7 λn B=>.inr (e7 n B),l5.alone,?_,?_,?_,λn B=>(e9 n B).elim (e7 n) λh=>oM⟩⟩
  ·rw[Q3,c5,Qw,o];simp
  ·intro b2 K
   rcases Q6.1 K with K|K
   ·exact(((d2 b2 K).af c8).keep k7 λn B=>(J n B).2.2).mono λn B=>.inl B
   ·simp at K;subst K
    exact((a5.keep k7 λn B P=>by have:=Y n B;have:=W.aF n P;omega).row dC e8).mono λn B=>.inr B
  ·have z7:=k7.size
   rintro n (B|B)
   ·refine⟨(J n B).1,by have:=(J n B).2.1;omega,λb=>(e9 n b).elim (J n B).2.2 λh=>by have:=(J n B).2.1;omega⟩
   ·refine⟨by have:=Y n B;omega,by have:=d3 n B;omega,λb=>(e9 n b).elim (λh=>by have:=Y n B;have:=W.aF n h;omega) λh=>by have:=d3 n B;omega⟩
 have l6:P=X.aC.length:=oM
 rw[l6,List.take_length]at c5;refine PC.ok (AB a4) ?_;rintro _ _ ⟨rfl,rfl⟩;refine⟨_,rfl,PC.ok (oJ a4) ?_⟩;rintro _ _ ⟨rfl,rfl⟩;have d4:=I.get k6 id;refine⟨_,rfl,au (Bm s) d4 (qS a4 e5 oM t λwa u c6 p1 L d5 M ia=>?_)⟩;have d6:=R.facts c4;have b7:LC (λ_ _=>True) c (cg c X s).2:=RN g0 d6 t (λ_ _ _ _ _ _ _=>trivial) λ_ _ _ _=>trivial;obtain⟨N,g5,d7⟩:=Uj (c:=c) (X:=X) (s:=s);have b8:=OS (c:=c) (X:=X) (s:=s);have b9:=LG (c:=c) (X:=X) (s:=s);have g6:=RO (s:=s) g0 d6;obtain⟨l7,-,-,l8⟩:=L.len;have p2:=R.len.2.2.2;have p3:=e5.Lm;have p4:=e5.now;generalize cg c X s=O at L d5 ia b7 g5 d7 b8 b9 g6 l7 l8;have l4:=M.keep.size;have d8:∀n,e n->n<m.heap.size:=R.aF;have g7:aj e m u:=(ai.keep (a3.then I)).then M.keep;have g8:u.heap[m.heap.size]? =some (.cells (lr s).toArray 40 (0,0)):=M.keep.get d4 λP=>by have:=d8 _ P;omega
 have d9:aj (λn=>w1.heap.size<=n) H u:=S.then (g7.mono λn _ B=>g2 n B);have h8:=d9.get e4 oM;have Y:∀n,c6 n->w1.heap.size<=n:=λn B=>(M.new n B).elim (g2 n) λh=>by omega
 obtain⟨ya,yg,h9,-⟩:=ia.get;have i0:∀n,m.heap.size<=n->¬e n:=λn B P=>by have:=d8 n P;omega
 have c9:∀n∈y,Row aP 8 u V n.a n.n n.vs:=λn B=>(d2 n B).keep M.keep λn B=>i0 n (by have:=(J n B).1;omega);have a5:=W.keep M.keep λn B=>i0 n (by have:=e7 n B;omega);have next:∀{w':World},ai u w'->∃a,a<ln-j/\∃(d:Nat) (e:RK) (X:dE),GT .i64 ((j:Int)+1)=d/\d<=ln/\a=ln-d/\cA w w' p e c X/\fT d X/\LC (λ_ _=>True) c X/\aj (λn=>w1.heap.size<=n) H w'/\∀n,e n->w1.heap.size<=n:=λ{w'} kk=>
  ⟨_,oM,j+1,c6,O.2,aq oM,oM,rfl,L.af kk,d5,b7,d9.then (ai.keep kk),Y⟩
 refine⟨λa A r w'=>∃P:Nat,r=P/\P<=c.aC.toNat/\a=c.aC.toNat-P/\ai u w'/\0<=A/\A<=(if N<P then 1 else 0),⟨_,0,rfl,Qj _,rfl,aj.refl _,Int.le_refl _,sM⟩,?_⟩;rintro a A _ _ i1 ⟨b,rfl,p5,rfl,q,l9,i2⟩;have i3:=q.get h8 id;have e0:=q.get g8 id;have i4:=q.get yg id;have i5:=L.af q;refine⟨_,ae i3 rfl,al.dec (λn1=>?_) (λn2=>?_)⟩
 ·intro k f2
  have x:ai i1 k:=f2.keep;have o:X.aC[b]? =some X.aC[b]:=Qq oM;have Z:O.2.aC[b]? =some O.2.aC[b]:=Qq oM;generalize X.aC[b]=z at o;generalize O.2.aC[b]=T2 at Z;obtain⟨b6,o6,x6,p6,m0,p7,p8,i6,m1,rfl,-⟩:=(((a5.af q).af x).row (bytes:=24) dC (by unfold aR;omega)).IA (i:=b) oM;have i7:x6.vs=z.S.vec:=by
   have f:(y.map (·.vs))[b]? =some x6.vs:=by rw[Q9,i6];rfl
   rw[c5,Q9,o]at f
   injection f with f;exact f.symm
  have m2:=((c9 x6 (QZ i6)).af q).af x;have i8:=m1 0 dC;refine⟨λ_=>False,b6,o6,m0,oM,oM,id,_,_,_,by simpa[show YJ.k=1 from rfl]using i8,PC.ok (NB (i5.af x)) ?_⟩;rintro _ m3 (⟨h,-⟩|⟨T3,f,p9,q0,q1,q2,rfl,i9,f4,n3⟩)
  ·rw[nQ,Z]at h;cases h
  rw[nQ,Z]at f;injection f with f;subst f;have e8:T2.S.vec.length*8<=aR:=by
   have:=(L.facts c4).cl T2 (QZ Z);rw[aw.bU,this.2.1];unfold aR;omega
  refine⟨_,_,_,rfl,ai.keep f4,PC.ok (DI (i9.row dC e8) (m2.af f4)) ?_⟩;rintro _ f5 ⟨rfl,m4⟩;have j0:ai m3 f5:=m4.keep;have a7:=(x.then f4).then j0;have Q:=a7.get e0 id;have z9:(if N<b then(1:Int)else 0)<=(if N<b+1 then 1 else 0):=by split<;>split<;>omega
  refine⟨_,rfl,ai.keep j0,al.dec (λ_=>⟨_,oM,b+1,aq oM,oM,rfl,q.then a7,l9,oM⟩) (λc2=>?_)⟩;rw[i7]at c2;have hS:=Uk o Z λh=>c2 h.symm;have j1:b=N:=Classical.byContradiction λh=>hS (g5 b h)
  have j2:(s.kind=1\/s.kind=7)/\s.n=N\/s.kind=3\/s.kind=5:=by
   rcases d7 with h|h|h|h
   ·exact .inl h
   ·exact .inr (.inl h)
   ·exact .inr (.inr h)
   ·rw[j1]at hS;exact Zz h hS
  have j3:A=0:=by rw[Zq oM]at i2;omega
  have g:∃a,a<c.aC.toNat-b/\∃P:Nat,GT .i64 ((b:Int)+1)=P/\P<=c.aC.toNat/\a=c.aC.toNat-P/\ai u f5/\0<=GT .i64 (A+1)/\GT .i64 (A+1)<=(if N<P then 1 else 0):=by
   have hw:GT .i64 (A+1)=1:=by rw[j3];exact wrap_i64 (by unfold aM;omega)
   refine⟨_,oM,b+1,aq oM,oM,rfl,q.then a7,oM,?_⟩;rw[Zx oM];omega
  refine⟨λn w'=>f5=w'/\n=decide ((s.kind=1\/s.kind=7)/\s.n=b),⟨_,ae Q rfl,al.eH (λf=>⟨_,ae Q rfl,rfl,by simp[f];rfl⟩) (λf=>⟨_,ae Q rfl,al.eH (λh7=>⟨_,ae Q rfl,rfl,by simp[h7];rfl⟩) (λh7=>⟨rfl,by simp[f,h7]⟩)⟩)⟩,?_⟩;rintro n _ _ ⟨rfl,rfl⟩;refine al.not (al.dec (λ_=>g) (λm5=>⟨_,ae Q rfl,al.eK (λh3=>⟨_,ae Q rfl,al.eK (λh5=>?_) (λ_=>g)⟩) (λ_=>g)⟩));exfalso;rcases j2 with h|h|h
  ·exact m5 ⟨h.1,by rw[h.2,j1]⟩
  ·exact h3 h
  ·exact h5 h
 ·intro k f2
  have x:ai i1 k:=f2.keep;have a0:=q.then x;have a6:=L.af a0;have c3:=x.get e0 id;have e1:=x.get i4 id;have i:∃r:Int,k.cell? ⟨wa.heap.size,0,none⟩=some (WP r)/\al (r==14) (∃t2:Int,k.cell? ⟨m.heap.size,0,none⟩=some (WP t2)/\al (t2 !=10) (PC PP 12 #[LL p] k (λv w'=>∃t3:Int,v= WP t3/\al (t3 !=(X.dt.length:Int)) (Ok (λv w'=>v= .bool true/\ai w w') (.returned (.bool false)) w') (∃a,a<ln-j/\∃(d:Nat) (e:RK) (X:dE),GT .i64 ((j:Int)+1)=d/\d<=ln/\a=ln-d/\cA w w' p e c X/\fT d X/\LC (λ_ _=>True) c X/\aj (λn=>w1.heap.size<=n) H w'/\∀n,e n->w1.heap.size<=n)) (λch b3=>Ok (λv w'=>v= .bool true/\ai w w') (.panicked ch) b3))
    (∃a,a<ln-j/\∃(d:Nat) (e:RK) (X:dE),GT .i64 ((j:Int)+1)=d/\d<=ln/\a=ln-d/\cA w k p e c X/\fT d X/\LC (λ_ _=>True) c X/\aj (λn=>w1.heap.size<=n) H k/\∀n,e n->w1.heap.size<=n))
    (∃a,a<ln-j/\∃(d:Nat) (e:RK) (X:dE),GT .i64 ((j:Int)+1)=d/\d<=ln/\a=ln-d/\cA w k p e c X/\fT d X/\LC (λ_ _=>True) c X/\aj (λn=>w1.heap.size<=n) H k/\∀n,e n->w1.heap.size<=n):=by
   refine⟨_,ae e1 h9,al.eH (λh=>⟨_,ae c3 rfl,al.eK (λ_=>PC.ok (oJ a6) ?_) (λ_=>next a0)⟩) (λ_=>next a0)⟩;rintro _ _ ⟨rfl,rfl⟩;exact⟨_,rfl,al.eK (λh2=>Zz (by rw[g6 h]) h2) (λ_=>next a0)⟩
  refine⟨λ_=>False,al.dec (λh=>Zz i2 (by split<;>omega)) (λ_=>⟨id,_,ae c3 rfl,PC.ok (AB a6) ?_⟩)⟩;rintro _ _ ⟨rfl,rfl⟩;have j4:(!((O.2.now !=X.now)==(s.kind==6)))=false:=by
   rw[b8]
   by_cases h6:s.kind=6
   ·rw[Zx h6,h6]
    have:(X.now+1 !=X.now)=true:=by simp;omega
    rw[this];rfl
   ·rw[Zq h6]
    have:(s.kind==6)=false:=by simpa using h6
    rw[this];simp
  refine⟨_,rfl,aj.refl _,al.ff j4 (PC.ok (AB a6) ?_)⟩;rintro _ _ ⟨rfl,rfl⟩;have q3:GT .i64 (X.now+1)=X.now+1:=wrap_i64 (by unfold aM;omega);have q4:O.2.now<=X.now+1:=by rw[b8];split<;>omega
  have m6:GT .i64 ((X.dt.length:Int)-1)=(X.dt.length:Int)-1:=wrap_i64 (by unfold aM;omega);refine⟨_,rfl,aj.refl _,al.dec (λh=>oM) (λ_=>⟨_,ae c3 rfl,al.eH (λh4=>⟨_,ae e1 h9,al.eH (λh0=>PC.ok (oJ a6) ?_) (λ_=>i)⟩) (λ_=>i)⟩)⟩;rintro _ _ ⟨rfl,rfl⟩;exact⟨_,rfl,al.eK (λh=>Zz (by rw[m6];exact b9 h4 h0) h) (λ_=>i)⟩
end
end Go.Proofs.YtjgjkeponbeekaaGreatDoor
namespace Go.ar
open Go Go.WideShapes
variable{J:Bool}{g4:List MemPlace}{a:Nat}{h:Program}{L j:Type}{g:TypeId}{x:Value}{b:World}
def RQ{n:TypeId×Value->j}{f:Reach}{d:DataW j}{e:ks L}{i:Array Field}(k:h.underlying g=some (.struct i))(l:Reads h e g)(m:Value.okWide h b f a g x)(o:DataW.Trod n h b 0 (λ_=>true) J g x d g4)(p:mI h g d):∃c cs,x= .agg cs/\e.rep b (In b) c cs.toList:=by
 obtain⟨cs,rfl,-⟩:=okWide_struct k m;obtain⟨P,q⟩:=o;obtain⟨c,r⟩:=l j n b J P cs.toList _ q p;exact⟨c,cs,rfl,r⟩
end Go.ar
namespace Go.Proofs.YtjgjkeponbeekaaGreatDoor
section
open Go.ar
structure Yb (c:bN):Prop where
 aC:aM c.aC
 uR:aM c.uR
 bj:aM c.bj
 chunk:aM c.chunk
 buffer:aM c.buffer
 di:aM c.di
 every:aM c.every
 start:aM c.start
def Yc:ks aT where
 k:=2
 rep:=λh D i cs=>∃n tn b P a c,cs=[.slice n tn b,.slice P a c]/\bu h D i n tn P a
 keep:=λ⟨n,tn,b,P,a,c,d,e⟩ j f=>⟨n,tn,b,P,a,c,d,e.keep j f⟩
 mono:=λ⟨n,tn,b,P,a,c,d,e⟩ f=>⟨n,tn,b,P,a,c,d,e.mono f⟩
 len:=λ⟨n,tn,b,P,a,c,d,_⟩=>by rw[d];rfl
 one:=λ⟨n,tn,b,P,a,c,d,_⟩ k g=>by rw[d]at g;simp at g;rcases g with rfl|rfl<;>rfl
def ZS:ks bN where
 k:=10
 rep:=λj D e cs=>∃n tn b P a c,cs=eV e n tn b P a c/\bu j D e.decl n tn P a/\Yb e
 keep:=λ⟨n,tn,b,P,a,c,d,f,g⟩ k h=>⟨n,tn,b,P,a,c,d,f.keep k h,g⟩
 mono:=λ⟨n,tn,b,P,a,c,d,f,g⟩ h=>⟨n,tn,b,P,a,c,d,f.mono h,g⟩
 len:=λ⟨n,tn,b,P,a,c,d,_,_⟩=>by rw[d];rfl
 one:=λ⟨n,tn,b,P,a,c,d,_,_⟩ l i=>by rw[d]at i;simp[eV]at i;rcases i with rfl|rfl|rfl|rfl|rfl|rfl|rfl|rfl|rfl|rfl<;>rfl
def ZT:ks lE:=flat 7 iS lE.Ok (λ_=>rfl) (λP a n=>by simp[iS]at n;rcases n with rfl|rfl|rfl|rfl|rfl|rfl|rfl<;>rfl)
def Mu:Reads PP jv 188:=λz f A P a cs B g C=>by
 obtain⟨h,E,_,rfl,i,j,n⟩:=DataW.trod_struct (Tryz.underlying188) g;have k:Tryz.prog.cellsOf 188=4:=kR
 have l:cs.length=4:=i.trans k;have m:Tryz.prog.cellsOf 3=1:=kR
 match cs,l with
 |[F,H,I,J],_=>
 match h,j with
 |[K,L,M,N],_=>
  have b:=n 0 _ rfl;have c:=n 1 _ rfl;have d:=n 2 _ rfl;have e:=n 3 _ rfl;simp only[m,List.drop_zero,List.drop_succ_cons,Zw,List.take_zero,List.take_nil,ZJ,ZZ]at b c d e;obtain⟨o,p,-,q⟩:=DataW.trod_int Tryz.underlying3 b;obtain⟨z1,r,-,s⟩:=DataW.trod_int Tryz.underlying3 c;obtain⟨t,u,-,v⟩:=DataW.trod_int Tryz.underlying3 d;obtain⟨w,x,-,y⟩:=DataW.trod_int Tryz.underlying3 e
  cases p;cases r;cases u;cases x
  exact⟨⟨o,z1,t,w⟩,rfl,br q,br s,br v,br y⟩
def Pt:Reads PP sJ 121:=λL f M P a cs N g h=>by
 obtain⟨i,O,_,rfl,j,k,n⟩:=DataW.trod_struct (Tryz.underlying121) g;have l:Tryz.prog.cellsOf 121=4:=kR
 have m:cs.length=4:=j.trans l;have o:Tryz.prog.cellsOf 3=1:=kR
 have p:Tryz.prog.cellsOf 4=1:=kR
 have q:Tryz.prog.cellsOf 119=1:=kR
 match cs,m with
 |[Q,R,S,T],_=>
 match i,k with
 |[U,V,W,r],_=>
  have b:=n 0 _ rfl;have c:=n 1 _ rfl;have d:=n 2 _ rfl;have e:=n 3 _ rfl;simp only[o,p,q,List.drop_zero,List.drop_succ_cons,Zw,List.take_zero,List.take_nil,ZJ,ZZ]at b c d e;obtain⟨s,t,-,u⟩:=DataW.trod_int Tryz.underlying3 b;obtain⟨z1,v,-,w⟩:=DataW.trod_int Tryz.underlying3 c;obtain⟨x,y,-⟩:=DataW.trod_bool Tryz.underlying4 d;have z:mI PP 119 r.1:=by
   intro A B;refine h A ?_;have C:Tryz.prog.underlying 121=_:=Tryz.underlying121;simp only[DataW.weights,C,QY,List.map_nil,DataW.weightsEach,Q6];right;right;right;left;exact B
  obtain⟨E,F,H,I,J,-,-,K⟩:=open_row (bytes:=32) Tryz.underlying119 kR dC kR (Mu) e z
  cases t;cases v;cases y;cases J
  exact⟨⟨s,z1,x,I⟩,E,F,H,rfl,K,br u,br w⟩
def Pu:Reads PP nz 118:=λx b y n P cs z c d=>by
 obtain⟨e,A,_,rfl,f,g,h⟩:=DataW.trod_struct (Tryz.underlying118) c;have i:Tryz.prog.cellsOf 118=1:=kR
 have j:cs.length=1:=f.trans i;have k:Tryz.prog.cellsOf 116=1:=kR
 match cs,j with
 |[B],_=>
 match e,g with
 |[l],_=>
  have a:=h 0 _ rfl;simp only[k,List.drop_zero,List.drop_succ_cons,Zw,List.take_zero,List.take_nil,ZJ,ZZ]at a;have m:mI PP 116 l.1:=by
   intro o p;refine d o ?_;have q:Tryz.prog.underlying 118=_:=Tryz.underlying118;simp only[DataW.weights,q,QY,List.map_nil,DataW.weightsEach,Q6];left;exact p
  obtain⟨r,s,t,u,v,-,-,w⟩:=open_row (bytes:=48) Tryz.underlying116 kR dC kR (Pt) a m
  cases v
  exact⟨u,r,s,t,rfl,w⟩
def Mv:Reads PP Ci 138:=λE g F P a cs H h I=>by
 obtain⟨i,J,_,rfl,j,k,n⟩:=DataW.trod_struct (Tryz.underlying138) h;have l:Tryz.prog.cellsOf 138=5:=kR
 have m:cs.length=5:=j.trans l;have o:Tryz.prog.cellsOf 3=1:=kR
 match cs,m with
 |[K,L,M,N,O],_=>
 match i,k with
 |[Q,R,S,T,U],_=>
  have b:=n 0 _ rfl;have c:=n 1 _ rfl;have d:=n 2 _ rfl;have e:=n 3 _ rfl;have f:=n 4 _ rfl;simp only[o,List.drop_zero,List.drop_succ_cons,Zw,List.take_zero,List.take_nil,ZJ,ZZ]at b c d e f;obtain⟨p,q,-,r⟩:=DataW.trod_int Tryz.underlying3 b;obtain⟨z1,s,-,t⟩:=DataW.trod_int Tryz.underlying3 c;obtain⟨u,v,-,w⟩:=DataW.trod_int Tryz.underlying3 d;obtain⟨x,y,-,z⟩:=DataW.trod_int Tryz.underlying3 e;obtain⟨A,B,-,C⟩:=DataW.trod_int Tryz.underlying3 f
  cases q;cases s;cases v;cases y;cases B
  exact⟨⟨p,z1,u,x,A⟩,rfl,br r,br t,br w,br z,br C⟩
def Mw:Reads PP Yc 25:=λI h J b c cs K i d=>by
 obtain⟨j,L,_,rfl,k,l,e⟩:=DataW.trod_struct (Tryz.underlying25) i;have m:Tryz.prog.cellsOf 25=2:=kR
 have o:cs.length=2:=k.trans m;have p:Tryz.prog.cellsOf 22=1:=kR
 have q:Tryz.prog.cellsOf 23=1:=kR
 match cs,o with
 |[M,N],_=>
 match j,l with
 |[r,s],_=>
  have f:=e 0 _ rfl;have g:=e 1 _ rfl;simp only[p,q,List.drop_zero,List.drop_succ_cons,Zw,List.take_zero,List.take_nil,ZJ,ZZ]at f g;have t:mI PP 22 r.1:=by
   intro n P;refine d n ?_;have a:Tryz.prog.underlying 25=_:=Tryz.underlying25;simp only[DataW.weights,a,QY,List.map_nil,DataW.weightsEach,Q6];left;exact P
  obtain⟨u,v,w,x,y,-,-,z⟩:=open_row (bytes:=24) Tryz.underlying22 kR dC kR (Pu) f t;have A:mI PP 23 s.1:=by
   intro n P;refine d n ?_;have a:Tryz.prog.underlying 25=_:=Tryz.underlying25;simp only[DataW.weights,a,QY,List.map_nil,DataW.weightsEach,Q6];right;left;exact P
  obtain⟨B,C,E,z1,F,-,-,H⟩:=open_row (bytes:=40) Tryz.underlying23 kR dC kR (Mv) g A
  cases y;cases F
  exact⟨⟨x,z1⟩,u,v,w,B,C,E,rfl,⟨z,H⟩⟩
def Pv:Reads PP ZS 27:=λl a m P b cs a0 o p=>by
 obtain⟨q,n2,_,rfl,r,s,n⟩:=DataW.trod_struct (Tryz.underlying27) o;have t:Tryz.prog.cellsOf 27=10:=kR
 have u:cs.length=10:=r.trans t;have v:Tryz.prog.cellsOf 3=1:=kR
 have w:Tryz.prog.cellsOf 25=2:=kR
 match cs,u with
 |[v0,v1,v2,v3,v4,v5,v6,v7,v8,v9],_=>
 match q,s with
 |[y0,y1,y2,y3,y4,y5,y6,y7,x],_=>
  have c:=n 0 _ rfl;have d:=n 1 _ rfl;have e:=n 2 _ rfl;have f:=n 3 _ rfl;have g:=n 4 _ rfl;have h:=n 5 _ rfl;have i:=n 6 _ rfl;have j:=n 7 _ rfl;have k:=n 8 _ rfl;simp only[v,w,List.drop_zero,List.drop_succ_cons,Zw,List.take_zero,List.take_nil,ZJ,ZZ]at c d e f g h i j k;obtain⟨y,z,-,A⟩:=DataW.trod_int Tryz.underlying3 c;obtain⟨z1,B,-,C⟩:=DataW.trod_int Tryz.underlying3 d;obtain⟨E,F,-,H⟩:=DataW.trod_int Tryz.underlying3 e;obtain⟨I,J,-,K⟩:=DataW.trod_int Tryz.underlying3 f;obtain⟨L,M,-,N⟩:=DataW.trod_int Tryz.underlying3 g;obtain⟨O,Q,-,R⟩:=DataW.trod_int Tryz.underlying3 h;obtain⟨S,T,-,U⟩:=DataW.trod_int Tryz.underlying3 i;obtain⟨V,W,-,X⟩:=DataW.trod_int Tryz.underlying3 j;have Y:mI PP 25 x.1:=by
   intro Z hq;refine p Z ?_;have hu:Tryz.prog.underlying 27=_:=Tryz.underlying27;simp only[DataW.weights,hu,QY,List.map_nil,DataW.weightsEach,Q6];right;right;right;right;right;right;right;right;left;exact hq
  obtain⟨z8,r8⟩:=Mw l a m P _ _ _ k Y
  cases z;cases B;cases F;cases J;cases M;cases Q;cases T;cases W
  obtain⟨ta,tn,tc,pa,pn,pc,he,hd⟩:=r8
  cases he
  exact⟨⟨y,z1,E,I,L,O,S,V,z8⟩,ta,tn,tc,pa,pn,pc,rfl,hd,br A,br C,br H,br K,br N,br R,br U,br X⟩
def Pw:Reads PP ZT 38:=λM i N P a cs O j Q=>by
 obtain⟨k,R,_,rfl,l,m,n⟩:=DataW.trod_struct (Tryz.underlying38) j;have o:Tryz.prog.cellsOf 38=7:=kR
 have p:cs.length=7:=l.trans o;have q:Tryz.prog.cellsOf 3=1:=kR
 match cs,p with
 |[S,T,U,V,W,X,Y],_=>
 match k,m with
 |[Z,y1,y2,y3,y4,y5,y6],_=>
  have b:=n 0 _ rfl;have c:=n 1 _ rfl;have d:=n 2 _ rfl;have e:=n 3 _ rfl;have f:=n 4 _ rfl;have g:=n 5 _ rfl;have h:=n 6 _ rfl;simp only[q,List.drop_zero,List.drop_succ_cons,Zw,List.take_zero,List.take_nil,ZJ,ZZ]at b c d e f g h;obtain⟨r,s,-,t⟩:=DataW.trod_int Tryz.underlying3 b;obtain⟨z1,u,-,v⟩:=DataW.trod_int Tryz.underlying3 c;obtain⟨w,x,-,y⟩:=DataW.trod_int Tryz.underlying3 d;obtain⟨z,A,-,B⟩:=DataW.trod_int Tryz.underlying3 e;obtain⟨C,E,-,F⟩:=DataW.trod_int Tryz.underlying3 f;obtain⟨H,I,-,w5⟩:=DataW.trod_int Tryz.underlying3 g;obtain⟨J,K,-,L⟩:=DataW.trod_int Tryz.underlying3 h
  cases s;cases u;cases x;cases A;cases E;cases I;cases K
  exact⟨⟨r,z1,w,z,C,H,J⟩,rfl,br t,br v,br y,br B,br F,br L⟩
end
section
open Go.ar
def Yd:ks (bN×List fR) where
 k:=11
 rep:=λo D i cs=>∃n tn d P a e b c f,cs=lu i.1 n tn d P a e b c f/\bu o D i.1.decl n tn P a/\Yb i.1/\Row IM 80 o D b c i.2
 keep:=λ⟨n,tn,d,P,a,e,b,c,f,g,j,k,l⟩ p h=>⟨n,tn,d,P,a,e,b,c,f,g,j.keep p h,k,l.keep p h⟩
 mono:=λ⟨n,tn,d,P,a,e,b,c,f,g,j,k,l⟩ h=>⟨n,tn,d,P,a,e,b,c,f,g,j.mono h,k,l.mono h⟩
 len:=λ⟨n,tn,d,P,a,e,b,c,f,g,_⟩=>by rw[g];rfl
 one:=λ⟨n,tn,d,P,a,e,b,c,f,g,_⟩ q m=>by rw[g]at m;simp[lu,eV]at m;rcases m with rfl|rfl|rfl|rfl|rfl|rfl|rfl|rfl|rfl|rfl|rfl<;>rfl
def Mx:Reads PP IM 40:=λh a i n b cs L j k=>by
 obtain⟨l,M,_,rfl,m,o,P⟩:=DataW.trod_struct (Tryz.underlying40) j;have p:Tryz.prog.cellsOf 40=10:=kR
 have q:cs.length=10:=m.trans p;have r:Tryz.prog.cellsOf 3=1:=kR
 have s:Tryz.prog.cellsOf 38=7:=kR
 match cs,q with
 |[N,O,Q,R,S,T,U,V,W,X],_=>
 match l,o with
 |[Y,Z,y2,t],_=>
  have c:=P 0 _ rfl;have d:=P 1 _ rfl;have e:=P 2 _ rfl;have f:=P 3 _ rfl;simp only[r,s,List.drop_zero,List.drop_succ_cons,Zw,List.take_zero,List.take_nil,ZJ,ZZ]at c d e f;obtain⟨u,v,-,w⟩:=DataW.trod_int Tryz.underlying3 c;obtain⟨z1,x,-,y⟩:=DataW.trod_int Tryz.underlying3 d;obtain⟨z,A,-,B⟩:=DataW.trod_int Tryz.underlying3 e;have C:mI PP 38 t.1:=by
   intro E F;refine k E ?_;have H:Tryz.prog.underlying 40=_:=Tryz.underlying40;simp only[DataW.weights,H,QY,List.map_nil,DataW.weightsEach,Q6];right;right;right;left;exact F
  obtain⟨I,J⟩:=Pw h a i n _ _ _ f C
  cases v;cases x;cases A
  obtain⟨g,K⟩:=J;simp only[iS,List.cons.injEq,and_true]at g;obtain⟨rfl,rfl,rfl,rfl,rfl,rfl,rfl⟩:=g;exact⟨⟨u,z1,z,I⟩,rfl,br w,br y,br B,K⟩
def LH:Reads PP Yd 30:=λj P k n d cs O l e=>by
 obtain⟨m,Q,_,rfl,o,p,f⟩:=DataW.trod_struct (Tryz.underlying30) l;have q:Tryz.prog.cellsOf 30=11:=kR
 have r:cs.length=11:=o.trans q;have s:Tryz.prog.cellsOf 27=10:=kR
 have t:Tryz.prog.cellsOf 28=1:=kR
 match cs,r with
 |[R,S,T,U,V,W,X,Y,Z,v9,a0],_=>
 match m,p with
 |[u,v],_=>
  have g:=f 0 _ rfl;have h:=f 1 _ rfl;simp only[s,t,List.drop_zero,List.drop_succ_cons,Zw,List.take_zero,List.take_nil,ZJ,ZZ]at g h;have w:mI PP 27 u.1:=by
   intro a b;refine e a ?_;have c:Tryz.prog.underlying 30=_:=Tryz.underlying30;simp only[DataW.weights,c,QY,List.map_nil,DataW.weightsEach,Q6];left;exact b
  obtain⟨x,y⟩:=Pv j P k n _ _ _ g w;have z:mI PP 28 v.1:=by
   intro a b;refine e a ?_;have c:Tryz.prog.underlying 30=_:=Tryz.underlying30;simp only[DataW.weights,c,QY,List.map_nil,DataW.weightsEach,Q6];right;left;exact b
  obtain⟨A,B,C,z1,E,-,-,F⟩:=open_row (bytes:=80) Tryz.underlying28 kR dC kR (Mx) h z
  cases E
  obtain⟨H,tn,I,J,K,L,i,M,N⟩:=y;simp only[eV,List.cons.injEq,and_true]at i;obtain⟨rfl,rfl,rfl,rfl,rfl,rfl,rfl,rfl,rfl,rfl⟩:=i;exact⟨(x,z1),H,tn,I,J,K,L,A,B,C,rfl,M,N,F⟩

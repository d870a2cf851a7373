import Derived.Test.YtjgjkeponbeekaaGreatDoorKj19
import Derived.Test.YtjgjkeponbeekaaGreatDoorYjQue
set_option maxHeartbeats 4000000
set_option linter.all false
set_option maxRecDepth 100000
open Go.IntKind renaming wrap→PP
namespace Go.Proofs.YtjgjkeponbeekaaGreatDoor
open Go.aw
def KA:aT:=⟨[[⟨1,1,true,[]⟩,⟨2,3,false,[]⟩,⟨3,2,false,[]⟩,⟨4,2,false,[⟨0,1,0,2⟩,⟨1,0,-1,0⟩,⟨0,2,-1,0⟩]⟩,⟨2,2,false,[]⟩,⟨1,1,false,[]⟩]],[⟨0,0,1,0,2⟩,⟨0,2,2,0,1⟩,⟨0,5,3,4,4⟩]⟩
def gM(n:Int):bL:=⟨n,131072,400,3,20,5,4,0,KA⟩
variable{m:Array Value}{K:Bool}{w:ByteArray}{A:am}{M e r:Int}{a5:List PanicEntry->ba}{u:List UInt8}{F:List ah}{a8:List bV}{d9:List bg}{E a c c3 i q:Nat}{f:UK}{C:Nat×Nat}{d e5 x:bc}{e7:Option bV}{j:Type}{g:TypeId}{Q:Value->Prop}{o:ac}{b:World}{g7:World->(UK)->dE->Prop}{h7:World->ba}{N l:ah}{g4:ak->bO->Int×ak}{H:au}{e6:bV}{d8:bg}
def Row.AJ{c:ky j}{bytes n:Nat}{D:UK}(d:b.heap[n]? =some (.cells m g C)){xs:List j}(k:bY c b D xs m.toList)(q:0<c.k)(P:xs.length*bytes<=aR):Row c bytes b (λa=>a=n\/D a) (UV n) xs.length xs:=
 ⟨rfl,P,λr s l=>by
  obtain⟨e,o,f⟩:=k.at l;have t:=c.len f;refine⟨n,0,e,rfl,aA d,.inl rfl,λh p=>?_,c.mono f λa P=>.inr P⟩;have i:=o h p;rw[Qq (show h<e.length by omega)]at i⊢;rw[Xz];exact ae d (by simpa using i)⟩
def i10(n:(decide (-1000000<=e)&&decide (e<=1000000))=true):aM e:=by
 simp only[QK,Zk]at n;unfold aM;omega
section
variable {w w' w0:World}
def Nc:be 60 #[] w (Ok λu w'=>∃m tn v o p x G,u= .agg #[.slice m tn v,.slice o p x]/\bu w' G KA m tn o p/\(∀n,G n->w.heap.size<=n/\n<w'.heap.size)/\ai w w'):=by
 refine GJ (PA.mk λb y V z=>PA.mk λd A W B=>PA.mk λf q X C=>PA.mk λg k Y E=>PA.mk λr h Z F=>?_);have s:=((A.then q).then k).then h;refine PS.mk (s.get z id) sM λw6 H s6 I=>PS.mk I sM λc J s7 t=>⟨_,_,_,_,_,_,ae t rfl,ae t rfl,?_⟩
 have e:aj (λn=>n=w.heap.size) r c:=H.then J;have K:=e.get (h.get (k.get (q.get B id) id) id) (λP=>by have P:b.heap.size=w.heap.size:=P;omega);have L:=e.get (h.get (k.get C id) id) (λP=>by have P:d.heap.size=w.heap.size:=P;omega);have M:=e.get (h.get E id) (λP=>by have P:f.heap.size=w.heap.size:=P;omega);have N:=e.get F (λP=>by have P:g.heap.size=w.heap.size:=P;omega);have O:Row jv 32 c (λn=>n=b.heap.size\/False) (UV b.heap.size) 3 [⟨0,1,0,2⟩,⟨1,0,-1,0⟩,⟨0,2,-1,0⟩]:=
  Row.AJ (c:=jv) (xs:=[⟨0,1,0,2⟩,⟨1,0,-1,0⟩,⟨0,2,-1,0⟩]) (D:=λ_=>False) K ⟨_,_,rfl,⟨rfl,i10 rfl,i10 rfl,i10 rfl,i10 rfl⟩,_,_,rfl,⟨rfl,i10 rfl,i10 rfl,i10 rfl,i10 rfl⟩,_,_,rfl,⟨rfl,i10 rfl,i10 rfl,i10 rfl,i10 rfl⟩,rfl⟩ dC dC
 have Q:Row sL 48 c (λn=>n=d.heap.size\/n=b.heap.size\/False) (UV d.heap.size) 6 [⟨1,1,true,[]⟩,⟨2,3,false,[]⟩,⟨3,2,false,[]⟩,⟨4,2,false,[⟨0,1,0,2⟩,⟨1,0,-1,0⟩,⟨0,2,-1,0⟩]⟩,⟨2,2,false,[]⟩,⟨1,1,false,[]⟩]:=by
  have no:∀(i j:Int) (l:Bool),aM i->aM j->sL.rep c (λn=>n=b.heap.size\/False) ⟨i,j,l,[]⟩ [WP i,WP j,.bool l,.slice none 0 0]:=λi j l R S=>⟨none,0,0,rfl,dA _ _,R,S⟩
  exact Row.AJ (c:=sL) (xs:=[⟨1,1,true,[]⟩,⟨2,3,false,[]⟩,⟨3,2,false,[]⟩,⟨4,2,false,[⟨0,1,0,2⟩,⟨1,0,-1,0⟩,⟨0,2,-1,0⟩]⟩,⟨2,2,false,[]⟩,⟨1,1,false,[]⟩]) (D:=λn=>n=b.heap.size\/False) L ⟨_,_,rfl,no 1 1 true (i10 rfl) (i10 rfl),_,_,rfl,no 2 3 false (i10 rfl) (i10 rfl),_,_,rfl,no 3 2 false (i10 rfl) (i10 rfl),_,_,rfl,⟨_,_,_,rfl,O,i10 rfl,i10 rfl⟩,_,_,rfl,no 2 2 false (i10 rfl) (i10 rfl),_,_,rfl,no 1 1 false (i10 rfl) (i10 rfl),rfl⟩ dC dC
 have T:Row BZ 40 c (λn=>n=f.heap.size\/False) (UV f.heap.size) 3 KA.projs:=
  Row.AJ (c:=BZ) (xs:=[⟨0,0,1,0,2⟩,⟨0,2,2,0,1⟩,⟨0,5,3,4,4⟩]) (D:=λ_=>False) M ⟨_,_,rfl,⟨rfl,i10 rfl,i10 rfl,i10 rfl,i10 rfl,i10 rfl⟩,_,_,rfl,⟨rfl,i10 rfl,i10 rfl,i10 rfl,i10 rfl,i10 rfl⟩,_,_,rfl,⟨rfl,i10 rfl,i10 rfl,i10 rfl,i10 rfl,i10 rfl⟩,rfl⟩ dC dC
 have U:Row nJ 24 c (λn=>n=g.heap.size\/n=d.heap.size\/n=b.heap.size\/False) (UV g.heap.size) 1 KA.types:=
  Row.AJ (c:=nJ) (xs:=[[⟨1,1,true,[]⟩,⟨2,3,false,[]⟩,⟨3,2,false,[]⟩,⟨4,2,false,[⟨0,1,0,2⟩,⟨1,0,-1,0⟩,⟨0,2,-1,0⟩]⟩,⟨2,2,false,[]⟩,⟨1,1,false,[]⟩]]) (D:=λn=>n=d.heap.size\/n=b.heap.size\/False) N ⟨_,_,rfl,⟨_,_,_,rfl,Q⟩,rfl⟩ dC dC
 refine Ok.mk ⟨_,_,_,_,_,_,λn=>(n=g.heap.size\/n=d.heap.size\/n=b.heap.size\/False)\/n=f.heap.size\/False,rfl,⟨U.mono λn a=>.inl a,T.mono λn a=>.inr a⟩,λn a=>?_,?_⟩
 ·have z7:c.heap.size=r.heap.size:=oM
  rcases a with(rfl|rfl|rfl|a)|rfl|a<;>first|omega|exact a.elim
 ·exact(y.then s).new e λn a=>.inr (by have a:n=w.heap.size:=a;omega)
def KB:be 24 #[WP e] w (Ok λk w'=>∃P tn d a b f G,k=xm (gM e) P tn d a b f/\bu w' G KA P tn a b/\(∀n,G n->w.heap.size<=n/\n<w'.heap.size)/\ai w w'):=by
 refine DD (PA.mk λq l r m=>PC.ok Nc ?_);rintro _ s ⟨P,tn,d,a,b,f,G,rfl,o,g,h⟩;refine⟨_,_,_,_,_,_,rfl,aD (IA (gM e) P tn d a b f) (h.get m id) rfl λt i u p=>ar (IA (gM e) P tn d a b f) p (Ok.mk ⟨P,tn,d,a,b,f,G,rfl,o.keep i λn c j=>by have j:n=w.heap.size:=j;have:=g n c;omega,λn c=>by have:=g n c;omega,(l.then h).new i λn c=>.inr (by have c:n=w.heap.size:=c;omega)⟩)⟩
end
section
variable {w w' w0:World} {p q:Nat} {F G D E:UK} {c e:bL} {self other:Int} {X Y:bg}
def Lp(c:bL)(self:Int):(cC c self).2.gI.asked=[]:=by
 have n:(Cg c).2.gI.asked=[]:=by unfold Cg;rw[yw]
 unfold cC;split
 ·exact n
 split<;>exact n
def bX.cl(n:bX w p F c self X):X.S.Cl/\X.S.n=c.aC.toNat:=by
 obtain⟨b,d,P,a⟩:=n;exact(a.at' 3).2
def bX.len(a:bX w p F c self X):X.S.l.length<=20000000:=by
 obtain⟨f,b,n,d⟩:=a;have e:df w b.bp (λP=>F P/\n P=4) c.decl c.every.toNat X.S.l:=d.at' 4;exact e.1.2.2.2
def bX.dok(b:bX w p F c self X):X.D.Ok:=by
 obtain⟨f,P,n,d⟩:=b;obtain⟨Fd,e,-⟩:=(show DL w (λa=>F a/\n a=2) P.dp P.lp X.D X.log from d.at' 2)
 exact e.ok
end
section
variable {w w' w0 w1 w2 wb:World} {p i k g:Nat} {F F1 F' G G' T D:UK} {cls cls':Nat->Nat} {h:KX} {c:bL} {X:dE} {s:fV} {x:iK} {v:Value} {r:iK×dE} {now:Int} {rs:List (Nat×bg)} {dq:List bV} {y:Nat×bg} {R R':bg} {aC:List bg}
def nd.base(b:nd w1 f x v w2)(r:w.heap.size<=w1.heap.size):nd w f x v w2:=by
 obtain⟨c,d,e,g,h,i,j,k,l,G,m,o,p,q,n⟩:=b;exact⟨c,d,e,g,h,i,j,k,l,G,m,o,p,q,λP a=>⟨by have:=(n P a).1;omega,(n P a).2⟩⟩
def nd.new(b:gP w x v w2)(c:∀n,f n->n<w.heap.size):nd w f x v w2:=by
 obtain⟨d,e,g,h,i,j,k,l,m,G,o,p,q,r,P⟩:=b;exact⟨d,e,g,h,i,j,k,l,m,G,o,p,q,r,λn a=>⟨(P n a).1,(P n a).2,λs=>by have:=c n s;have:=P n a;omega⟩⟩
def Bi{n:ky j}{bytes:Nat}(h:Row n bytes w D d a []):Row n bytes w (λ_=>False) d a []:=by
 have:=h.len;simp at this;subst this;exact⟨rfl,by unfold aR;omega,λi y P=>by simp at P⟩
def nd.flat(e:gP w x v w2)(n:x.st.cells=[])(P:x.K_=[])(a:x.rows=[]):nd w f x v w2:=by
 obtain⟨g,h,i,j,k,l,m,o,p,G,q,b,c,d,s⟩:=e;rw[n]at b;rw[P]at c;rw[a]at d;exact⟨g,h,i,j,k,l,m,o,p,λ_=>False,q,by rw[n];exact Bi b,by rw[P];exact Bi c,by rw[a];exact Bi d,λt r=>r.elim⟩
def V_(s:nd wb f x v w1)(t:w1.heap[g]? =some (.cells m 53 (0,0)))(u:8=m.size)(E:g<wb.heap.size)(w:∀w2,aj (·=g) w1 w2->nd wb f x v w2->o v w2):
  w_ (eE LL 53) λy=>v=y/\oJ LL 53 (RK g) y w1 λw2=>jW LL 53 (RK g) w2 λr=>Ok o (.returned r) w2:=by
 obtain⟨a,b,c,d,e,h,i,j,k,G,rfl,z,A,B,l⟩:=s;have q:∀n,G n->¬n=g:=λn P F=>by have:=l n P;omega
 exact cA (Rn x a b c d e h i j k) ⟨rfl,aD (iU x a b c d e h i j k) t u λw2 p H C=>ar (iU x a b c d e h i j k) C (Ok.mk (w w2 p ⟨a,b,c,d,e,h,i,j,k,G,rfl,z.keep p q,A.keep p q,B.keep p q,λn P=>⟨(l n P).1,by have:=(l n P).2.1;omega,(l n P).2.2⟩⟩))⟩
def TS(i:Rm g7 a)(j:Nn g7 wb F1 k r v w1)(c:cz F w F1 wb)(A:a<=w.heap.size)(d:wb.heap[g]? =some (.cells m 53 (0,0)))(l:8=m.size)(B:w.heap.size<=g)(e:¬F1 g):
  w_ (eE LL 53) λy=>v=y/\oJ LL 53 (RK g) y w1 λw2=>jW LL 53 (RK g) w2 λo=>Ok (Nn g7 w F k r) (.returned o) w2:=by
 obtain⟨p,q,s,t,b⟩:=j;have u:=aA d;exact V_ q (b.keep.get d e) l u λw2 f x=>⟨p,x.base c.keep.size,i _ _ _ _ _ s f (λP z n=>by have n:P=g:=n;subst n;exact(b.new P z).elim e λh=>oM) (λP n=>by have n:P=g:=n;omega),t,(c.trans b).last f λP n=>by have n:P=g:=n;omega⟩
def Wa(c:Rm g7 a){no:Int}(d:g7 w1 F1 X)(e:fX k X)(f:cz F w F1 w1)(q:a<=w.heap.size)(h:w1.heap[g]? =some (.cells m 53 (0,0)))(i:8=m.size)(r:w.heap.size<=g)(j:¬F1 g):
  oJ LL 53 (RK g) (.agg #[WP no,WP 0,WP 0,WP 0,.slice none 0 0,.slice none 0 0,.slice none 0 0,.bool false]) w1 λw2=>jW LL 53 (RK g) w2 λl=>Ok (Nn g7 w F k (bN no,X)) (.returned l) w2:=
 aD (iU (bN no) none 0 0 none 0 0 none 0 0) h i λw2 b s o=>ar (iU (bN no) none 0 0 none 0 0 none 0 0) o (Ok.mk ⟨F1,.flat (gP.plain rfl rfl rfl) rfl rfl rfl,c _ _ _ _ _ d b (λP p n=>by have n:P=g:=n;subst n;exact j p) (λP n=>by have n:P=g:=n;omega),e,f.last b λP n=>by have n:P=g:=n;omega⟩)
def qP(n:jq w0 wb p F1 c k r v w1)(P:cz F w F1 wb)(a:w0.heap.size<=w.heap.size)(b:wb.heap[g]? =some (.cells m 53 (0,0)))(d:8=m.size)(e:w.heap.size<=g)(f:¬F1 g):
  w_ (eE LL 53) λy=>v=y/\oJ LL 53 (RK g) y w1 λw2=>jW LL 53 (RK g) w2 λh=>Ok (jq w0 w p F c k r) (.returned h) w2:=TS Es n P a b d e f
def Gw(n:cB w0 w1 p F1 c X)(P:fX k X)(a:cz F w F1 w1)(b:w0.heap.size<=w.heap.size)(d:w1.heap[g]? =some (.cells m 53 (0,0)))(e:8=m.size)(f:w.heap.size<=g)(h:¬F1 g):
  oJ LL 53 (RK g) (.agg #[WP 0,WP 0,WP 0,WP 0,.slice none 0 0,.slice none 0 0,.slice none 0 0,.bool false]) w1 λw2=>jW LL 53 (RK g) w2 λi=>Ok (jq w0 w p F c k (bN 0,X)) (.returned i) w2:=Wa Es n P a b d e f h
def Ro{no:Int}:be 35 #[WP no] w (Ok λv w'=>gP w (bN no) v w'/\ai w w'):=
 Bj (PA.mk λw2 P e a=>aD (iU (bN no) none 0 0 none 0 0 none 0 0) a rfl λf b g c=>ar (iU (bN no) none 0 0 none 0 0 none 0 0) c (Ok.mk ⟨gP.plain rfl rfl rfl,P.new b λd n=>.inr (by have n:d=w.heap.size:=n;omega)⟩))
def iC{no:Int}(P:cB w0 w p F c X)(a:fX k X):be 35 #[WP no] w (Ok (jq w0 w p F c k (bN no,X))):=
 Calls.ok Ro λv w' ⟨b,n⟩=>⟨F,.flat b rfl rfl rfl,P.af n,a,cz.of n⟩
def Gx:(fO d9 e).isSome=decide (0<=e/\e<d9.length):=by
 by_cases h:0<=e/\e<d9.length
 ·rw[Zy h];unfold fO
  rw[Zx h.1,Qq oM];rfl
 ·rw[Xv h,La.2 oM];rfl
def cX.n(n:cX w F cls p h now c rs dq)(P:h.ps=rs.map (·.1)):h.n=rs.length:=by
 have:=n.nG.len dC;rw[P,Q8]at this;exact this
def ss(b:cB w0 w p F c X):be 27 #[RK p,WP e] w (Ok λv w'=>v= .bool (fO X.aC e).isSome/\w=w'):=by
 obtain⟨h,cls,rs,a,d,f,i,j,k⟩:=b;have g:=a.n d;rw[Gx,f,Q8];refine nW (al.dec (λP=>⟨p,0,rfl,_,_,_,ae a.cell rfl,Ok.mk ⟨?_,rfl⟩⟩) (λP=>Ok.mk ⟨?_,rfl⟩))
 ·rw[g];congr 1;exact decide_eq_decide.2 ⟨λn=>⟨P,n⟩,λn=>n.2⟩
 ·congr 1;exact(Xv λn=>P n.1).symm
def cX.ptr(b:cX w F cls p h now c rs dq)(d:h.ps=rs.map (·.1))(f:rs[i]? =some y)(q:rs.length<=1000):∃n P,h.a=some ⟨n,P,none⟩/\i<h.n/\w.cell? ⟨n,P+i,none⟩=some (RK y.1)/\F n/\cls n=0:=by
 have r:=b.n d;have s:=(Qv.1 f).1;obtain⟨n,P,g,t,j,-,k,a,e,l⟩:=(b.nG.row (bytes:=8) dC (by rw[d,Q8];unfold aR;omega)).Iq (i:=i) oM;have m:g=y.1:=by rw[d,Q9,f]at a;injection a with a;exact a.symm
 obtain⟨rfl,-⟩:=l;have e:=e 0 dC;subst m;have o:=b.c0.2.2.2 n k;exact⟨n,P,j,oM,by simpa[show Yx.k=1 from rfl]using e,o.1⟩
def cX.self(n:cX w F cls p h now c rs dq):F p/\cls p=0:=n.c0.1
def ng{c g:Type}{f:c->g}:∀{n:List c} {d:Nat} {a b:c},n[d]? =some a->f b=f a->(n.set d b).map f=n.map f
 |x::n,0,a,b,P,e=>by simp at P;subst P;simp[e]
 |x::n,d+1,a,b,P,e=>by simp at P;simp[ng P e]
def cB.Lb(n:cX w F cls p h now c (rs.set i (y.1,R')) dq)(P:rs[i]? =some y)(a:h.ps=rs.map (·.1))(b:aC=rs.map (·.2))(d:rs.length=c.aC.toNat)(e:kf c 0)(f:Env w0 w F):cB w0 w p F c ⟨aC.set (i:Int).toNat R',dq,now⟩:=
 ⟨h,cls,_,n,by rw[a];exact(ng (f:=(·.1)) (b:=(y.1,R')) P rfl).symm,by dsimp only;rw[b,List.map_set,Qx],by rw[List.length_set];exact d,e,f⟩
def jq.rep{R':bg}(e:cX w F cls p h X.now c rs X.dq)(f:h.ps=rs.map (·.1))(g:X.aC=rs.map (·.2))(j:rs.length=c.aC.toNat)(l:kf c 0)(m:Env w0 w F)(a:rs[i]? =some y)(o:gP w x v w')(q:x.st.cells=[])(r:x.K_=[])(s:x.rows=[])(t:bX w' y.1 G' c i R')(u:cz (λb=>F b/\cls b=i+2) w G' w')(n:fX k X)(z:Fit (k+1) R'):
  jq w0 w p F c (k+1) (x,⟨X.aC.set (i:Int).toNat R',X.dq,X.now⟩) v w':=by
 obtain⟨F1,E,P,d,H,-⟩:=Er e fH a t u;refine⟨F1,.flat o q r s,cB.Lb P a f g j l (m.iJ d),?_,d⟩;exact⟨λA B=>(List.mem_or_eq_of_mem_set B).elim (λP=>(n.aC A P).mono) λC=>C▸z,n.Le,by have h:=n.now;show X.now<=_;omega⟩
def Ir(a:au)(n:Int)(P:bV)(b:Int):(mM a n P b).length<=2:=by
 have d:∀(c:Prop) [Decidable c] (e:bV),(if c then [e]else([]:List bV)).length<=1:=λc _ e=>by split<;>simp
 unfold mM
 by_cases f:P.kind≠1/\P.kind≠2
 ·rw[Zx f];simp
 rw[Zq f];have h:=d (0<(a.missing P.vec (max 1 (min b 32))).length) ⟨3,n,P.bM,[],a.missing P.vec (max 1 (min b 32))⟩;have i:=d (P.kind=1/\(nh P.vec a.vec=2\/nh P.vec a.vec=3)) ⟨2,n,P.bM,a.vec,[]⟩;dsimp only;generalize(if 0<(a.missing P.vec (max 1 (min b 32))).length then [(⟨3,n,P.bM,[],a.missing P.vec (max 1 (min b 32))⟩:bV)]else [])=j at h;generalize(if P.kind=1/\(nh P.vec a.vec=2\/nh P.vec a.vec=3)then [(⟨2,n,P.bM,a.vec,[]⟩:bV)]else [])=k at i
 by_cases g:(j++k).isEmpty=true
 ·rw[Zx g];simp
 ·rw[Zq g,QX];omega
def Is(c:bL)(n:Int)(X:bg)(P:bV):(cu c n X P).1.length<=2:=by
 unfold cu
 cases X.log with
 |none=>simp
 |some a=>
  dsimp only;split
  ·simp
  split
  ·simp
  split
  ·unfold lH
   dsimp only;split
   ·simp
   split<;>simp
  split
  ·exact Ir _ _ _ _
  split<;>simp
def xl(n:cX w F cls p h now c rs dq)(P:rs[i]? =some y)(b:F a/\cls a=0):¬(F a/\cls a=i+2):=λd=>by omega
def Et(m:cB w0 w p F c X)(o:fX k X)(hk:k<=1000)(b:Option bV){x z:bc}{A M B N:Nat}(hv:Row aP 8 w D x A (b.getD vq).vec)(b1:Row lb 96 w D z B (b.getD vq).events)(q:∀P,D P->P<w.heap.size/\¬F P):
  be 61 #[RK p,iV (b.getD vq) x A M z B N,.bool b.isSome] w (Ok (jq w0 w p F c (k+1) (fr c X b))):=by
 have a1:=m.aF;have C:=m.env.gr.size;refine nX (PA.mk λw1 k1 s1 O=>PA.mk λw2 E s2 H=>?_);have g:=k1.then E;have I:=m.af g;have z2:=g.size;have r:¬F w1.heap.size:=λa=>by have:=a1 _ a;omega
 cases b with
 |none=>exact al.tt rfl (PC.ok (iC I o.mono) λv w' i=>qP i (cz.of g) C H rfl oM r)
 |some n=>
  refine al.ff rfl ⟨_,ae (E.get O id) rfl,PC.ok (ss I) ?_⟩;rintro _ _ ⟨rfl,rfl⟩;refine⟨_,rfl,?_⟩;show al (!(fO X.aC n.mL).isSome) _ _
  cases J:fO X.aC n.mL with
  |none=>
   have a:fr c X (some n)=(bN 1,X):=by unfold fr;dsimp only;rw[J]
   rw[a];exact al.tt rfl (PC.ok (iC I o.mono) λv w' i=>qP i (cz.of g) C H rfl oM r)
  |some R=>
   obtain⟨d,Q,S⟩:=eJ J;have a:fr c X (some n)=(bN (cu c d R n).2.1,X.put d (cu c d R n).2.2 (cu c d R n).1):=by unfold fr;dsimp only;rw[J];dsimp only;rw[Q]
   rw[a];refine al.ff rfl λT d3=>?_;have s:ai w2 T:=d3.keep;have j:=g.then s;obtain⟨h,cls,rs,e,U,K,a5,L,V⟩:=m.af j;obtain⟨a6,b8,b9⟩:=L.aC;rw[K,Q9]at S;obtain⟨y,f,rfl⟩:=Option.map_eq_some_iff.1 S;obtain⟨P,b,b2,c0,a2,c1⟩:=e.ptr U f oM;have W:=s.get (E.get O id) id;have Y:=cX.rep e f;have a7:y.2∈X.aC:=by rw[K];exact Xk.2 ⟨y,QZ f,rfl⟩
   have Z:=o.aC _ a7;have b3:=Y.waits;have b4:=L.Lf;have z3:=j.size;have c2:=s.size;refine⟨p,0,rfl,_,_,_,ae e.cell rfl,_,ae W rfl,P,b,b2,by show(0:Int)<=n.mL;omega,by show n.mL<_;omega,_,by show T.cell? ⟨P,b+Int.toNat n.mL,none⟩=_;rw[Q,Qx];exact a2,ar (eW n x A M z B N) W ?_⟩;refine PC.ok (It Y V.part (hv.af j) (λP l=>⟨by have:=(q P l).1;omega,λa=>(q P l).2 a.1⟩) (b1.af j) (λP l=>⟨by have:=(q P l).1;omega,λa=>(q P l).2 a.1⟩) (by have:=Z.evs;omega)) ?_;rintro _ w4 ⟨v1,G',rfl,t,a8,a0⟩;have a9:=Du c d y.2 n b3 b4.2;have b0:=Is c d y.2 n;generalize cu c d y.2 n=dl at t a8 a9 b0;obtain⟨oa,on,oc,a3,Do,rfl,t⟩:=t;have np:=xl e f e.self;refine⟨oa,on,oc,_,rfl,p,0,rfl,_,ae (a0.keep.get e.cell np) rfl,?_⟩;refine PC.ok (Bh e f a8 a0 ⟨oa,on,oc,a3,Do,rfl,t⟩ oM) ?_;rintro _ w5 ⟨a4,F5,c3,rfl,b5,u,-⟩;have b6:¬F5 w1.heap.size:=λa=>(u.new _ a).elim r λh=>by omega
   have b7:cB w0 w5 p F5 c (X.put d dl.2.2 dl.1):=cB.Lb b5 f U K a5 L (V.iJ u);exact⟨a4,rfl,PC.ok (iC b7 (o.put (Z.Iu a9))) λv w' i=>qP i (cz.after j u) C (u.keep.get (s.get H id) r) rfl oM b6⟩
def cX.take(P:cX w F cls p h now c rs dq)(d:aM e):be 62 #[RK h.q,WP e] w (Ok λv w'=>Bk w (dz dq e) v w'/\cX w' F cls p h now c rs (fz dq e)/\aj (λa=>F a/\cls a=1) w w'):=by
 refine Calls.ok (Iv P.WY d) λv w' ⟨f,g,b⟩=>⟨f,?_,b⟩
 refine bb.same P fH b g λi G j n=>?_
 match i,j,n with
 |0,_,n=>exact n
 |k+2,_,n=>exact n
def Iw(b:cB w0 w p F c X)(q:fX k X)(r:k<=1000)(t:s.Ok):
  be 29 #[RK p,lj s] w (Ok (jq w0 w p F c (k+1) (fr c ⟨X.aC,fz X.dq s.n,X.now⟩ (dz X.dq s.n)))):=by
 have d:=b.aF;have u:=b.env.gr.size;refine mr (PA.mk λw1 x O y=>PA.mk λw2 e Q z=>λi A=>?_);have f:ai w2 i:=A.keep;have g:=(x.then e).then f;have R:=g.size;have S:=e.size;obtain⟨h,cls,rs,j,B,C,E,H,I⟩:=b.af g;refine⟨p,0,rfl,_,ae j.cell rfl,_,ae (f.get (e.get y id) id) rfl,PC.ok (j.take t.n) ?_⟩;rintro _ J ⟨⟨T,U,V,W,Y,Z,G,rfl,K,L,l⟩,M,m⟩;have o:cz F i F J:=⟨m.mono λP _ n=>n.1,λP n=>.inl n⟩
 refine cA (Eu _ _ _ _ _ _ _) ⟨_,rfl,PC.ok (Et (X:=⟨X.aC,fz X.dq s.n,X.now⟩) ⟨h,cls,rs,M,B,C,E,H,I.iJ o⟩ q.dq r _ K L λP n=>⟨(l P n).2,λa=>by have:=d P a;have:=l P n;omega⟩) λv w' N=>qP N (cz.after g o) u (m.get (f.get z id) λa=>by have:=d _ a.1;omega) rfl oM λa=>by have:=d _ a;omega⟩
def Lg(n:cB w0 w p F c X)(m:fX k X)(o:k<=1000)(C:s.Ok):
  be 30 #[RK p,lj s] w (Ok (jq w0 w p F c (k+1) (fr c X (dz X.dq s.n)))):=by
 have g:=n.aF;have q:=n.env.gr.size;refine ni (PA.mk λw1 r E t=>PA.mk λw2 a H u=>λx y=>?_);have b:ai w2 x:=y.keep;have P:=(r.then a).then b;have I:=P.size;have J:=a.size;obtain⟨h,cls,rs,i,-⟩:=n.af P;refine⟨p,0,rfl,_,ae i.cell rfl,_,ae (b.get (a.get t id) id) rfl,PC.ok (yu i.WY) ?_⟩;rintro _ K ⟨⟨L,M,N,O,Q,R,G,rfl,z,A,j⟩,d⟩;refine cA (Eu _ _ _ _ _ _ _) ⟨_,rfl,PC.ok (Et (n.af (P.then d)) m o _ z A λe l=>⟨(j e l).2,λf=>by have:=g e f;have:=j e l;omega⟩) λv w' B=>qP B (cz.of (P.then d)) q (d.get (b.get u id) id) rfl oM λf=>by have:=g _ f;omega⟩
def Rp(u:cB w0 w p F c X)(B:fX k X)(C:s.Ok):
  be 31 #[RK p,lj s] w (Ok (jq w0 w p F c k (bN (if(dz X.dq s.n).isSome then 0 else 14),⟨X.aC,fz X.dq s.n,X.now⟩))):=by
 have i:=u.aF;have E:=u.env.gr.size;refine oP (PA.mk λw1 O s1 Q=>PA.mk λw2 x s2 R=>λe S=>?_);have m:ai w2 e:=S.keep;have j:=(O.then x).then m;have z3:=j.size;have z2:=x.size;have b0:=m.size;obtain⟨h,cls,rs,o,T,U,V,W,Y⟩:=u.af j;have Z:=m.get (x.get Q id) id;have H:=m.get R id;have I:=o.self;have l:∀{b:World} (n:Bool),cX b F cls p h X.now c rs (fz X.dq s.n)->cz F e F b->b.heap[w1.heap.size]? =some (.cells (fW (bN 0) none 0 0 none 0 0 none 0 0).toArray 53 (0,0))->al (!n) (PC LL 35 #[WP 14] b (λa4 a5=>w_ (eE LL 53) λJ=>a4=J/\oJ LL 53 (RK w1.heap.size) J a5 λK=>jW LL 53 (RK w1.heap.size) K λa6=>Ok (jq w0 w p F c k (bN (if n then 0 else 14),⟨X.aC,fz X.dq s.n,X.now⟩)) (.returned a6) K) (λch a0=>Ok (jq w0 w p F c k (bN (if n then 0 else 14),⟨X.aC,fz X.dq s.n,X.now⟩)) (.panicked ch) a0))
   (oJ LL 53 (RK w1.heap.size) (.agg #[WP 0,WP 0,WP 0,WP 0,.slice none 0 0,.slice none 0 0,.slice none 0 0,.bool false]) b λL=>jW LL 53 (RK w1.heap.size) L λa7=>Ok (jq w0 w p F c k (bN (if n then 0 else 14),⟨X.aC,fz X.dq s.n,X.now⟩)) (.returned a7) L):=λ{b} n y z q=>by
  have M:cB w0 b p F c ⟨X.aC,fz X.dq s.n,X.now⟩:=⟨h,cls,rs,y,T,U,V,W,Y.iJ z⟩
  cases n with
  |false=>exact al.tt rfl (PC.ok (iC M B.dq) λv w' hq=>qP hq (cz.after j z) E q rfl oM λP=>by have:=i _ P;omega)
  |true=>exact al.ff rfl (Gw M B.dq (cz.after j z) E q rfl oM λP=>by have:=i _ P;omega)
 have r:∀n,w.heap.size<=n->¬(F n/\cls n=1):=λn a P=>by have:=i _ P.1;omega
 have a8:=i p I.1;refine⟨λn=>(F n/\cls n=1)\/e.heap.size<=n,p,0,rfl,λP=>P.elim (λh=>by have:=h.2;have:=I.2;omega) (λh=>Nat.lt_irrefl _ (Qk a8 (Xx j.size h))),_,ae o.cell rfl,λP=>P.elim (r _ oM) (λh=>by have h:e.heap.size<=w.heap.size:=h;omega),_,ae Z rfl,PC.ok (o.take C.n) ?_,PA.mk λt d s4 g4=>⟨ai.keep d,PC.ok (cX.take (cX.af o d) C.n) ?_⟩⟩
 ·rintro _ t ⟨⟨va,vn,vc,ea,en,ec,G,rfl,-⟩,a9,d⟩
  have z4:=d.size;refine cA (Eu _ _ _ _ _ _ _) ⟨_,rfl,d.mono λn _ a=>.inl a,PA.mk λb f s5 q=>⟨ai.keep f,aD (eW _ _ _ _ _ _ _) q rfl λN g s6 g6=>⟨g.mono λn a P=>.inr (by have P:n=t.heap.size:=P;omega),?_⟩⟩⟩;have A:ai t N:=f.new g λn a=>.inr (by have a:n=t.heap.size:=a;omega);exact l (dz X.dq s.n).isSome (cX.af a9 A) ⟨(d.mono λn _ a=>a.1).then (ai.keep A),λn a=>.inl a⟩ (A.get (d.get H (r _ oM)) id)
 ·rintro _ b ⟨⟨va,vn,vc,ea,en,ec,G,rfl,-⟩,y,f⟩
  have z5:=f.size;refine cA (Eu _ _ _ _ _ _ _) ⟨_,rfl,f.mono λn _ a=>.inl a,aD (eW _ _ _ _ _ _ _) (f.get g4 (r _ oM)) rfl λN g s6 g6=>⟨g.mono λn a P=>.inr (by have P:n=e.heap.size:=P;omega),?_⟩⟩;refine l (dz X.dq s.n).isSome (bb.keep y fH g λn a P=>by have P:n=e.heap.size:=P;have:=i _ a;omega) ⟨?_,λn a=>.inl a⟩ (g.get (f.get (d.get H id) (r _ oM)) λP=>by have P:w1.heap.size=e.heap.size:=P;omega);exact((ai.keep d).then (f.mono λn _ a=>a.1)).new g λn P=>.inr (by have P:n=e.heap.size:=P;omega)
end
section
variable {w w' w0 w1 w2 wb:World} {p i k g:Nat} {F F1 F' G G' T D:UK} {cls cls':Nat->Nat} {h:KX} {c:bL} {X:dE} {s:fV} {x:iK} {v:Value} {r:iK×dE} {now:Int} {rs:List (Nat×bg)} {dq:List bV} {y:Nat×bg} {R R':bg} {aC:List bg}
def Rq(c:bL)(n:Int)(X:bg)(P now:Int):(fp c n X P now).1.length<=1:=by
 unfold fp;split<;>simp
def Lh(j:cB w0 w p F c X)(b:fO X.aC i=some R):∃h cls rs y,cX w F cls p h X.now c rs X.dq/\h.ps=rs.map (·.1)/\X.aC=rs.map (·.2)/\rs.length=c.aC.toNat/\kf c 0/\Env w0 w F/\rs[i]? =some y/\y.2=R/\(∃n d,h.a=some ⟨n,d,none⟩/\i<h.n/\w.cell? ⟨n,d+i,none⟩=some (RK y.1)/\F n/\cls n=0)/\R∈X.aC:=by
 obtain⟨h,cls,rs,e,f,P,k,g,l⟩:=j;obtain⟨m,o,q⟩:=g.aC;rw[nY,P,Q9]at b;obtain⟨y,a,rfl⟩:=Option.map_eq_some_iff.1 b;exact⟨h,cls,rs,y,e,f,P,k,g,l,a,rfl,e.ptr f a oM,by rw[P];exact Xk.2 ⟨y,QZ a,rfl⟩⟩
def Rr(b:cB w0 w p F c X)(t:fX k X)(Q:s.Ok)(u:fO X.aC s.n=some R):
  be 33 #[RK p,lj s] w (Ok (jq w0 w p F c (k+1) (if(fO X.aC s.m).isNone\/s.m=s.n then(bN 1,X)else(bN 0,X.put s.n (fp c s.n R s.m X.now).2 (fp c s.n R s.m X.now).1)))):=by
 have S:=b.aF;have C:=b.env.gr.size;refine oQ (PA.mk λw1 T s1 U=>PA.mk λw2 E s2 H=>?_);have d:=T.then E;have z2:=d.size;have x:∀n,w.heap.size<=n->¬F n:=λn f a=>by have:=S _ a;omega
 have g:=E.get U id;have no:∀{r},r=(bN 1,X)->PC LL 35 #[WP 1] w2 (λv w'=>w_ (eE LL 53) λy=>v=y/\oJ LL 53 (RK w1.heap.size) y w' λw2=>jW LL 53 (RK w1.heap.size) w2 λV=>Ok (jq w0 w p F c (k+1) r) (.returned V) w2) (λW w'=>Ok (jq w0 w p F c (k+1) r) (.panicked W) w'):=λa=>by
  rw[a];exact PC.ok (iC (b.af d) t.mono) λv w' Y=>qP Y (cz.of d) C H rfl oM (x _ oM)
 refine⟨_,ae g rfl,PC.ok (ss (b.af d)) ?_⟩;rintro _ _ ⟨rfl,rfl⟩;refine⟨_,rfl,al.mk (λe=>no (Zx (.inl (by simpa using e)))) (λe=>⟨_,ae g rfl,_,ae g rfl,al.eI (λz=>no (Zx (.inr z))) (λz=>?_)⟩)⟩;rw[Zq (by
         rintro(i|i);·simp at e;rw[Option.isNone_iff_eq_none]at i;rw[i]at e;simp at e
         ·exact z i)]
 intro Z d3;have j:ai w2 Z:=d3.keep;have A:=d.then j;have z3:=A.size;have b3:=j.size;have I:=j.get g id;obtain⟨B,l,-⟩:=eJ u;rw[l]at u⊢;obtain⟨h,cls,rs,y,P,a4,hX,a0,a5,he,m,rfl,⟨n,a1,a6,b4,a2,b5⟩,a3⟩:=Lh (b.af A) u;have hr:=cX.rep P m;have np:=xl P m P.self;have a7:=P.self;refine⟨λn=>F n/\cls n≠0,p,0,rfl,λa=>a.2 a7.2,_,ae P.cell rfl,p,0,rfl,_,_,_,ae P.cell rfl,_,ae I rfl,n,a1,a6,by rw[l];omega,by rw[l];omega,_,by rw[l,Qx];exact a2,_,ae I rfl,p,0,rfl,_,ae P.cell rfl,PC.ok (Gy hr Q.m) ?_⟩;rintro _ w4 ⟨G',o,J,K⟩;have L:=Li c B y.2 s.m X.now;have a8:=Rq c B y.2 s.m X.now;generalize fp c B y.2 s.m X.now=dl at o J L a8;obtain⟨M,N,O,a9,Do,rfl,o⟩:=o;refine⟨M,N,O,rfl,K.keep.mono λn _ f=>⟨f.1,oM⟩,PC.ok (Bh P m J K ⟨M,N,O,a9,Do,rfl,o⟩ oM) ?_⟩;rintro _ w5 ⟨b0,F5,b6,rfl,b1,q,b2⟩;exact⟨b0,rfl,b2.mono λn _ f=>⟨f.1,oM⟩,Gw (cB.Lb b1 m a4 hX a0 a5 (he.iJ q)) (t.put ((t.aC _ a3).Iu L)) (cz.after A q) C (q.keep.get (j.get H id) (x _ oM)) rfl oM λa=>(q.new _ a).elim (x _ oM) λh=>oM⟩
def TU(N:cB w0 w p F c X)(J:fX k X)(hk:k<=1000)(O:s.Ok)(K:fO X.aC s.n=some R):
  be 34 #[RK p,lj s] w (Ok (jq w0 w p F c (k+1) ((iW c s.n R s).1,⟨X.aC.set s.n.toNat (iW c s.n R s).2,X.dq,X.now⟩))):=by
 have Q:=N.aF;have S:=N.env.gr.size;obtain⟨n,z,-⟩:=eJ K;rw[z]at K⊢;refine qh (PA.mk λw1 k1 s1 g1=>PA.mk λw2 k2 s2 g2=>λe d3=>?_);have T:ai w2 e:=d3.keep;have a3:=(k1.then k2).then T;have z3:=a3.size;have z2:=k2.size;have b9:=T.size;have a4:=T.get (k2.get g1 id) id;obtain⟨h,cls,rs,y,a5,a6,hX,a1,a7,b3,U,V,⟨P,b4,b5,c0,b6,b7⟩,b1⟩:=Lh (N.af a3) K;have c1:=Q p a5.self.1;have c2:=Q P b7.1;have n1:¬e.heap.size<=p:=oM
 have n2:¬e.heap.size<=w.heap.size:=oM
 have n3:¬e.heap.size<=P:=oM
 refine⟨λP=>e.heap.size<=P,p,0,rfl,n1,_,_,_,ae a5.cell rfl,n2,_,ae a4 rfl,P,b4,b5,by rw[z];omega,by rw[z];omega,n3,_,by rw[z,Qx];exact b6,n2,?_⟩;refine No (es:=iX s.cmd) (yv s.cmd) a4 (λn z=>by rcases n with _|_|_|_|_|_|_|n<;>first|rfl|exact Zz z (by simp[iX])) (PA.mk λw4 k4 s4 g4=>⟨ai.keep k4,aD (yv s.cmd) g4 rfl λi k5 s5 A=>⟨k5.mono λP _ a=>by have a:P=e.heap.size:=a;omega,?_⟩⟩);have B:ai e i:=k4.new k5 λP W=>.inr (by have W:P=e.heap.size:=W;omega);have a9:=a3.then B;have z5:=a9.size;have c3:=B.size;have L:=B.get a4 id;have Y:=B.get (T.get g2 id) id;have C:¬F w1.heap.size:=λa=>by have:=Q _ a;omega
 have Z:cz F w F i:=cz.of a9;have hp:=cX.af a5 B;have E:=b3.af B;rw[<-V];rw[<-V]at b1;have j:=cX.rep hp U;have a0:=J.aC _ b1;have hl:=a0.evs;have a2:∀{x:iK} {R':bg} {v:Value} {w':World} {G':UK},iW c n y.2 s=(x,R')->gP i x v w'->x.st.cells=[]/\x.K_=[]/\x.rows=[]->bX w' y.1 G' c n R'->cz (λP=>F P/\cls P=n+2) i G' w'->kh y.2 R'->w_ (eE LL 53) λb=>v=b/\oJ LL 53 (RK w1.heap.size) b w' λw2=>jW LL 53 (RK w1.heap.size) w2 λb=>Ok (jq w0 w p F c (k+1) ((iW c n y.2 s).1,⟨X.aC.set (n:Int).toNat (iW c n y.2 s).2,X.dq,X.now⟩)) (.returned b) w2:=λ{x R' v w' G'} a d ⟨e1,e2,e3⟩ l b0 hg=>by
  rw[a];exact qP (jq.rep hp a6 hX a1 a7 E U d e1 e2 e3 l b0 J (a0.Iu hg)) Z S Y rfl oM C
 have b2:∀{no:Int} {R':bg} {w':World} {G':UK},iW c n y.2 s=(bN no,R')->bX w' y.1 G' c n R'->cz (λP=>F P/\cls P=n+2) i G' w'->kh y.2 R'->PC LL 35 #[WP no] w' (λv w'=>w_ (eE LL 53) λb=>v=b/\oJ LL 53 (RK w1.heap.size) b w' λw2=>jW LL 53 (RK w1.heap.size) w2 λb=>Ok (jq w0 w p F c (k+1) ((iW c n y.2 s).1,⟨X.aC.set (n:Int).toNat (iW c n y.2 s).2,X.dq,X.now⟩)) (.returned b) w2) (λch w'=>Ok (jq w0 w p F c (k+1) ((iW c n y.2 s).1,⟨X.aC.set (n:Int).toNat (iW c n y.2 s).2,X.dq,X.now⟩)) (.panicked ch) w'):=λ{no R' w' G'} a l b0 hg=>by
  obtain⟨F',-,m,o,q⟩:=jq.rep (x:=bN no) (v:=.agg (fW (bN no) none 0 0 none 0 0 none 0 0).toArray) hp a6 hX a1 a7 E U (gP.plain rfl rfl rfl) rfl rfl rfl l b0 J (a0.Iu hg);rw[a];exact PC.ok (iC m o) λv w2 hq=>qP hq (Z.trans q) S (q.keep.get Y C) rfl oM λa=>(q.new _ a).elim C λh=>by omega
 have a8:∀{x:iK} {v:Value} {w':World},iW c n y.2 s=(x,y.2)->gP i x v w'->ai i w'->w_ (eE LL 53) λb=>v=b/\oJ LL 53 (RK w1.heap.size) b w' λw2=>jW LL 53 (RK w1.heap.size) w2 λb=>Ok (jq w0 w p F c (k+1) ((iW c n y.2 s).1,⟨X.aC.set (n:Int).toNat (iW c n y.2 s).2,X.dq,X.now⟩)) (.returned b) w2:=λ{x v w'} a d f=>by
  rw[a];refine qP ⟨F,.new d λP W=>by have:=Q P W;omega,?_,?_,cz.of f⟩ Z S Y rfl oM C
  ·show cB w0 w' p F c ⟨X.aC.set (n:Int).toNat y.2,X.dq,X.now⟩
   rw[V,Np K];exact N.af (a9.then f)
  ·show fX (k+1) ⟨X.aC.set (n:Int).toNat y.2,X.dq,X.now⟩
   rw[V,Np K];exact J.mono
 refine⟨_,ae L rfl,al.eI (λg=>?_) (λg=>?_)⟩
 ·refine ar (yv s.cmd) A (PC.ok (Ix j E.part O.cmd oM) ?_)
  rintro _ H ⟨G',d,r,t⟩;exact a2 (by unfold iW;rw[Zx g]) d (by split<;>exact⟨rfl,rfl,rfl⟩) r t (Lj c n y.2 s.cmd)
 refine al.eI (λu=>?_) (λu=>?_)
 ·refine⟨_,ae L rfl,PC.ok (OB j E.part O.m) ?_⟩
  rintro _ H ⟨G',rfl,r,t,b8⟩;exact⟨_,rfl,b2 (by unfold iW;rw[Zq g,Zx u]) r t ⟨.inr b8,by unfold ie;rw[yw];exact Qj _⟩⟩
 refine al.eI (λI=>?_) (λI=>?_)
 ·refine PC.ok (Iy j E.part oM) ?_
  rintro _ H ⟨G',rfl,r,t⟩;exact⟨_,rfl,b2 (by unfold iW;rw[Zq g,Zq u,Zx I]) r t (Dw c y.2)⟩
 refine al.eI (λM=>?_) (λM=>?_)
 ·refine⟨_,ae A rfl,_,ae A rfl,_,ae L rfl,PC.ok (Lk j O.m) ?_⟩
  rintro _ H ⟨d,f⟩;exact a8 (by unfold iW;rw[Zq g,Zq u,Zq I,Zx M]) d f
 refine al.eI (λh4=>?_) (λh4=>?_)
 ·refine⟨_,ae A rfl,_,ae A rfl,PC.ok (TV j) ?_⟩
  rintro _ H ⟨d,f⟩;exact a8 (by unfold iW;rw[Zq g,Zq u,Zq I,Zq M,Zx h4]) d f
 refine al.eI (λh5=>?_) (λh5=>?_)
 ·refine⟨_,ae A rfl,_,ae L rfl,PC.ok (OC j) ?_⟩
  rintro _ H ⟨d,f⟩;exact a8 (by unfold iW;rw[Zq g,Zq u,Zq I,Zq M,Zq h4,Zx h5]) d f
 ·refine⟨_,ae L rfl,PC.ok (Rt j O.m) ?_⟩
  rintro _ H ⟨G',rfl,r,t⟩;have a:iW c n y.2 s=(bN 0,{y.2 with D:=y.2.D.Gz s.m}):=by unfold iW;rw[Zq g,Zq u,Zq I,Zq M,Zq h4,Zq h5]
  obtain⟨F',-,m,o,q⟩:=jq.rep (x:=bN 0) (v:=.agg (fW (bN 0) none 0 0 none 0 0 none 0 0).toArray) hp a6 hX a1 a7 E U (gP.plain rfl rfl rfl) rfl rfl rfl r t J (a0.Iu ⟨.inl dg,by dsimp only;omega⟩);rw[a];exact⟨rfl,Gw m o (Z.trans q) S (q.keep.get Y C) rfl oM λa=>(q.new _ a).elim C λh=>oM⟩
def Ru(q:cB w0 w p F c X)(r:fX k X)(hk:k<=999):
  be 32 #[RK p,lj s] w (Ok (jq w0 w p F c (k+1) (bN 0,Iz X))):=by
 have a6:=q.aF;have b7:=q.env.gr.size;refine oR (PA.mk λw1 k1 s1 g1=>PA.mk λw2 k2 s2 g2=>?_);have t:=k1.then k2;have z2:=t.size;obtain⟨h,cls,rs,j,C,u,c6,E,H⟩:=q.af t;obtain⟨a4,a7,a8⟩:=E.aC;have I:∀P,w.heap.size<=P->¬F P:=λP f d=>by have:=a6 _ d;omega
 have c8:=r.Le;have c9:=r.now;have b8:PP .i64 (X.now+1)=X.now+1:=wrap_i64 cw;have d0:=j.self;refine⟨p,0,rfl,_,ae j.cell rfl,p,0,rfl,PS.mk j.cell sM λw3 k3 s3 J=>?_⟩;rw[b8]at J;obtain⟨l,K⟩:=cX.YO (now':=X.now+1) j k3 (by rw[J];rfl);have c7:=l.nG;have hn:=cX.n l C;refine⟨p,0,rfl,_,_,_,ae l.cell rfl,λL a0 w'=>∃(n:Nat) (F1:UK) (m:Nat->Nat) (a:List (Nat×bg)) (g:List bV),a0=n/\n<=h.n/\L=h.n-n/\cX w' F1 m p h (X.now+1) c a g/\h.ps=a.map (·.1)/\a.length=rs.length/\
  (List.range n).foldl fP ⟨X.aC,X.dq,X.now+1⟩=⟨a.map (·.2),g,X.now+1⟩/\cz F w3 F1 w'/\fX (k+1) ⟨a.map (·.2),g,X.now+1⟩,
  ⟨_,0,F,cls,rs,X.dq,rfl,Qj _,rfl,l,C,rfl,by rw[u];rfl,cz.refl _ _,?_⟩,?_⟩
 ·rw[<-u];exact⟨λR hR=>(r.aC R hR).mono,by show 0<=X.now+1;omega,by show X.now+1<=_;omega⟩
 rintro L _ _ w4 ⟨n,F1,m,a,g,rfl,hj,rfl,v,x,b9,M,N,z⟩;have z3:=K.keep.size;have i:=K.trans N;have c1:∀P,w.heap.size<=P->P<w2.heap.size->¬F1 P:=λP f d1 d=>(i.new P d).elim (I P f) λh=>by omega
 refine al.dec (λd2=>?_) (λd3=>?_)
 ·have b:a[n]? =some a[n]:=Qq oM
  generalize a[n]=y at b;obtain⟨P,a1,c2,d4,a5,d6⟩:=cX.ptr v x b oM;refine⟨P,a1,c2,oM,oM,_,by rw[Qx];exact a5,λO d5=>?_⟩;have A:ai w4 O:=d5.keep;have e:=cX.af v A;have hr:=cX.rep e b;have d7:Env w0 O F1:=(H.iJ i).af A;have np:=xl e b e.self;have c3:=e.self;have b1:y.2∈a.map (·.2):=Xk.2 ⟨y,QZ b,rfl⟩;have B:=z.aC _ b1;refine⟨λP=>F1 P/\m P≠0,p,0,rfl,λd=>d.2 c3.2,_,ae e.cell rfl,p,0,rfl,_,ae e.cell rfl,PC.ok (Rv hr (by have:=B.asked;omega)) ?_⟩;rintro _ w6 ⟨G',o,Q,S⟩;have T:=B.tick n (X.now+1);have b4:(pS n y.2 (X.now+1)).1.length<=1001:=by unfold pS;dsimp only;rw[Q8];have:=Nq y.2.gI (X.now+1);have:=B.asked;omega
  have U:(List.range (n+1)).foldl fP ⟨X.aC,X.dq,X.now+1⟩=(⟨a.map (·.2),g,X.now+1⟩:dE).put n (pS n y.2 (X.now+1)).2 (pS n y.2 (X.now+1)).1:=by
   rw[List.range_succ,List.foldl_append,M];show fP _ n=_;unfold fP;dsimp only;rw[Q9,b];rfl
  generalize pS n y.2 (X.now+1)=V at o Q T b4 U;obtain⟨W,Y,Z,a2,Do,rfl,o⟩:=o;refine⟨W,Y,Z,rfl,S.keep.mono λP _ f=>⟨f.1,oM⟩,PC.ok (Bh e b Q S ⟨W,Y,Z,a2,Do,rfl,o⟩ oM) ?_⟩;rintro _ w7 ⟨a3,F7,b5,rfl,c4,b6,c5⟩;refine⟨a3,rfl,c5.mono λP _ f=>⟨f.1,oM⟩,_,oM,n+1,F7,b5,_,_,aq oM,oM,rfl,c4,by rw[x];exact(ng (f:=(·.1)) (b:=(y.1,V.2)) b rfl).symm,by rw[List.length_set];exact b9,?_,N.trans (cz.after A b6),?_⟩
  ·rw[U,List.map_set];rfl
  ·have:=z.stay (j:=n) (ms:=V.1) T
   unfold dE.put at this;dsimp only at this;rw[Qx]at this;rw[List.map_set];exact this
 ·have d:Iz X=⟨a.map (·.2),g,X.now+1⟩:=by
   unfold Iz;rw[<-M,u,Q8,show rs.length=n by omega]
  rw[d];exact Gw ⟨h,m,a,v,x,rfl,oM,E,H.iJ i⟩ z (cz.after t i) b7 (i.keep.get g2 (I _ oM)) rfl oM (c1 _ oM oM)
def Nr(n:cB w0 w p F c X):be 10 #[RK p,WP e] w (Ok λv w'=>(fO X.aC e=none/\v= .slice none 0 0/\w=w')\/∃R,fO X.aC e=some R/\qH aP 3 w R.S.vec v w'):=by
 refine qi (PC.ok (ss n) ?_);rintro _ _ ⟨rfl,rfl⟩;refine⟨_,rfl,?_⟩
 cases P:fO X.aC e with
 |none=>exact al.tt rfl (Ok.mk (.inl ⟨rfl,rfl,rfl⟩))
 |some R=>
  obtain⟨m,rfl,-⟩:=eJ P;obtain⟨h,cls,rs,y,a,o,q,r,s,t,b,rfl,⟨d,f,g,u,i,x⟩,z⟩:=Lh n P;refine al.ff rfl ⟨p,0,rfl,_,_,_,ae a.cell rfl,d,f,g,oM,oM,_,by rw[Qx];exact i,PC.ok (TW (cX.rep a b)) ?_⟩;rintro _ A ⟨j,e,k,G,rfl,l⟩;exact⟨_,_,_,rfl,Ok.mk (.inr ⟨_,rfl,j,e,k,G,rfl,l⟩)⟩
def oS(P:cB w0 w p F c X):be 12 #[RK p] w (Ok λv w'=>v= WP (X.dq.length:Int)/\w=w'):=by
 obtain⟨h,cls,rs,n,-⟩:=P;refine nj ⟨p,0,rfl,_,ae n.cell rfl,PC.ok (Ll n.WY) ?_⟩;rintro _ _ ⟨rfl,rfl⟩;exact⟨_,rfl,Ok.mk ⟨rfl,rfl⟩⟩
def Av(n:cB w0 w p F c X):be 11 #[RK p] w (Ok λv w'=>v= WP X.now/\w=w'):=by
 obtain⟨h,cls,rs,P,-⟩:=n;exact qj ⟨p,0,rfl,_,ae P.cell rfl,Ok.mk ⟨rfl,rfl⟩⟩
end
def mN:mZ LL 84 3 54 .nilFunc:=⟨kR,kR⟩
abbrev Lm(n:Int):Nat:=if n=3 then 29 else if n=5 then 30 else if n=4 then 31 else 32
abbrev zD(n:Int):Nat:=if n=2 then 33 else 34
abbrev bound(n P:Nat):Value:=.func (.func n) #[RK P] #[]
abbrev Xo(n:Nat):List (Int×Value):=[(3,bound (Lm 3) n),(5,bound (Lm 5) n),(4,bound (Lm 4) n),(6,bound (Lm 6) n)]
abbrev Vo(n:Nat):List (Int×Value):=[(2,bound (zD 2) n),(1,bound (zD 1) n),(7,bound (zD 7) n),(8,bound (zD 8) n),(9,bound (zD 9) n),(10,bound (zD 10) n),(11,bound (zD 11) n),(12,bound (zD 12) n)]
def Rw(a:Nat)(n:Int):an (Xo a) n=if n=3\/n=5\/n=4\/n=6 then some (bound (Lm n) a)else none:=by
 by_cases P:n=3\/n=5\/n=4\/n=6
 ·rw[Zx P];rcases P with rfl|rfl|rfl|rfl<;>rfl
 ·rw[Zq P];exact jJ.2 cS
def OD(P:Nat)(n:Int):an (Vo P) n=if n=2\/n=1\/7<=n/\n<=12 then some (bound (zD n) P)else none:=by
 by_cases a:n=2\/n=1\/7<=n/\n<=12
 ·rw[Zx a]
  have:n=2\/n=1\/n=7\/n=8\/n=9\/n=10\/n=11\/n=12:=oM
  rcases this with rfl|rfl|rfl|rfl|rfl|rfl|rfl|rfl<;>rfl
 ·rw[Zq a];exact jJ.2 cS
def en1(n:Int):enters LL (Lm n)=true:=by unfold Lm;split;rfl;split;rfl;split<;>rfl
def ZU(n:Int):enters LL (zD n)=true:=by unfold zD;split<;>rfl
section
variable {w w' w0 w1 w2 wb:World} {p i k g:Nat} {F F1 F' G G' T D:UK} {c:bL} {X:dE} {s:fV} {R:bg}
def Ry(r:cB w0 w p F c X)(g:fX k X)(hk:k<=999)(i:s.Ok):
  be 13 #[RK p,lj s] w (Ok (jq w0 w p F c (k+1) (b_ c X s))):=by
 have b2:=r.aF;have b3:=r.env.gr.size;refine qQ (PA.mk λw1 k1 s1 g1=>PA.mk λw2 t s2 g2=>PA.mk λw3 k3 s3 C=>?_);have m:∀{w:World} b,b=w2.heap.size->False\/w2.heap.size<=b:=λb n=>.inr (Nat.le_of_eq n.symm);refine dB (k:=(3:Int)) mN lG (bU.new C) λw4 E H s4=>dB (k:=(5:Int)) mN lG E λw5 I J s5=>dB (k:=(4:Int)) mN lG I λw6 K L s6=>dB (k:=(6:Int)) mN lG K λu M N s7=>PA.mk λw8 k8 s8 O=>?_;have b4:ai w2 u:=(((k3.new H λb d=>.inr oM).new J λb d=>.inr oM).new L λb d=>.inr oM).new N λb d=>.inr oM;refine dB (k:=(2:Int)) mN lG (bU.new O) λw9 Q S s9=>dB (k:=(1:Int)) mN lG Q λb8 T U b9=>dB (k:=(7:Int)) mN lG T λc0 V W c1=>dB (k:=(8:Int)) mN lG V λc2 Y Z c3=>dB (k:=(9:Int)) mN lG Y λc4 a1 a2 c5=>dB (k:=(10:Int)) mN lG a1 λc6 a3 a4 c7=>dB (k:=(11:Int)) mN lG a3 λc8 a5 a6 c9=>dB (k:=(12:Int)) mN lG a5 λo a7 a8 d0=>?_;have a0:ai u o:=(((((((k8.new S λb d=>.inr oM).new U λb d=>.inr oM).new W λb d=>.inr oM).new Z λb d=>.inr oM).new a2 λb d=>.inr oM).new a4 λb d=>.inr oM).new a6 λb d=>.inr oM).new a8 λb d=>.inr oM;have mA:bU o w2.heap.size (Value.int .i64) (Xo p):=M.af a0;have mO:bU o u.heap.size (Value.int .i64) (Vo p):=a7;have v:=b4.then a0;have a9:=(k1.then t).then v;have j:=v.get (t.get g1 id) id;have b5:=v.get g2 id;have f:=r.af a9;have z2:=t.size;have b6:¬F w1.heap.size:=λn=>by have:=b2 _ n;omega
 have P:∀{b0:iK×dE} {e:Value} {w':World},jq w0 o p F c (k+1) b0 e w'->w_ (eE LL 53) λb1=>e=b1/\oJ LL 53 (RK w1.heap.size) b1 w' λw2=>jW LL 53 (RK w1.heap.size) w2 λb7=>Ok (jq w0 w p F c (k+1) b0) (.returned b7) w2:=λa=>qP a (cz.of a9) b3 b5 rfl oM b6
 clear E I K M Q T V Y a1 a3 a5 a7 H J L N S U W Z a2 a4 a6 a8 C O
 refine⟨_,ae j rfl,jG mN lG mA ?_⟩;rw[Rw]
 by_cases x:s.kind=3\/s.kind=5\/s.kind=4\/s.kind=6
 ·rw[Zx x]
  refine⟨_,_,rfl,al.tt rfl (ar (Bg s) j ⟨_,_,_,rfl,en1 _,?_⟩)⟩;rcases x with h|h|h|h
  ·rw[h]
   have n:b_ c X s=fr c ⟨X.aC,fz X.dq s.n,X.now⟩ (dz X.dq s.n):=by unfold b_;rw[Zx h]
   rw[n];exact PC.ok (Iw f g oM i) λe w' a=>P a
  ·rw[h]
   have n:b_ c X s=fr c X (dz X.dq s.n):=by unfold b_;rw[Zq oM,Zx h]
   rw[n];exact PC.ok (Lg f g oM i) λe w' a=>P a
  ·rw[h]
   have n:b_ c X s=(bN (if(dz X.dq s.n).isSome then 0 else 14),⟨X.aC,fz X.dq s.n,X.now⟩):=by unfold b_;rw[Zq oM,Zq oM,Zx h]
   rw[n];exact PC.ok (Rp f g.mono i) λe w' a=>P a
  ·rw[h]
   have n:b_ c X s=(bN 0,Iz X):=by unfold b_;rw[Zq oM,Zq oM,Zq oM,Zx h]
   rw[n];exact PC.ok (Ru f g hk) λe w' a=>P a
 rw[Zq x];refine⟨_,_,rfl,al.ff rfl ⟨_,ae j rfl,jG mN lG mO ?_⟩⟩;rw[OD]
 by_cases hO:s.kind=2\/s.kind=1\/7<=s.kind/\s.kind<=12
 ·rw[Zx hO]
  refine⟨_,_,rfl,al.ff rfl ⟨_,ae j rfl,PC.ok (ss f) ?_⟩⟩;rintro _ _ ⟨rfl,rfl⟩;refine⟨_,rfl,?_⟩;have e0:¬s.kind=3/\¬s.kind=5/\¬s.kind=4/\¬s.kind=6/\¬(s.kind<1\/12<s.kind):=oM
  obtain⟨y,z,m,A,B⟩:=e0
  cases l:fO X.aC s.n with
  |none=>
   have n:b_ c X s=(bN 1,X):=by unfold b_;rw[Zq y,Zq z,Zq m,Zq A,Zq B,l]
   rw[n];exact al.tt rfl (PC.ok (iC f g.mono) λe w' a=>P a)
  |some R=>
   refine al.ff rfl (ar (Bg s) j ⟨_,_,_,rfl,ZU _,?_⟩)
   by_cases q:s.kind=2
   ·have n:b_ c X s=(if(fO X.aC s.m).isNone\/s.m=s.n then(bN 1,X)else(bN 0,X.put s.n (fp c s.n R s.m X.now).2 (fp c s.n R s.m X.now).1)):=by unfold b_;rw[Zq y,Zq z,Zq m,Zq A,Zq B,l];exact Zx q
    rw[n,q];exact PC.ok (Rr f g i l) λe w' a=>P a
   ·have n:b_ c X s=((iW c s.n R s).1,⟨X.aC.set s.n.toNat (iW c s.n R s).2,X.dq,X.now⟩):=by unfold b_;rw[Zq y,Zq z,Zq m,Zq A,Zq B,l];exact Zq q
    rw[n];have:zD s.kind=34:=Zq q
    rw[this];exact PC.ok (TU f g oM i l) λe w' a=>P a
 ·rw[Zq hO]
  have n:b_ c X s=(bN 2,X):=by unfold b_;rw[Zq oM,Zq oM,Zq oM,Zq oM,Zx oM]
  rw[n];exact⟨_,_,rfl,al.tt rfl (PC.ok (iC f g.mono) λe w' a=>P a)⟩
end
section
variable {w w' w0 w1 w2 wb:World} {p q i k g:Nat} {F F1 F' G G' T D:UK} {cls:Nat->Nat} {h:KX} {c:bL} {X:dE} {s:fV} {R:bg} {now:Int} {rs:List (Nat×bg)} {dq:List bV}
def cX.more(i:cX w F cls p h now c rs dq)(j:ai w w')(e:bX w' q G' c rs.length R)(l:∀d,G' d->w.heap.size<=d):
  ∃F' a,cX w' F' a p h now c (rs++[(q,R)]) dq/\cz F w F' w':=by
 obtain⟨m,b,o,r,-⟩:=bb.iJ i fH (k:=rs.length+2) (G':=G') (C2:=jw (Gv p h now) (λw G=>eu w h.q G dq) c (rs++[(q,R)])) ⟨ai.keep j,λd s=>.inr (l d s)⟩ e.aF (λf n=>by
  rw[X8 (Q4 _),Nat.sub_self]at n
  injection n with n;subst n;exact e) λt G g P=>by
  match t,g,P with
  |0,_,P=>exact P
  |1,_,P=>exact P
  |k+2,g,P=>
   intro f n;refine P f ?_;rcases Nat.lt_trichotomy k rs.length with h|h|h
   ·rwa [XW h]at n
   ·omega
   ·rw[Q7 cS]at n;cases n
 exact⟨m,b,o,r⟩
def Rz(w0 w:World)(c:bL)(n:Value)(w':World):Prop:=ai w w'/\
 (((Bl c).1≠0/\n= .tuple #[.pointer none,WP (Bl c).1])\/
  ((Bl c).1=0/\∃p F,n= .tuple #[RK p,WP 0]/\cB w0 w' p F c (Bl c).2/\(∀P,F P->w.heap.size<=P)/\fX 0 (Bl c).2))
def Ns(V:fw w0)(W:Laid w0)(C:ai w0 w){tn X E Y:Nat}(hd:bu w D c.decl d tn x E)(hD:∀n,D n->n<w.heap.size)(hs:aM c.bj)(a9:aM c.every)(b0:aM c.start):
  be 9 #[xm c d tn X x E Y] w (Ok (Rz w0 w c)):=by
 refine Dx (PA.mk λw1 Z s1 g1=>PC.ok Ln ?_);rintro _ w2 ⟨q,Fq,rfl,H,b1,v⟩;have z2:=v.size;refine⟨_,rfl,PA.mk λw3 l s3 g3=>?_⟩;have c4:=(Z.then v).then l;have z3:=l.size;have z0:=C.size;have b2:=l.get (v.get g1 id) id;obtain⟨j,hB⟩:∃j:Nat,(if(if(64:Int)<c.aC then 64 else c.aC)>1 then(if(64:Int)<c.aC then 64 else c.aC)else 1)=(j:Int):=⟨(if(if(64:Int)<c.aC then 64 else c.aC)>1 then(if(64:Int)<c.aC then 64 else c.aC)else 1).toNat,by repeat' split<;>omega⟩
 have c5:(j:Int)=max 1 (min c.aC 64):=by rw[<-hB];repeat' split<;>omega
 obtain⟨m,I⟩:=bb.join (w:=w3) (C:=jw (Gv w2.heap.size ⟨q,none,0,0,[]⟩ 0) (λw G=>eu w q G []) c []) (G:=λa n=>match a with|0=>n=w2.heap.size|1=>Fq n|_=>False)
  (λa=>by
   match a with
   |0=>exact⟨rfl,g3,(aU.nil w3).mono (λn P=>P.elim) (λn P=>(by cases P)),λn P=>(by cases P)⟩
   |1=>exact H.af l
   |a+2=>exact λc6 J=>by simp at J)
  (λi a n b g=>by
   have hq:=H.aF n
   match i,a,b,g with
   |0,0,_,_=>rfl
   |1,1,_,_=>rfl
   |0,1,b,g=>have b:n=w2.heap.size:=b;have:=hq g;omega
   |1,0,b,g=>have g:n=w2.heap.size:=g;have:=hq b;omega)
  (λa n P=>by
   match a,P with
   |0,P=>have P:n=w2.heap.size:=P;omega
   |1,P=>have:=H.aF n P;omega)
 refine⟨_,ae b2 rfl,λa0 b3 w'=>∃(a:Nat) (h:KX) (F:UK) (cls:Nat->Nat) (rs:List (Nat×bg)),b3=a/\a<=j/\a0=j-a/\(a=0\/(cC c 0).1=0/\(cC c 0).2.S.l.length<=16777216)/\cX w' F cls w2.heap.size h 0 c rs []/\h.ps=rs.map (·.1)/\rs.length=a/\rs.map (·.2)=List.replicate a (cC c 0).2/\(∀n,F n->w1.heap.size<=n)/\ai w1 w',
  ⟨_,0,⟨q,none,0,0,[]⟩,_,m,[],rfl,Qj _,rfl,.inl rfl,I,rfl,rfl,rfl,λn ⟨a,P⟩=>?_,v.then l⟩,?_⟩
 ·match a,P with
  |0,P=>have P:n=w2.heap.size:=P;omega
  |1,P=>exact b1 n P
 rintro a0 _ _ w4 ⟨a,h,F,cls,rs,rfl,g,rfl,b4,K,o,a1,a2,y,z⟩;have k:=Z.then z;have b5:=z.get g1 id;rw[hB];refine al.dec (λb6=>?_) (λc7=>?_)
 ·have b6:a<j:=oM
  obtain⟨L,e2⟩:=OE (c:=c) (i:=(a:Int)) oM oM;refine ar (IA c d tn X x E Y) b5 (PC.ok (TX (self:=(a:Int)) V W (C.then k) (hd.af k) (λn P=>by have:=hD n P;have:=k.size;omega) hs a9 b0) ?_);rintro v5 M ⟨N,⟨a3,rfl⟩|⟨p,A,G',rfl,hA,hG,a4⟩⟩
  ·refine⟨_,_,rfl,al.eK (λ_=>Ok.mk ⟨k.then N,.inl ⟨?_,?_⟩⟩) (λh=>Zz h a3)⟩
   ·show(cC c 0).1≠0
    rw[<-L];exact a3
   ·show _=Value.tuple #[.pointer none,WP (cC c 0).1]
    rw[<-L]
  refine⟨_,_,rfl,al.eK (λh=>Zz rfl h) (λ_=>?_)⟩;rw[L]at p;rw[e2]at hA a4;have z4:=z.size;obtain⟨F2,a5,a6,b7⟩:=cX.more (R:=(cC c 0).2) K N (by rw[a1];exact hA) hG;have b8:Gv w2.heap.size h 0 M (λn=>F2 n/\a5 n=0):=a6.at' 0;obtain⟨c1,O,c3,B⟩:=b8;have hn:=c3.len dC;rw[o,Q8]at hn;refine⟨_,0,rfl,_,_,_,ae O rfl,KK (x:=A) (D:=λ_=>False) c3 YN ⟨rfl,trivial⟩ (λn P=>P.elim) (by rw[o,Q8];unfold aR;omega) (by rw[o,Q8];unfold maxLen;omega) λr e w7 F7 Q S c8 b9=>⟨_,_,_,rfl,_,0,rfl,PS.mk (S.get O λf=>(B _ f).2 rfl) sM λw8 k8 s8 g8=>?_⟩⟩;have z5:=N.size;have z7:=S.size;have c9:=aA O;have T:∀n,aG r=some n->(aG h.a=some n\/M.heap.size<=n)/\n<w7.heap.size:=λn P=>⟨b9 n P,Q.aF n (Q.self n P)⟩
  have a7:∀n,aG r=some n->n≠w2.heap.size:=λn P f=>by rcases(T n P).1 with h|h;exact(B n h).2 f;omega
  have kk:aj (λn=>F2 n/\a5 n=0) M w8:=(S.mono λn _ P=>(B n P).1).then (k8.mono λn _ P=>by have P:n=w2.heap.size:=P;rw[P];exact c1);obtain⟨F8,s,U,t,-⟩:=bb.iJ a6 fH (k:=0) (G':=λn=>n=w2.heap.size\/aG r=some n) (C2:=jw (Gv w2.heap.size ⟨h.q,r,h.n+1,e,h.ps++[A]⟩ 0) (λw G=>eu w h.q G []) c (rs++[(A,(cC c 0).2)]))
   ⟨kk,λn P=>P.elim (λf=>.inl (f▸c1)) λP=>(T n P).1.imp (λh=>(B n h).1) id⟩ (λn P=>P.elim (λf=>oM) λP=>by have:=(T n P).2;omega)
   ⟨.inl rfl,g8,Q.alone.keep k8 λn P f=>a7 n P f,λn P=>⟨.inr P,a7 n P⟩⟩ λi G b u=>by
    match i,b,u with
    |1,_,u=>exact u
    |i+2,_,u=>exact u
  have a8:=b7.trans t;refine⟨_,oM,a+1,⟨h.q,r,h.n+1,e,h.ps++[A]⟩,F8,s,_,aq oM,oM,rfl,.inr ⟨p,a4⟩,U,by rw[o,Q3];rfl,by rw[QX,a1];rfl,by rw[Q3,a2,List.replicate_succ'];rfl,λn P=>(a8.new n P).elim (y n) λh=>oM,z.new a8.keep λn P=>.inr (y n P)⟩
 ·have c0:a≠0:=oM
  obtain⟨p,d0⟩:=b4.resolve_left c0;obtain⟨r1,r2,-,-⟩:=IB p;have c2:a=c.aC.toNat:=oM
  have J:rs[0]? =some rs[0]:=Qq oM;refine Ok.mk ⟨k,.inr ⟨p,_,F,rfl,⟨h,cls,rs,K,o,?_,oM,(cX.rep K J).ok,⟨V,W,C.then k,λn P=>by have:=y n P;omega⟩⟩,λn P=>by have:=y n P;omega,⟨λR hR=>?_,Int.le_refl 0,Int.le_refl 0⟩⟩⟩
  ·rw[a2,c2];rfl
  ·have:=(List.mem_replicate.1 hR).2
   subst this;exact⟨oM,by rw[Lp];exact Qj _⟩
end
def BJ:lA:=⟨[],[],[],[],[]⟩
def BK(x:PC_ 24 #[.ii 2] b (kX_ 27 λy z=>PC_ 9 #[y] z (λB j=>∃P k,B= .tuple #[.pointer P,.ii k]/\al (k !=0) (rt A ((.bool false)) j) (PR_ (eq_ .eql 33 (.tmp 18) (.const (.pointer none)) (.pointer P) (.pointer none)) j (kB λC l=>al C (rt A ((.bool false)) l) (PC_ 25 #[.ii 0,.ii 3] l (λD E=>∃m o p q r s t,D= .agg #[.ii m,.ii o,.ii p,.ii q,.ii r,.ii s,.ii t]/\PC_ 13 #[.pointer P,.agg #[.ii 1,.ii 0,.ii 0,.ii m,.ii o,.ii p,.ii q,.ii r,.ii s,.ii t]] E (kX_ 53 λF a=>PA a (.cells #[.ii 0,.ii 0,.ii 0,.ii 0,.slice none 0 0,.slice none 0 0,.slice none 0 0,.bool false] 53) λG=>St 53 (ab_ a 0) F G λH=>PC_ 13 #[.pointer P,.agg #[.ii 2,.ii 1,.ii 0,.ii 0,.ii 0,.ii 0,.ii 0,.ii 0,.ii 0,.ii 0]] H (kX_ 53 λI d=>PA d (.cells #[.ii 0,.ii 0,.ii 0,.ii 0,.slice none 0 0,.slice none 0 0,.slice none 0 0,.bool false] 53) λJ=>St 53 (ab_ d 0) I J λK=>PC_ 13 #[.pointer P,.agg #[.ii 3,.ii 0,.ii 0,.ii 0,.ii 0,.ii 0,.ii 0,.ii 0,.ii 0,.ii 0]] K (kX_ 53 λL e=>PA e (.cells #[.ii 0,.ii 0,.ii 0,.ii 0,.slice none 0 0,.slice none 0 0,.slice none 0 0,.bool false] 53) λM=>St 53 (ab_ e 0) L M λN=>PC_ 13 #[.pointer P,.agg #[.ii 3,.ii 0,.ii 0,.ii 0,.ii 0,.ii 0,.ii 0,.ii 0,.ii 0,.ii 0]] N (kX_ 53 λO f=>PA f (.cells #[.ii 0,.ii 0,.ii 0,.ii 0,.slice none 0 0,.slice none 0 0,.slice none 0 0,.bool false] 53) λQ=>St 53 (ab_ f 0) O Q λR=>PC_ 13 #[.pointer P,.agg #[.ii 10,.ii 1,.ii 0,.ii 0,.ii 0,.ii 0,.ii 0,.ii 0,.ii 0,.ii 0]] R (kX_ 53 λS c=>PA c (.cells #[.ii 0,.ii 0,.ii 0,.ii 0,.slice none 0 0,.slice none 0 0,.slice none 0 0,.bool false] 53) λT=>St 53 (ab_ c 0) S T λU=>PC_ 13 #[.pointer P,.agg #[.ii 3,.ii 9,.ii 0,.ii 0,.ii 0,.ii 0,.ii 0,.ii 0,.ii 0,.ii 0]] U (kX_ 53 λV g=>PA g (.cells #[.ii 0,.ii 0,.ii 0,.ii 0,.slice none 0 0,.slice none 0 0,.slice none 0 0,.bool false] 53) λW=>St 53 (ab_ g 0) V W λX=>PC_ 13 #[.pointer P,.agg #[.ii 2,.ii 1,.ii 1,.ii 0,.ii 0,.ii 0,.ii 0,.ii 0,.ii 0,.ii 0]] X (kX_ 53 λY h=>PA h (.cells #[.ii 0,.ii 0,.ii 0,.ii 0,.slice none 0 0,.slice none 0 0,.slice none 0 0,.bool false] 53) λZ=>St 53 (ab_ h 0) Y Z λa1=>PC_ 13 #[.pointer P,.agg #[.ii 6,.ii 0,.ii 0,.ii 0,.ii 0,.ii 0,.ii 0,.ii 0,.ii 0,.ii 0]] a1 (kX_ 53 λb8 i=>(∃u v,i.cell? (ab_ a (0+1))=some (.ii u)/\i.cell? (ab_ a (0+1+1))=some (.ii v)/\PR_ (eq_ .eql 46 (.tmp 47) (.tmp 48) (.agg #[.ii u,.ii v]) (.agg #[.ii 0,.ii 1])) i (kB λa2 n=>al a2 ((rI n (ab_ a 0) λa3=>al (a3==0) ((rI n (ab_ d 0) λa4=>al (a4==0) ((rI n (ab_ e 0) λa5=>al (a5==0) ((rI n (ab_ f 0) λa6=>al (a6==0) ((rS n (ab_ c (0+3+1)) λb9 a7 c0=>al ((a7:Int)==6) ((rS n (ab_ c (0+3+1)) λa8 a9 c1=>(ix_ a8 0 a9 λb0 b1=>(rI n (ad b0 (b1+Int.toNat 0*2)) λb2=>al (b2==3) ((rI n (ab_ g 0) λb3=>al (b3==14) ((rI n (ab_ h 0) λb4=>al (b4==1) (PC_ 11 #[.pointer P] n (kI_ λb5 w=>al (b5==1) (PC_ 12 #[.pointer P] w (kI_ λb6 b7=>rt A ((.bool (b6==1))) b7) (pE A)) (rt A ((.bool false)) w)) (pE A)) (rt A ((.bool false)) n))) (rt A ((.bool false)) n))) (rt A ((.bool false)) n))))) (rt A ((.bool false)) n))) (rt A ((.bool false)) n))) (rt A ((.bool false)) n))) (rt A ((.bool false)) n))) (rt A ((.bool false)) n))) (rt A ((.bool false)) n)) (pV A))) (pE A)) (pE A)) (pE A)) (pE A)) (pE A)) (pE A)) (pE A)) (pE A)) (pE A))) (pV A))) (pE A)) (pE A)):be 8 #[] b A:=DC BJ Tryz.func8 rfl x
def mG:lI:=⟨0,0,0,0,0,0,0⟩
def wZ:Bool:=
 let n:=gM 2
 let P:=b_ n (Bl n).2 ⟨1,0,0,⟨0,0,0,1,3,-1,0⟩⟩
 let b:=b_ n P.2 ⟨2,1,0,mG⟩
 let c:=b_ n b.2 ⟨3,0,0,mG⟩
 let d:=b_ n c.2 ⟨3,0,0,mG⟩
 let a:=b_ n d.2 ⟨10,1,0,mG⟩
 let e:=b_ n a.2 ⟨3,9,0,mG⟩
 let f:=b_ n e.2 ⟨2,1,1,mG⟩
 let g:=b_ n f.2 ⟨6,0,0,mG⟩
 (Bl n).1==0&&(P.1.id.1==(0:Int)&&(P.1.id.2==(1:Int)&&(P.1.code==0&&(b.1.code==0&&(c.1.code==0&&(d.1.code==0&&(a.1.st.cells.length==6&&((a.1.st.cells.getD 0 ⟨0,[]⟩).n==3&&(e.1.code==14&&(f.1.code==1&&(g.2.now==1&&g.2.dq.length==1)))))))))))
def TA:wZ=true:=by decide+kernel
def Qu:∃(h:dE) (n a b c P d e f:iK×dE),Bl (gM 2)=(0,h)/\b_ (gM 2) h ⟨1,0,0,⟨0,0,0,1,3,-1,0⟩⟩=n/\b_ (gM 2) n.2 ⟨2,1,0,mG⟩=a/\b_ (gM 2) a.2 ⟨3,0,0,mG⟩=b/\b_ (gM 2) b.2 ⟨3,0,0,mG⟩=c/\b_ (gM 2) c.2 ⟨10,1,0,mG⟩=P/\b_ (gM 2) P.2 ⟨3,9,0,mG⟩=d/\b_ (gM 2) d.2 ⟨2,1,1,mG⟩=e/\b_ (gM 2) e.2 ⟨6,0,0,mG⟩=f/\
  n.1.id.1=0/\n.1.id.2=1/\n.1.code=0/\a.1.code=0/\b.1.code=0/\c.1.code=0/\P.1.st.cells.length=6/\(P.1.st.cells.getD 0 ⟨0,[]⟩).n=3/\d.1.code=14/\e.1.code=1/\f.2.now=1/\f.2.dq.length=1:=by
 have g:=TA;unfold wZ at g;simp only[QK,beq_iff_eq]at g;obtain⟨i,j⟩:=g;exact⟨_,_,_,_,_,_,_,_,_,Prod.ext i rfl,rfl,rfl,rfl,rfl,rfl,rfl,rfl,rfl,j⟩
section
variable {w w' w0 w1 w2 wb:World} {p i k g:Nat} {F F1 F' G G' T D:UK} {c:bL} {X:dE} {s:fV} {x:iK} {v:Value}
def FX(w:World)(g:Nat)(F:UK)(x:iK):Prop:=∃(P:bc) (a b:Nat) (c:bc) (d e:Nat) (f:bc) (h i:Nat) (G:UK),w.heap[g]? =some (.cells (fW x P a b c d e f h i).toArray 53 (0,0))/\Row gG 32 w G P a x.st.cells/\(∀n,G n->n<w.heap.size/\¬F n)/\¬F g
def FX.iJ(c:FX w g F x)(P:cz F w F' w'):FX w' g F' x:=by
 obtain⟨h,i,j,k,l,m,o,p,q,G,e,r,b,f⟩:=c;have s:=P.keep.size;have t:=aA e;exact⟨h,i,j,k,l,m,o,p,q,G,P.keep.get e f,r.keep P.keep λn a=>(b n a).2,λn a=>⟨by have:=(b n a).1;omega,λd=>(P.new n d).elim (b n a).2 λc=>by have:=(b n a).1;omega⟩,λd=>(P.new g d).elim f λc=>oM⟩
def FX.get(n:FX w g F x):∃cs:Array Value,w.heap[g]? =some (.cells cs 53 (0,0))/\cs[0]? =some (WP x.code)/\cs[1]? =some (WP x.id.1)/\cs[2]? =some (WP x.id.2):=by
 obtain⟨a,b,c,d,e,f,h,i,j,G,P,k,l,m⟩:=n;exact⟨_,P,rfl,rfl,rfl⟩
def qR(A:cB w0 w p F c X)(E:fX k X)(H:k<=999)(I:s.Ok)(f:∀n b F',w.heap.size<=n.heap.size->cB w0 b p F' c (b_ c X s).2->fX (k+1) (b_ c X s).2->cz F w F' b->FX b n.heap.size F' (b_ c X s).1->h7 n b):
  PC LL 13 #[RK p,lj s] w (λv n=>w_ (eE LL 53) λx=>v=x/\PA n (.cells #[WP 0,WP 0,WP 0,WP 0,.slice none 0 0,.slice none 0 0,.slice none 0 0,.bool false] 53) λw2=>oJ LL 53 (RK n.heap.size) x w2 λb=>h7 n b) a5:=by
 have N:=A.env.gr.size;refine PC.ok (Ry A E H I) ?_;rintro _ n ⟨F',⟨g,h,i,j,l,m,o,q,r,G,rfl,J,O,Q,t⟩,e,u,B⟩;have C:=e.aF;have K:=B.keep.size;refine cA (Rn _ g h i j l m o q r) ⟨rfl,PA.mk λw2 y R L=>aD (iU _ g h i j l m o q r) L rfl λb z S M=>f n b F' K ?_ u ?_ ?_⟩
 ·exact(e.af y).keep z (λa d P=>by have P:a=n.heap.size:=P;have:=C a d;omega) λa P=>by have P:a=n.heap.size:=P;omega
 ·exact(B.af y).last z λa P=>by have P:a=n.heap.size:=P;omega
 ·exact⟨g,h,i,j,l,m,o,q,r,G,M,(J.af y).keep z λa d P=>by have P:a=n.heap.size:=P;have:=(t a d).2.1;omega,λa d=>⟨by have:=(t a d).2.1;omega,(t a d).2.2⟩,λP=>by have:=C _ P;omega⟩
def mj(n:(decide (-1000000<=e)&&decide (e<=1000000)&&(decide (-1000000<=r)&&decide (r<=1000000))&&(decide (-1000000<=M)&&decide (M<=1000000)))=true):fV.Ok ⟨e,r,M,mG⟩:=by
 simp only[QK,Zk]at n;exact⟨by show aM e;unfold aM;omega,by show aM r;unfold aM;omega,by show aM M;unfold aM;omega,i10 rfl,i10 rfl,i10 rfl,i10 rfl,i10 rfl,i10 rfl⟩
def QA{n arg:Int}:be 25 #[WP n,WP arg] w (Ok λv w'=>v=xo ⟨0,n,0,1,arg,-1,0⟩/\ai w w'):=
 IX (PA.mk λw1 a f b=>aD (yv ⟨0,n,0,1,arg,-1,0⟩) b rfl λw2 c g d=>ar (yv ⟨0,n,0,1,arg,-1,0⟩) d (Ok.mk ⟨rfl,a.new c λe P=>.inr (by have P:e=w.heap.size:=P;omega)⟩))
set_option maxHeartbeats 2000000 in
def ID(Y:fw w0)(Z:Laid w0)(h0:ai w0 w):be 8 #[] w (Ok λv w'=>v= .bool true/\ai w w'):=by
 obtain⟨X,a0,f,a1,a2,g,a3,s,a4,e0,e1,e2,e3,e4,e5,e6,e7,e8,q1,q2,q3,q4,q5,q6,q7,q8,q9,a6,a7,a8⟩:=Qu;refine BK (PC.ok KB ?_);rintro _ w2 ⟨ta,tn,tc,pa,pn,pc,G2,rfl,a9,b0,r⟩;refine cA (XP (gM 2) ta tn tc pa pn pc) ⟨rfl,PC.ok (Ns (c:=gM 2) Y Z (h0.then r) a9 (λf l=>(b0 f l).2) (i10 rfl) (i10 rfl) (i10 rfl)) ?_⟩;rintro v5 w5 t;unfold Rz at t;rw[e0]at t;obtain⟨k5,⟨b1,-⟩|⟨-,p,F,rfl,z,hF,A⟩⟩:=t
 ·exact Zz rfl b1
 dsimp only at z A;generalize gM 2=c2 at*;have b2:=r.then k5;have b3:∀f,F f->w.heap.size<=f:=λf l=>by have:=hF f l;have:=r.size;omega
 refine⟨_,_,rfl,al.eK (λa=>Zz rfl a) (λ_=>ic Tryz.underlying33 ⟨_,rfl,al.ff rfl (PC.ok QA ?_)⟩)⟩;rintro _ w7 ⟨rfl,B⟩;refine⟨_,_,_,_,_,_,_,rfl,?_⟩;have b4:=b2.then B;refine qR (k:=0) (s:=⟨1,0,0,⟨0,0,0,1,3,-1,0⟩⟩) (z.af B) A oM ⟨i10 rfl,i10 rfl,i10 rfl,i10 rfl,i10 rfl,i10 rfl,i10 rfl,i10 rfl,i10 rfl⟩ λwa w8 Fa za C E c b=>?_;rw[e1]at C E b;refine qR (s:=⟨2,1,0,mG⟩) C E oM (mj rfl) λwb w9 Fb zb H I J d=>?_;rw[e2]at H I d;have b:=b.iJ J;have c:=c.trans J;refine qR (s:=⟨3,0,0,mG⟩) H I oM (mj rfl) λwd c8 Fd zd K L u P=>?_;rw[e3]at K L P;have b:=b.iJ u;have d:=d.iJ u;have c:=c.trans u;refine qR (s:=⟨3,0,0,mG⟩) K L oM (mj rfl) λwf c9 Ff zf M N q n=>?_;rw[e4]at M N n;have b:=b.iJ q;have d:=d.iJ q;have P:=P.iJ q;have c:=c.trans q;refine qR (s:=⟨10,1,0,mG⟩) M N oM (mj rfl) λwg d0 Fg zg O Q m h=>?_;rw[e5]at O Q h;have b:=b.iJ m;have d:=d.iJ m;have P:=P.iJ m;have n:=n.iJ m;have c:=c.trans m;refine qR (s:=⟨3,9,0,mG⟩) O Q oM (mj rfl) λwn d1 Fn zn R S k e=>?_;rw[e6]at R S e;have b:=b.iJ k;have d:=d.iJ k;have P:=P.iJ k;have n:=n.iJ k;have h:=h.iJ k;have c:=c.trans k;refine qR (s:=⟨2,1,1,mG⟩) R S oM (mj rfl) λws d2 Fs zs T U j is=>?_;rw[e7]at T U is;have b:=b.iJ j;have d:=d.iJ j;have P:=P.iJ j;have n:=n.iJ j;have h:=h.iJ j;have e:=e.iJ j;have c:=c.trans j;refine PC.ok (Ry (s:=⟨6,0,0,mG⟩) T U oM (mj rfl)) ?_;rintro _ b5 ⟨Ft,⟨sa,sn,sc,ea,en,ec,ra,rn,rc,-,rfl,-⟩,x,b6,i⟩;rw[e8]at x b6;have b:=b.iJ i;have d:=d.iJ i;have P:=P.iJ i;have n:=n.iJ i;have h:=h.iJ i;have e:=e.iJ i;have is:=is.iJ i;have c:=c.trans i;refine cA (Rn _ sa sn sc ea en ec ra rn rc) ⟨rfl,?_⟩;obtain⟨za,y,b7,b8,c1⟩:=b.get;obtain⟨zb,yb,c3,-⟩:=d.get;obtain⟨zd,yd,c4,-⟩:=P.get;obtain⟨zf,yf,c5,-⟩:=n.get;obtain⟨zn,yn,c6,-⟩:=e.get;obtain⟨zs,ys,c7,-⟩:=is.get;obtain⟨d3,d4,d5,d6,ZU,d7,d8,d9,e9,Gg,V,W,-,-⟩:=h;have f2:=W.len;obtain⟨b9,o9,f4,f5,f6,rfl,f8,-,a5,-⟩:=nI (i:=0) W oM;have o:ai w b5:=b4.new c.keep λf l=>.inr (b3 f l);refine⟨_,_,ae y b8,ae y c1,aK.mk Wt ⟨_,rfl,al.tt (by rw[q1,q2];rfl) ⟨_,ae y b7,al.eI (λ_=>⟨_,ae yb c3,al.eI (λ_=>⟨_,ae yd c4,al.eI (λ_=>⟨_,ae yf c5,al.eI (λ_=>⟨_,_,_,ae V rfl,al.eI (λ_=>⟨_,_,_,ae V rfl,b9,o9,rfl,oM,oM,_,a5,al.eI (λ_=>⟨_,ae yn c6,al.eI (λ_=>⟨_,ae ys c7,al.eI (λ_=>?_) (λa=>Zz a6 a)⟩) (λa=>Zz q9 a)⟩) (λa=>Zz q8 a)⟩) (λa=>Zz oM a)⟩) (λa=>Zz q6 a)⟩) (λa=>Zz q5 a)⟩) (λa=>Zz q4 a)⟩) (λa=>Zz q3 a)⟩⟩⟩;refine PC.ok (Av x) ?_;rintro _ _ ⟨rfl,rfl⟩;refine⟨_,rfl,al.eI (λ_=>PC.ok (oS x) ?_) (λa=>Zz a7 a)⟩;rintro _ _ ⟨rfl,rfl⟩;refine⟨_,rfl,Ok.mk ⟨?_,o⟩⟩;rw[a8];rfl
end
def ly(n:bL)(P:bc)(tn a:Nat)(b:bc)(c d:Nat)(e:bc)(f g:Nat):List Value:=eX n P tn a b c d++[.slice e f g]
abbrev Nt(n:bL)(P:bc)(tn a:Nat)(b:bc)(c d:Nat)(e:bc)(f g:Nat):Value:=.agg (ly n P tn a b c d e f g).toArray
def Wb(n:bL)(P:bc)(tn a:Nat)(b:bc)(c d:Nat)(e:bc)(f g:Nat):iQ LL 30 (ly n P tn a b c d e f g)=true:=kR
def IC:ky fV:=flat 10 lx fV.Ok (λ_=>rfl) (λP a n=>by simp[lx,iX]at n;rcases n with rfl|rfl|rfl|rfl|rfl|rfl|rfl|rfl|rfl|rfl<;>rfl)
section
variable {w w' w0 w1 w2 wb:World} {p q i k g:Nat} {F F1 F' G G' T D E:UK} {c:bL} {X Y:dE} {s:fV} {x:iK} {v:Value} {ta pa la:bc} {tn tc pn pc ln lc:Nat} {l:List fV}
def Lq(f:bu w D c.decl ta tn pa pn)(g:Row IC 80 w E la ln l):
  be 7 #[Nt c ta tn tc pa pn pc la ln lc] w (Ok λv w'=>(∃P:Bool,v= .bool P/\(P=false->l.length<=300))/\ai w w'):=by
 have h:=g.len;refine GA (PA.mk λw1 d i a=>⟨_,_,_,_,_,_,ae a rfl,ae a rfl,PC.ok (Lr (f.af d)) ?_⟩);rintro _ w2 ⟨⟨P,rfl⟩,e⟩;have n:=d.then e;have b:=e.get a id;exact⟨_,rfl,al.mk (λ_=>Ok.mk ⟨⟨_,rfl,sM⟩,n⟩) (λ_=>⟨_,_,_,ae b rfl,al.dec (λ_=>Ok.mk ⟨⟨_,rfl,sM⟩,n⟩) (λj=>⟨_,ae b rfl,al.dec (λ_=>⟨_,ae b rfl,Ok.mk ⟨⟨_,rfl,λ_=>oM⟩,n⟩⟩) (λ_=>Ok.mk ⟨⟨_,rfl,λ_=>oM⟩,n⟩)⟩)⟩)⟩
def RA(a:fw w0)(b:Laid w0)(n:ai w0 w):PC LL 8 #[] w (λv w2=>∃P:Bool,v= .bool P/\Ok (λv w'=>v= .bool true/\ai w0 w') (.returned (.bool P)) w2) a5:=by
 refine PC.ok (ID a b n) ?_;rintro _ w' ⟨rfl,k⟩;exact⟨_,rfl,Ok.mk ⟨rfl,n.then k⟩⟩
def TY(P:w.heap[g]? =some (.cells (ly c ta tn tc pa pn pc la ln lc).toArray 30 (0,0)))(a:Q (xm c ta tn tc pa pn pc)):jW LL 27 (RK g) w Q:=
 No (es:=eX c ta tn tc pa pn pc) (IA c ta tn tc pa pn pc) P (λn b=>by rcases n with _|_|_|_|_|_|_|_|_|_|n<;>first|rfl|exact Zz b (by simp[eX])) a
def RB(c:Row IC 80 w E la ln l){j:Nat}(d:j<ln):∃n P s,la=some ⟨n,P,none⟩/\n<w.heap.size/\E n/\l[j]? =some s/\s.Ok/\∀a:Value->Prop,a (lj s)->jW LL 40 (.pointer (some ⟨n,P+j*10,none⟩)) w a:=by
 obtain⟨n,P,s,p,e,f,g,h,i,rfl,k⟩:=c.Iq (i:=j) d;exact⟨n,P,s,e,f,g,h,k,λa b=>cx (es:=lx s) (k:=10) (Bg s) rfl (λm o=>i m o) b⟩
end
def au.UC(n:N∈H.l):N∈(H.add l).2.l:=by
 rcases H.gq l with⟨-,P⟩|⟨a,-⟩
 ·rw[P];exact n
 ·rw[a];exact(cN l H.l).mem_iff.2 (QJ _ n)
def au.wu:∀(P:List ah) {S:au} {n:ah},n∈S.l->n∈(S.eD P).l
 |[],S,n,a=>a
 |e::P,S,n,a=>au.wu P (S:=(S.add e).2) (au.UC a)
def au.EU:∀(a:List ah) {S:au} {P:ah},P∈(S.eD a).l->P∈S.l\/P∈a
 |[],S,P,b=>.inl b
 |e::a,S,P,b=>by
  rcases au.EU a (S:=(S.add e).2) b with n|n
  ·rcases S.gq e with⟨-,c⟩|⟨c,-⟩
   ·rw[c]at n;exact .inl n
   ·rw[c]at n
    rcases Q2.1 ((cN e S.l).mem_iff.1 n)with d|d
    ·exact .inr (d▸QV ..)
    ·exact .inl d
  ·exact .inr (QJ _ n)
section
variable {D E:ak} {A:oO} {no:Int} {l x:List ah} {k d:Nat} {V:dw} {c:bL} {X:bg} {ref:Bool} {Q:ah->Prop}
def pA(P:D.dead=true)(n:ak->Int×ak):D.op n=(15,D.gone):=by
 unfold ak.op ak.dies;rw[P];rfl
def Jn(n:D.dead=true):Go.Proofs.YtjgjkeponbeekaaGreatDoor.bz V D=(15,V,D.gone):=by
 unfold bz;have:D.create (cH (ax V.next))=(15,D.gone):=pA n _;dsimp only;rw[this,Zx sM]
def uP(n:D.dead=true):aH V D=(15,V,D.gone):=by
 unfold aH;split
 ·exact Jn n
 ·have:D.sync V.last=(15,D.gone):=pA n _
  dsimp only;rw[this,Zx sM]
def yJ(n:D.dead=true)(x:List ah):(aE V D x).2.2.files=D.files/\(aE V D x).2.2.dead=true/\(x≠[]->(aE V D x).1≠0):=by
 unfold aE;split
 ·exact⟨rfl,n,λ_=>sM⟩
 split
 ·rename_i a;exact⟨rfl,n,λb=>Zz a b⟩
 dsimp only
 by_cases P:V.size<=V.bytes
 ·rw[Zx P,uP n,Zx sM]
  exact⟨rfl,rfl,λ_=>sM⟩
 ·rw[Zq P,Zq sM]
  have:D.append V.last (az x)=(15,D.gone):=pA n _;rw[this,Zx sM];exact⟨rfl,rfl,λ_=>sM⟩
def Hg(n:D.dead=true){size:Int}:(aQ V D x size).no≠0/\(aQ V D x size).D.files=D.files/\(aQ V D x size).D.dead=true:=by
 unfold aQ;split
 ·rename_i P;exact⟨P,rfl,n⟩
 have:bC V.next (bI x).1 D=(15,D.gone):=by
  unfold bC;have:D.create (cH (ax V.next))=(15,D.gone):=pA n _;dsimp only;rw[this,Zx sM]
 rw[this,Zx sM];exact⟨sM,rfl,rfl⟩
def Pu(b:an D.files w=some ⟨u,a,K⟩)(n:(D.sync w).1≠0):(D.sync w).1=15/\(D.sync w).2=D.gone:=by
 unfold ak.sync at n⊢;rcases rq D (ak.yB w λD P=>(0,D.fy w (P.cut P.bytes.length)))with e|e
 ·rw[e];exact⟨rfl,rfl⟩
 ·rw[e]at n
  unfold ak.yB at n;rw[dU,b]at n;exact Zz rfl n
def cF.Sr(g:cF D A no l k)(b:EB V A no l)(i:∀n∈x,n.Ok/\n.aN.length<=64){size:Int}:
  ((aQ V D x size).no≠0/\cF (aQ V D x size).D A no l k)\/
  (cF (aQ V D x size).D [] V.next x x.length/\((aQ V D x size).no=0/\EB (aQ V D x size).V [] V.next x/\(aQ V D x size).V.size=size\/(aQ V D x size).no≠0/\(aQ V D x size).D.dead=true)):=by
 have r:bI x=(az x,0):=by
  unfold bI;rw[Zq];intro s;obtain⟨n,t,j⟩:=List.any_eq_true.1 s;have:=(i n t).2;unfold eS at j;simp at j;omega
 unfold aQ;rw[r,Zq sM];rcases g.bC b i with⟨c,m⟩|⟨c,m,h⟩
 ·dsimp only
  rw[Zx c];exact .inl ⟨c,m⟩
 dsimp only;rw[Zq (by simpa using c)];generalize(Go.Proofs.YtjgjkeponbeekaaGreatDoor.bC V.next (az x) D).2=o at h;have u:=g.ne_next b;obtain⟨v,p⟩:=Br V.a_ h.tidy;have P:cF (jL V.a_ o) [] V.next x x.length:=by
  refine h.same v (λd e=>?_) (p _ λd e n=>?_)
  ·obtain rfl:d=V.next:=by simpa[cY]using e
   exact p _ λw q n=>u w (by rw[b.a_]at q;exact q) n.symm
  ·rw[b.a_]at e
   exact(fB (n:=d) (.inr (by have:=g.Ar d e;omega))).1 n.symm
 generalize jL V.a_ o=a at P
 cases f:a.dead with
 |false=>
  have y:V.next<iD a:=by
   obtain⟨F,z,-⟩:=P.last;have:=P.ug;exact Jo oM (by rw[z];rfl)
  have:=sA a.list;rw[LA P f];exact .inr ⟨P,.inl ⟨rfl,⟨rfl,rfl,y,this.2⟩,rfl⟩⟩
 |true=>
  obtain⟨B,C⟩:=OR (size:=size) f;refine .inr ⟨P.files C,.inr ⟨by rw[B];simp,?_⟩⟩;have E:told a=[]:=by
   have:a.read bZ=([],15):=by unfold ak.read;rw[f];rfl
   unfold told dF;rw[this];rfl
  unfold aS;rw[E];unfold cO gv;rw[Zq sM,Zx (show(dP a size).a_=[]from rfl),show aH _ _=_ from uP f]
  rfl
def Jp(P:cF D A no l k)(n:Int):cg (dv (D.ey n))/\Tidy (dv (D.ey n)).files/\(∀a∈cY A++[no],an (dv (D.ey n)).files (ay a)=an (D.ey n).files (ay a))/\an (dv (D.ey n)).files bZ=an (D.ey n).files bZ:=by
 have g:=Je D n;have j:=LZ P.tidy n;have m:∀x∈cY A++[no],aM x:=λx p=>by have:=P.Ar x p;unfold aM;omega
 have q:(cY A++[no]).length<=64:=by have:=P.many;simpa[cY]using this
 have r:dF (D.ey n)=some (cY A++[no]):=by
  unfold dF;rw[g.read (uM P.tidy n P.WZ),Zq sM,show(dT (bQ (cY A++[no]))).bytes=bQ (cY A++[no])from rfl,oX m q]
 have o:∀c∈GF (D.ey n),(∀a∈cY A++[no],ay a≠c)/\bZ≠c:=λc d=>by
  have b:=(List.mem_filter.1 d).2;unfold jK at b;rw[r]at b;refine⟨λa h e=>?_,λe=>?_⟩
  ·have m:=P.Ar a h
   subst e;rw[xW oM,Xv (fB (n:=a) (.inr oM)).2]at b;simp only[Option.getD_some,Zy h]at b;simp at b
  ·subst e
   rw[Xv KW,RN]at b;simp at b
 have f:∀(i:List ByteArray) {D:ak},Tidy D.files->Tidy (KV D i).files:=by
  intro i
  induction i with
  |nil=>intro D P;exact P
  |cons c i s=>
   intro D P;refine s (D:=(D.delete c).2) ?_;rcases jH D c with e|e
   ·rw[e];exact P
   ·rw[e];exact P.bK _
 refine⟨Bc _ g,f _ j,λa h=>?_,?_⟩
 ·unfold dv
  rw[Bd _ g j,Zq λd=>(o _ d).1 a h rfl]
 ·unfold dv
  rw[Bd _ g j,Zq λd=>(o _ d).2 rfl]
def Ms{size keep:Int}(n:cF D A no l k):∃P,k<=P/\P<=l.length/\(aS (dv (D.ey keep)) size).no=0/\(aS (dv (D.ey keep)) size).out=cj A (l.take P)/\EB (aS (dv (D.ey keep)) size).V A no (l.take P)/\(aS (dv (D.ey keep)) size).V.size=size/\
  cF (aS (dv (D.ey keep)) size).D A no (l.take P) P/\cg (aS (dv (D.ey keep)) size).D:=by
 obtain⟨g,h,d,i⟩:=Jp n keep;obtain⟨j,m,z,o⟩:=n.last;obtain⟨a,B,C,p⟩:=EG keep (az l) o;have e:an (D.ey keep).files (ay no)=some ⟨(az l).take a,((az l).take a).length,true⟩:=by
  rw[EF n.tidy,m];show(if true then some (tk keep ⟨az l,j,true⟩)else none)=_;rw[p];rfl
 have q:((az l).take a).length=a:=by simp;omega
 rw[q]at e;obtain⟨P,r,s,E,t,u,v,w,F,H,b,c,y⟩:=Pv (size:=size) (n:=a) g h n (λx f=>by rw[d x.1 (ZV _ (Xk.2 ⟨x,f,rfl⟩))];exact uM n.tidy keep (n.full x f)) (by rw[i];exact uM n.tidy keep n.WZ) (by rw[d no sM];exact e) oM oM;exact⟨P,r,s,t,u,v,w,c oM,b⟩
structure fA (Q:ah->Prop) (c:bL) (X:bg) (ref:Bool):Prop where
 log:∃V A no l k d,X.log=some V/\cF X.D A no l k/\(X.D.dead=true\/EB V A no l/\V.size=c.bj)/\XR c.bj A/\X.S=(⟨c.aC.toNat,[]⟩:au).eD ((cj A l).take d)/\d<=Jq A k/\(d<(cj A l).length->X.D.dead=true/\ref=true)/\∀e∈cj A l,Q e
def sB(A:oO)(l:List ah):(cj A l).length=Jq A l.length:=by unfold cj Jq;simp
def fA.same{Y:bg}(b:fA Q c X ref)(e:Y.S=X.S)(n:Y.D=X.D)(f:Y.log=X.log){r2:Bool}(g:ref=true->r2=true):fA Q c Y r2:=by
 obtain⟨V,A,no,l,k,d,h,i,j,m,o,p,P,q⟩:=b.log;exact⟨V,A,no,l,k,d,by rw[f];exact h,by rw[n];exact i,by rw[n];exact j,m,by rw[e];exact o,p,λa=>⟨by rw[n];exact(P a).1,g (P a).2⟩,q⟩
def fA.Gz(n:fA Q c X ref)(P:Int):fA Q c {X with D:=X.D.Gz P} ref:=by
 obtain⟨V,A,no,l,k,d,a,b,e,f,g,h,i,j⟩:=n.log;exact⟨V,A,no,l,k,d,a,b.files rfl,e,f,g,h,i,j⟩
def fA.take(q:fA Q c X ref)(E:X.S.Cl)(F:X.S.n=c.aC.toNat)(T:X.D.Ok)(H:∀b∈x,b.Ok/\Q b)(U:x.length<=20000000):
  ((de c X x).1=0/\(de c X x).2.S=X.S.eD x/\∀I,fA Q c (de c X x).2 I)\/
  ((de c X x).1≠0/\(de c X x).2.S=X.S/\fA Q c (de c X x).2 (ref||(de c X x).1==15)):=by
 obtain⟨V,A,no,l,k,d,W,m,Y,r,h,J,s,o⟩:=q.log;have n:de c X x=(if(aE V X.D x).1≠0 then((aE V X.D x).1,{X with log:=some (aE V X.D x).2.1,D:=(aE V X.D x).2.2})else
   if((aE V X.D x).2.2.sync (aE V X.D x).2.1.last).1≠0 then(((aE V X.D x).2.2.sync (aE V X.D x).2.1.last).1,{X with log:=some (aE V X.D x).2.1,D:=((aE V X.D x).2.2.sync (aE V X.D x).2.1.last).2})else
   (0,{X with log:=some (aE V X.D x).2.1,D:=((aE V X.D x).2.2.sync (aE V X.D x).2.1.last).2,S:=e_ c X.S x})):=by
  unfold de;rw[W]
 by_cases t:X.D.dead=true
 ·obtain⟨K,u,e3⟩:=yJ (V:=V) t x
  generalize aE V X.D x=P at*
  by_cases a:P.1≠0
  ·rw[Zx a]at n
   rw[n];exact .inr ⟨a,rfl,P.2.1,A,no,l,k,d,rfl,m.files K,.inl u,r,h,J,λf=>⟨u,by rw[(s f).2];rfl⟩,o⟩
  ·rw[Zq a]at n
   have Z:P.2.2.sync P.2.1.last=(15,P.2.2.gone):=pA u _;rw[Z,Zx sM]at n;rw[n];exact .inr ⟨sM,rfl,P.2.1,A,no,l,k,d,rfl,m.files K,.inl rfl,r,h,J,λf=>⟨rfl,by rw[(s f).2];rfl⟩,o⟩
 obtain⟨hv,L⟩:=Y.resolve_left t;have a0:(cj A l).length<=d:=Nat.le_of_not_lt λa1=>t (s a1).1;rw[Qz a0]at h;have M:(cj A l).length=Jq A k:=by
  have:=sB A l;have:=m.kl;unfold Jq at*;omega
 obtain⟨i,v,g,N,w,y,O,e,z,p,f7⟩:=yK (x:=x) m hv (λb B=>(H b B).1) U T (by rw[L];exact r);rw[L]at z p;generalize aE V X.D x=P at*
 by_cases a:P.1≠0
 ·rw[Zx a]at n
  rw[Zq a]at e;rw[n];exact .inr ⟨a,rfl,P.2.1,i,v,g,N,(cj i g).length,rfl,w,.inr ⟨y,z⟩,p,by rw[List.take_length,e];exact h,by rw[e,M];exact O,λf=>Zz f (Nat.lt_irrefl _),by rw[e];exact o⟩
 rw[Zq a]at n;have a:P.1=0:=Classical.not_not.1 a;rw[Zx a]at e;rw[cF.uQ y]at n;obtain⟨a2,s1,s2,s3⟩:=w.last;have R:∀b∈cj i g,Q b:=by rw[e];exact λb B=>(Q6.1 B).elim (o b) λq=>(H b q).2
 rcases EV w with⟨j,C⟩|⟨j,C⟩
 ·rw[Zq (by rw[j];simp)]at n
  rw[n];refine .inl ⟨rfl,wv E F x,λI=>⟨P.2.1,i,v,g,g.length,(cj i g).length,rfl,C,.inr ⟨y,z⟩,p,?_,by rw[sB];exact Q4 _,λf=>Zz f (Nat.lt_irrefl _),R⟩⟩;rw[List.take_length,e,au.Bf,<-h];exact wv E F x
 ·obtain⟨z1,S⟩:=Pu s1 j
  rw[Zx j]at n;rw[n];refine .inr ⟨j,rfl,P.2.1,i,v,g,N,(cj A l).length,rfl,C,.inl (by rw[S];rfl),p,?_,by rw[M];exact O,λ_=>⟨by rw[S];rfl,by rw[z1];simp⟩,R⟩;rw[e,List.take_left];exact h
def fA.ey(P:fA Q c X ref)(keep:Int):(ie c X keep).1=0/\(∀a∈X.S.l,a∈(ie c X keep).2.S.l)/\(ref=false->(ie c X keep).2.S=X.S)/\fA Q c (ie c X keep).2 false:=by
 obtain⟨V,A,no,l,k,d,C,g,E,h,e,i,j,m⟩:=P.log;obtain⟨n,F,o,p,q,r,s,t,H⟩:=Ms (size:=c.bj) (keep:=keep) g;have u:ie c X keep=(0,{X with D:=(aS (dv (X.D.ey keep)) c.bj).D,waits:=[],gI:=⟨X.gI.di,[],[]⟩,log:=some (aS (dv (X.D.ey keep)) c.bj).V,S:=(⟨c.aC.toNat,[]⟩:au).eD (cj A (l.take n))}):=by
  unfold ie fF;dsimp only;rw[Zq (by rw[p];simp),q]
 have v:(cj A l).take d=(cj A (l.take n)).take d:=by
  have f:d<=((A.map (·.2)).flatten).length+n:=by unfold Jq at i;omega
  unfold cj;rw[List.take_append,List.take_append,List.take_take,X2 oM]
 have w:(⟨c.aC.toNat,[]⟩:au).eD (cj A (l.take n))=X.S.eD ((cj A (l.take n)).drop d):=by
  rw[e,v,<-au.Bf,ZX]
 rw[u];refine⟨rfl,λa b=>?_,λx=>?_,_,A,no,l.take n,n,(cj A (l.take n)).length,rfl,t,.inr ⟨r,s⟩,h,by rw[List.take_length],?_,λf=>Zz f (Nat.lt_irrefl _),λa b=>m a ?_⟩
 ·show a∈((⟨c.aC.toNat,[]⟩:au).eD (cj A (l.take n))).l
  rw[w];exact au.wu _ b
 ·show(⟨c.aC.toNat,[]⟩:au).eD (cj A (l.take n))=X.S
  have y:(cj A l).length<=d:=Nat.le_of_not_lt λz=>by have:=(j z).2;rw[x]at this;cases this
  have:=sB A l;have B:n=l.length:=by unfold Jq at*;omega
  rw[B,List.take_length,e,Qz y]
 ·rw[sB];unfold Jq;rw[Qy,X2 o];exact Q4 _
 ·unfold cj at b⊢
  exact(Q6.1 b).elim (λP=>ZV _ P) λP=>ZW _ (List.mem_of_mem_take P)
def fA.UD(y:fA Q c X ref)(f:X.S.Cl)(z:X.S.n=c.aC.toNat):(dd c X).2.S=X.S/\fA Q c (dd c X).2 ref:=by
 obtain⟨V,A,no,l,k,d,g,q,B,r,i,s,t,j⟩:=y.log;have P:dd c X=(if(aQ V X.D X.S.l c.bj).no≠0 then((aQ V X.D X.S.l c.bj).no,{X with D:=(aQ V X.D X.S.l c.bj).D})else(0,{X with D:=(aQ V X.D X.S.l c.bj).D,log:=some (aQ V X.D X.S.l c.bj).V})):=by
  unfold dd;rw[g]
 refine⟨by rw[P];split<;>rfl,?_⟩
 by_cases m:X.D.dead=true
 ·obtain⟨C,E,u⟩:=Hg (V:=V) (x:=X.S.l) (size:=c.bj) m
  rw[Zx C]at P;rw[P];exact⟨V,A,no,l,k,d,g,q.files E,.inl u,r,i,s,λa=>⟨u,(t a).2⟩,j⟩
 obtain⟨v,F⟩:=B.resolve_left m;have L:(cj A l).length<=d:=Nat.le_of_not_lt λH=>m (t H).1;have I:∀n∈X.S.l,n.Ok/\n.aN.length<=64:=λn b=>⟨f.ok.ok n b,by
  obtain⟨-,-,-,-,-,-,M,-⟩:=nV (f.ok.Yw n b);have:=f.ok.n;omega⟩
 have w:X.S=(⟨c.aC.toNat,[]⟩:au).eD X.S.l:=by rw[<-z];exact f.VX.symm
 have x:∀n∈cj [] X.S.l,Q n:=λn b=>by
  have b:n∈X.S.l:=b;rw[i]at b;exact j n (List.mem_of_mem_take ((au.EU _ b).resolve_left sM))
 rcases q.Sr v I (size:=c.bj)with⟨h,e⟩|⟨h,⟨e,o,J⟩|⟨e,o⟩⟩
 ·rw[Zx h]at P
  rw[P];exact⟨V,A,no,l,k,d,g,e,.inr ⟨v,F⟩,r,i,s,λa=>Zz a oM,j⟩
 ·rw[Zq (by rw[e];simp)]at P
  rw[P];exact⟨_,[],V.next,X.S.l,X.S.l.length,X.S.l.length,rfl,h,.inr ⟨o,J⟩,λK p=>by simp at p,by rw[show(cj [] X.S.l)=X.S.l from rfl,List.take_length];exact w,by unfold Jq;simp,λa=>Zz a (by rw[show(cj [] X.S.l)=X.S.l from rfl];exact Nat.lt_irrefl _),x⟩
 ·rw[Zx e]at P
  rw[P];exact⟨V,[],V.next,X.S.l,X.S.l.length,X.S.l.length,g,h,.inl o,λK p=>by simp at p,by rw[show(cj [] X.S.l)=X.S.l from rfl,List.take_length];exact w,by unfold Jq;simp,λa=>Zz a (by rw[show(cj [] X.S.l)=X.S.l from rfl];exact Nat.lt_irrefl _),x⟩
def OF{self:Int}(n:(cC c self).1=0):fA Q c (cC c self).2 false/\(cC c self).2.waits=[]:=by
 have b:cC c self=Cg c:=by
  unfold cC at n⊢;split
  ·rename_i P;rw[Zx P]at n;exact Zz n P
  rename_i P;rw[Zq P]at n;split
  ·rename_i d;rw[Zx d]at n;simp at n
  ·rfl
 rw[b]at n⊢;unfold Cg fF at n⊢;dsimp only at n⊢;rcases Ss c.uO.toNat c.bj with a|⟨a,e,f,g,h,l,m,o⟩
 ·rw[Zx oM]at n
  exact Zz n dg
 ·rw[Zq (by rw[a];simp)]
  exact⟨⟨_,[],1,[],0,0,rfl,f,.inr ⟨g,h⟩,λp i=>by simp at i,by rw[e];rfl,Qj _,λj=>by simp[cj]at j,λq k=>by simp[cj]at k⟩,rfl⟩
def Mt{P x:ah}(n:x∈(eV a F P).2):x=P\/x∈F:=by
 unfold eV at n;split at n
 ·exact .inr n
 ·exact Q2.1 ((cN P F).mem_iff.1 n)
def wx(n:Nat)(Q:ah->Prop):∀(l:List ah) (f:au) (P b:List ah),(∀e∈l,Q e)->(∀e∈P,Q e)->(∀e∈b,Q e)->(∀e∈(gV n l f P b).2.1,Q e)/\∀e∈(gV n l f P b).2.2,Q e
 |[],f,P,b,_,c,d=>⟨c,d⟩
 |e::l,f,P,b,h,c,d=>by
  have i:=h e (QV ..);have g:∀x∈l,Q x:=λx a=>h x (QJ _ a);unfold gV;split
  ·exact wx n Q l _ _ _ g (λx a=>(Q6.1 a).elim (c x) λa=>by rw[List.mem_singleton.1 a];exact i) d
  split
  ·exact wx n Q l _ _ _ g c d
  ·exact wx n Q l _ _ _ g c λx a=>(Mt a).elim (λj=>by rw[j];exact i) (d x)
def rL(Q:ah->Prop):∀(l:List ah) (b:au) (n:List ah),(∀e∈l,Q e)->(∀e∈n,Q e)->∀e∈(eG l b n).2,Q e
 |[],b,n,_,a=>a
 |e::l,b,n,c,a=>by
  have d:∀x∈l,Q x:=λx P=>c x (QJ _ P);unfold eG;split
  ·exact rL Q l _ _ d λx P=>(Q6.1 P).elim (a x) λP=>by rw[List.mem_singleton.1 P];exact c e (QV ..)
  ·exact rL Q l _ _ d a
def wy(Q:ah->Prop):∀(l:List ah) (P:au) {a:ah×au×List ah},dO P l=some a->(∀e∈l,Q e)->Q a.1/\∀e∈a.2.2,Q e
 |[],P,a,n,_=>by cases n
 |e::l,P,a,n,c=>by
  unfold dO at n;split at n
  ·cases n;exact⟨c e (QV ..),λx b=>c x (QJ _ b)⟩
  ·cases d:dO P l with
   |none=>rw[d]at n;cases n
   |some i=>
    rw[d]at n
    cases n
    obtain⟨f,g⟩:=wy Q l P d λx b=>c x (QJ _ b);exact⟨f,λx b=>(Q2.1 b).elim (λh=>by rw[h];exact c e (QV ..)) (g x)⟩
def wA(Q:ah->Prop):∀(k:Nat) (a:au) (l n:List ah),(∀P∈l,Q P)->(∀P∈n,Q P)->(∀P∈(du k a l n).1,Q P)/\∀P∈(du k a l n).2,Q P
 |0,a,l,n,b,c=>⟨c,b⟩
 |k+1,a,l,n,b,c=>by
  unfold du
  cases e:dO a l with
  |none=>exact⟨c,b⟩
  |some h=>
   obtain⟨f,g⟩:=wy Q l a e b;exact wA Q k _ _ _ g λx d=>(Q6.1 d).elim (c x) λd=>by rw[List.mem_singleton.1 d];exact f
def Jr(Q:ah->Prop):∀(k:Nat) (P:au) (a b:List ah),(∀n∈a,Q n)->(∀n∈b,Q n)->(∀n∈(pU k P a b).1,Q n)/\∀n∈(pU k P a b).2,Q n
 |0,P,a,b,c,e=>⟨c,e⟩
 |k+1,P,a,b,c,e=>by
  unfold pU;have d:=wA Q ((b.filter λn=>(P.get (bd n)).isNone).length+1) P (b.filter λn=>(P.get (bd n)).isNone) [] (λx f=>e x (List.mem_filter.1 f).1) sM;have n:bF P b=du ((b.filter λn=>(P.get (bd n)).isNone).length+1) P (b.filter λn=>(P.get (bd n)).isNone) []:=rfl;rw[<-n]at d;dsimp only;split
  ·exact⟨c,d.2⟩
  ·exact Jr Q k _ _ _ (rL Q _ _ _ d.1 c) d.2
def EW{c:bL}{X:bg}{l:List ah}(Q:ah->Prop)(P:∀n∈l,Q n)(a:∀n∈X.waits,Q n):(∀n∈(gK c X l).1,Q n)/\∀n∈(gK c X l).2,Q n:=by
 obtain⟨b,d⟩:=wx c.buffer.toNat Q l (e_ c X.S []) [] X.waits P sM a;exact Jr Q _ _ _ _ b d
def Ch(c:bL)(X:bg)(x:List ah):(de c X x).2.waits=X.waits:=by
 unfold de
 cases X.log with
 |none=>rfl
 |some V=>
  dsimp only;split
  ·rfl
  split<;>rfl
def Js(ref:Bool)(kind no:Int):Bool:=ref&&kind !=4||(kind==0||kind==2)&&(no==15||no==12)
structure pW (Q:ah->Prop) (c:bL) (X:bg) (ref:Bool) (kind:Int) (r:Int×bg):Prop where
 Yu:∀e∈X.S.l,e∈r.2.S.l
 YQ:fA Q c r.2 (Js ref kind r.1)
 idle:kind≠0->kind≠2->kind≠4->r.2.S=X.S
 no:kind=0\/kind=2->r.1≠0->r.2.S=X.S
 cr:kind=4->ref=false->r.2.S=X.S
 wait:∀e∈r.2.waits,e.Ok/\Q e
def oz{ref:Bool}{n no:Int}(P:n≠4)(a:ref=true):Js ref n no=true:=by unfold Js;rw[a];simp[P]
def pW.still{no:Int}(P:fA Q c X ref)(b:e≠4)(n:d8.S=X.S)(d:d8.D=X.D)(f:d8.log=X.log)(g:∀a∈d8.waits,a.Ok/\Q a):pW Q c X ref e (no,d8):=
 ⟨λa h=>by rw[n];exact h,P.same n d f (oz b),λ_ _ _=>n,λ_ _=>n,λP=>Zz P b,g⟩
def EX(n:ei e6 a e=0)(b:e6.kind=3)(c:e<=32):e6.events.length<=32:=by
 rcases Nat.lt_or_ge 32 e6.events.length with P|P
 ·exfalso
  unfold ei at n;rw[Zx b]at n;split at n
  ·cases n
  ·unfold eB at n
   split at n
   ·cases n
   ·rw[Zx (.inr oM)]at n;cases n
 ·exact P
def fA.call{a:T_}(b:fA Q c X ref)(f:∀P∈X.waits,P.Ok/\Q P)(v:X.S.Cl)(w:X.S.n=c.aC.toNat)(B:X.D.Ok)(E:a.cmd.Ok)(F:∀P∈a.m.events,P.Ok/\Q P)(H:a.kind=0->(fQ c.decl X.S (bR c.decl X.S.l) e c.start a.cmd).2.1=true->Q (fQ c.decl X.S (bR c.decl X.S.l) e c.start a.cmd).1)(I:aM e)(J:aM c.start)(K:X.S.l.length<=20000000)(W:X.waits.length<=256)(L:c.chunk<=32):
  pW Q c X ref a.kind (RD c e X a):=by
 unfold RD;split
 ·rename_i h
  have i:a.kind≠4:=oM
  obtain⟨V,A,no,l,k,d,t,-⟩:=b.log;unfold eR;rw[t];dsimp only;split
  ·exact pW.still b i rfl rfl rfl f
  split
  ·rename_i M
   have N:=NI (d:=c.decl) (V:=bR c.decl X.S.l) E v.ok I J K;have r:=b.take (x:=[(fQ c.decl X.S (bR c.decl X.S.l) e c.start a.cmd).1]) v w B (λP g=>by rw[List.mem_singleton.1 g];exact⟨N,H h M⟩) sM;have o:=Ch c X [(fQ c.decl X.S (bR c.decl X.S.l) e c.start a.cmd).1];generalize de c X [(fQ c.decl X.S (bR c.decl X.S.l) e c.start a.cmd).1]=x at r o;rcases r with⟨p,m,q⟩|⟨p,m,q⟩
   ·rw[Zq (by rw[p];simp)]
    exact⟨λP g=>by dsimp only;rw[m];exact au.wu _ g,q _,λn=>Zz h n,λ_ n=>Zz rfl n,λn=>Zz n i,by dsimp only;rw[o];exact f⟩
   ·rw[Zx p]
    refine⟨λP g=>by dsimp only;rw[m];exact g,q.same rfl rfl rfl λj=>?_,λn=>Zz h n,λ_ _=>m,λn=>Zz n i,by dsimp only;rw[o];exact f⟩;rcases Bool.or_eq_true .. ▸j with j|j
    ·exact oz i j
    ·unfold Js;dsimp only;rw[j,h];simp
  ·exact pW.still b i rfl rfl rfl f
 split
 ·rename_i h
  unfold fp;split<;>exact pW.still b oM rfl rfl rfl f
 split
 ·rename_i h
  have i:a.kind≠4:=oM
  obtain⟨V,A,no,l,k,d,t,-⟩:=b.log;unfold cu;rw[t];dsimp only;split
  ·exact pW.still b i rfl rfl rfl f
  rename_i O;split
  ·exact pW.still b i rfl rfl rfl f
  split
  ·rename_i R
   have Y:=EX (Classical.not_not.1 O) R L;unfold lH;obtain⟨C,y⟩:=EW (c:=c) (X:=X) (λP=>P.Ok/\Q P) F f;have S:=uR c X a.m.events;generalize gK c X a.m.events=s at C y S;dsimp only;split
   ·exact pW.still b i rfl rfl rfl y
   have r:=(b.same (Y:={X with waits:=s.2}) rfl rfl rfl id).take (x:=s.1) v w B C oM;have o:=Ch c {X with waits:=s.2} s.1;generalize de c {X with waits:=s.2} s.1=x at r o;dsimp only at r o;rcases r with⟨p,m,q⟩|⟨p,m,q⟩
   ·rw[Zq (by rw[p];simp)]
    exact⟨λP g=>by dsimp only;rw[m];exact au.wu _ g,q _,λ_ n=>Zz h n,λ_ n=>Zz rfl n,λn=>Zz n i,by dsimp only;rw[o];exact y⟩
   ·rw[Zx p]
    refine⟨λP g=>by dsimp only;rw[m];exact g,q.same (Y:={x.2 with waits:=[]}) (r2:=Js ref a.kind x.1) rfl rfl rfl λj=>?_,λ_ n=>Zz h n,λ_ _=>m,λn=>Zz n i,sM⟩;rcases Bool.or_eq_true .. ▸j with j|j
    ·exact oz i j
    ·unfold Js;rw[j,h];simp
  split
  ·exact pW.still b i rfl rfl t.symm f
  split<;>exact pW.still b i rfl rfl t.symm f
 split
 ·exact pW.still b oM rfl rfl rfl f
 split
 ·rename_i h
  obtain⟨u,z,T,U⟩:=b.ey a.n;have P:Js ref a.kind (ie c X a.n).1=false:=by unfold Js;rw[h];simp
  refine⟨z,by rw[P];exact U,λ_ _ n=>Zz h n,λn=>oM,λ_ n=>T n,?_⟩;unfold ie fF;dsimp only;split<;>simp
 split
 ·rename_i h
  exact⟨λP g=>g,(b.Gz a.n).same rfl rfl rfl (oz oM),λ_ _ _=>rfl,λ_ _=>rfl,λ_ _=>rfl,f⟩
 split
 ·rename_i h
  obtain⟨u,z⟩:=b.UD v w;refine⟨λP g=>by rw[u];exact g,z.same rfl rfl rfl (oz oM),λ_ _ _=>u,λ_ _=>u,λ_ _=>u,?_⟩;unfold dd
  cases X.log with
  |none=>exact f
  |some V=>
   dsimp only;split<;>exact f
 ·exact⟨λP g=>g,b.same rfl rfl rfl (oz oM),λ_ _ _=>rfl,λ_ _=>rfl,λ_ _=>rfl,f⟩
end
section
variable {D E:ak} {A:oO} {no:Int} {l x:List ah} {k d:Nat} {V:dw} {c:bL} {X:bg} {ref:Bool} {Q:ah->Prop} {nm:ByteArray}
def UO(P:(an D.files nm).isSome=true)(a:∀D n,(g4 D n).1≠14):(D.op (ak.yB nm g4)).1≠14:=by
 rcases rq D (ak.yB nm g4)with e|e
 ·rw[e];simp
 ·rw[e]
  unfold ak.yB;rw[dU];obtain⟨n,b⟩:=Option.isSome_iff_exists.1 P;rw[b];exact a _ _
def CC(n:(an D.files nm).isSome=true)(P:List UInt8):(D.append nm P).1≠14:=UO n λD a=>by split<;>simp
def Hv(n:(an D.files nm).isSome=true):(D.sync nm).1≠14:=UO n λD P=>by simp
def SK(n:(an D.files nm).isSome=true):(D.delete nm).1≠14:=UO n λD P=>by simp
def SL(n:(an D.files nm).isSome=true)(P:ByteArray):(D.rename nm P).1≠14:=UO n λD a=>by split<;>simp
def JM:(D.create nm).1≠14:=by
 unfold ak.create;rcases rq D λD=>if cU nm then(if(an D.files nm).isSome then(16,D)else if 64<=D.files.length then(12,D)else(0,D.fy nm ⟨[],0,false⟩))else(1,D)with e|e
 ·rw[e];simp
 ·rw[e]
  split
  ·split
   ·simp
   split<;>simp
  ·simp
def CD(n:(D.create nm).1=0):(an (D.create nm).2.files nm).isSome=true:=by
 rcases jM D nm with⟨P,-⟩|⟨-,-,-,a⟩
 ·exact Zz n P
 ·rw[a,bl,Zx sM];rfl
def MA(a:(an D.files nm).isSome=true)(P:List UInt8):(an (D.append nm P).2.files nm).isSome=true:=by
 rcases lJ D nm P with⟨-,n⟩|⟨-,b,-,n⟩
 ·rw[n];exact a
 ·rw[n,bl,Zx sM];rfl
def SM(P:(an D.files nm).isSome=true):(an (D.sync nm).2.files nm).isSome=true:=by
 rcases lK D nm with⟨-,n⟩|⟨-,a,-,n⟩
 ·rw[n];exact P
 ·rw[n,bl,Zx sM];rfl
def ZL(l:List Int):(bw D l).1≠14:=by
 have e:∀D,(gH l 0 D).1≠14:=λD=>by
  show(dR D).1≠14;unfold dR;split
  ·rename_i f;exact SK f
  ·simp
 unfold bw;split
 ·simp
 unfold kN;split
 ·exact e D
 unfold kN;split
 ·exact JM
 rename_i n;have n:((gH l 0 D).2.create aO).1=0:=Classical.not_not.1 n;have P:(an (gH l (0+1) (gH l 0 D).2).2.files aO).isSome=true:=CD n;generalize(gH l (0+1) (gH l 0 D).2).2=b at P;unfold kN;split
 ·exact CC P _
 have a:(an (gH l (0+1+1) b).2.files aO).isSome=true:=MA P _;generalize(gH l (0+1+1) b).2=c at a;unfold kN;split
 ·exact Hv a
 have d:(an (gH l (0+1+1+1) c).2.files aO).isSome=true:=SM a;generalize(gH l (0+1+1+1) c).2=g at d;unfold kN;split
 ·exact SL d _
 ·unfold kN;simp
def FD:(Go.Proofs.YtjgjkeponbeekaaGreatDoor.bz V D).1≠14:=by
 unfold bz;dsimp only;split
 ·exact JM
 rename_i n;have n:(D.create (cH (ax V.next))).1=0:=Classical.not_not.1 n;have P:=CD n;generalize(D.create (cH (ax V.next))).2=a at P;unfold lZ;dsimp only;split
 ·exact Hv P
 split
 ·exact ZL _
 ·simp
def UP(n:cF D A no l k)(P:EB V A no l):(aH V D).1≠14:=by
 obtain⟨b,a,-⟩:=n.last;unfold aH;split
 ·exact FD
 dsimp only;split
 ·rw[cF.uQ P];exact Hv (by rw[a];rfl)
 ·exact FD
def JN(n:cF D A no l k)(P:EB V A no l):(aE V D x).1≠14:=by
 obtain⟨i,d,-⟩:=n.last;unfold aE;split
 ·simp
 split
 ·simp
 dsimp only
 by_cases c:V.size<=V.bytes
 ·rw[Zx c]
  have e:=UP n P;rcases n.begin P with⟨a,-⟩|⟨a,-,f,g,-⟩
  ·rw[Zx a];exact e
  ·rw[Zq (by simpa using a)]
   obtain⟨j,h,-⟩:=f.last;have b:((aH V D).2.2.append (aH V D).2.1.last (az x)).1≠14:=CC (by rw[cF.uQ g,h];rfl) _;split
   ·exact b
   ·simp
 ·rw[Zq c,Zq sM]
  have b:(D.append V.last (az x)).1≠14:=CC (by rw[cF.uQ P,d];rfl) _;dsimp only;split
  ·exact b
  ·simp
def WA(n:D.dead=true):(aE V D x).1≠14:=by
 unfold aE;split
 ·simp
 split
 ·simp
 dsimp only
 by_cases P:V.size<=V.bytes
 ·rw[Zx P,uP n,Zx sM];simp
 ·rw[Zq P,Zq sM,show D.append V.last (az x)=(15,D.gone)from pA n _,Zx sM];simp
def fA.WB(e:fA Q c X ref)(f:X.D.Ok)(g:∀h∈x,h.Ok)(i:x.length<=20000000):(de c X x).1≠14:=by
 obtain⟨V,A,no,l,k,d,j,a,m,o,v,w,y,z⟩:=e.log;unfold de;rw[j];dsimp only
 by_cases n:X.D.dead=true
 ·obtain⟨B,p,C⟩:=yJ (V:=V) n x
  have P:=WA (V:=V) (x:=x) n;split
  ·exact P
  rw[show(aE V X.D x).2.2.sync (aE V X.D x).2.1.last=(15,(aE V X.D x).2.2.gone)from pA p _,Zx sM];simp
 obtain⟨b,q⟩:=m.resolve_left n;obtain⟨E,F,H,I,r,s,-⟩:=yK (x:=x) a b g i f (by rw[q];exact o);have P:=JN (x:=x) a b;obtain⟨J,t,-⟩:=r.last;split
 ·exact P
 have u:((aE V X.D x).2.2.sync (aE V X.D x).2.1.last).1≠14:=Hv (by rw[cF.uQ s,t];rfl);split
 ·exact u
 ·simp
def JO{n:Type}{P:n->Int}(a:∀x,P x≠14):∀l:List n,cD P l≠14
 |[]=>by unfold cD;simp
 |x::l=>by
  unfold cD
  split
  ·exact a x
  ·exact JO a l
def PJ(n:ah)(P:Nat):cR n P≠14:=by
 unfold cR
 repeat' split
 all_goals simp
def MB:ei e6 a e≠14:=by
 unfold ei eB gC;dsimp only
 repeat' split
 all_goals first|exact JO (λn=>PJ n a) _|simp
def OL{self:Int}(P:fA Q c X ref)(a:X.D.Ok)(b:∀n∈X.waits,n.Ok)(e:∀n∈e6.events,n.Ok)(o:X.waits.length<=256)(f:c.chunk<=32):(cu c self X e6).2.1≠14:=by
 obtain⟨V,A,no,l,k,d,g,-⟩:=P.log;unfold cu;rw[g];dsimp only;split
 ·exact MB
 rename_i h;split
 ·simp
 split
 ·rename_i i
  have p:=EX (Classical.not_not.1 h) i f;obtain⟨j,q⟩:=EW (c:=c) (X:=X) ah.Ok e b;have r:=uR c X e6.events;unfold lH;dsimp only;split
  ·simp
  have m:=(P.same (Y:={X with waits:=(gK c X e6.events).2}) rfl rfl rfl id).WB (x:=(gK c X e6.events).1) a j oM;split
  ·exact m
  ·simp
 split
 ·simp
 split<;>simp
end
structure vr (c:bL) (X:dE):Prop where
 len:X.aC.length=c.aC.toNat
 cl:∀R∈X.aC,R.S.Cl/\R.S.n=c.aC.toNat/\R.D.Ok/\R.S.l.length<=20000000/\R.waits.length<=256
 evs:∀m∈X.dq,∀e∈m.events,e.Ok
 chunk:c.chunk<=32
 start:aM c.start
 aC:c.aC<=64
def Bm(P:ah->Prop)(c:bL)(a:bg):Prop:=(∃n,fA P c a n)/\∀b∈a.waits,b.Ok/\P b
def LC(a:Nat->ah->Prop)(b:bL)(c:dE):Prop:=∀n P,c.aC[n]? =some P->Bm (a n) b P
section
variable {c:bL} {X:dE} {k j:Nat} {i:Int} {R R':bg} {s:fV} {ms:List bV} {m:bV} {Q:Nat->ah->Prop} {P:ah->Prop} {f:List bV} {now:Int} {n:Int}
def LC.set(d:LC Q c X)(e:Bm (Q j) c R'):LC Q c ⟨X.aC.set j R',f,now⟩:=λP a n=>by
 have n:(X.aC.set j R')[P]? =some a:=n
 by_cases b:j=P
 ·subst b
  by_cases g:j<X.aC.length
  ·rw[List.getElem?_set_self g]at n;injection n with n;exact n▸e
  ·rw[Q7 (by rw[List.length_set];omega)]at n;cases n
 ·rw[List.getElem?_set_ne b]at n;exact d P a n
def Bm.same(a:Bm P c R)(b:R'.S=R.S)(d:R'.D=R.D)(e:R'.log=R.log)(f:R'.waits=R.waits):Bm P c R':=by
 obtain⟨⟨n,g⟩,h⟩:=a;exact⟨⟨n,g.same b d e id⟩,by rw[f];exact h⟩
def Bm.call(e:Bm P c R)(n:vr c X)(f:R∈X.aC)(g:aM i){a:T_}(h:a.cmd.Ok)(j:∀b∈a.m.events,b.Ok/\P b)(k:a.kind=0->(fQ c.decl R.S (bR c.decl R.S.l) i c.start a.cmd).2.1=true->P (fQ c.decl R.S (bR c.decl R.S.l) i c.start a.cmd).1):Bm P c (RD c i R a).2:=by
 obtain⟨⟨l,m⟩,o⟩:=e;obtain⟨p,q,r,s,t⟩:=n.cl R f;have d:=m.call o p q r h j k g n.start s t n.chunk;exact⟨⟨_,d.YQ⟩,d.wait⟩
def IE:T_:=⟨0,0,0,⟨0,0,0,0,0,0,0⟩,⟨0,0,0,[],[]⟩⟩
def Aw:lI.Ok ⟨0,0,0,0,0,0,0⟩:=by
 have:aM 0:=by unfold aM;omega
 exact⟨this,this,this,this,this,this⟩
def Bm.one(n:Bm P c R)(b:vr c X)(d:R∈X.aC)(e:aM i)(g:s.Ok)(h:(fQ c.decl R.S (bR c.decl R.S.l) i c.start s.cmd).2.1=true->P (fQ c.decl R.S (bR c.decl R.S.l) i c.start s.cmd).1):Bm P c (iW c i R s).2:=by
 have a:∀f∈([]:List ah),f.Ok/\P f:=λf a=>by cases a
 unfold iW;split
 ·exact n.call b d e (a:=⟨0,0,0,s.cmd,IE.m⟩) g.cmd a λ_=>h
 split
 ·exact n.call b d e (a:=⟨4,s.m,0,IE.cmd,IE.m⟩) Aw a λn=>by cases n
 split
 ·exact n.call b d e (a:=⟨6,0,0,IE.cmd,IE.m⟩) Aw a λn=>by cases n
 split
 ·exact n
 split
 ·exact n
 split
 ·exact n
 ·exact n.call b d e (a:=⟨5,s.m,0,IE.cmd,IE.m⟩) Aw a λn=>by cases n
def Ev(c:bL)(i:Int)(R:bg)(n now:Int):(fp c i R n now).2.S=R.S/\(fp c i R n now).2.D=R.D/\(fp c i R n now).2.log=R.log/\(fp c i R n now).2.waits=R.waits:=by
 unfold fp;split<;>exact⟨rfl,rfl,rfl,rfl⟩
def Ls(n:LC Q c X):LC Q c (fP X j):=by
 unfold fP;split
 ·exact n
 ·rename_i R P
  exact n.set ((n j R P).same rfl rfl rfl rfl)
def IF:∀(n:List Nat) {X:dE},LC Q c X->LC Q c (n.foldl fP X)
 |[],_,P=>P
 |j::n,_,P=>IF n (Ls P)
def su(P:dz a8 n=some m):m∈a8:=by
 unfold dz at P;split at P
 ·exact QZ P
 ·cases P
def Xp(n:vr c X)(P:j<X.aC.length):aM (j:Int):=by
 have:=n.len;have:=n.aC;unfold aM;omega
def IG(n:LC Q c X)(a:vr c X)(h:∀m,e7=some m->m∈X.dq/\∀i:Nat,m.mL=i->∀P∈m.events,Q i P):LC Q c (fr c ⟨X.aC,f,X.now⟩ e7).2:=by
 unfold fr
 cases e7 with
 |none=>exact n
 |some m=>
  dsimp only;split
  ·exact n
  ·rename_i R b
   obtain⟨j,e,b⟩:=eJ b;have d:X.aC[j]? =some R:=b;obtain⟨k,l⟩:=h m rfl;have o:=(n j R d).call a (QZ d) (Xp a (Qv.1 d).1) (a:=⟨2,0,0,IE.cmd,m⟩) Aw (λP g=>⟨a.evs m k P g,l j e P g⟩) λn=>by cases n
   rw[e];exact LC.set (X:=X) n o
def OG(P:LC Q c X)(b:vr c X)(g:s.Ok)(d:(s.kind=3\/s.kind=5)->∀m,dz X.dq s.n=some m->∀i:Nat,m.mL=i->∀h∈m.events,Q i h)(k:∀(i:Nat) R,s.n=i->X.aC[i]? =some R->(fQ c.decl R.S (bR c.decl R.S.l) i c.start s.cmd).2.1=true->Q i (fQ c.decl R.S (bR c.decl R.S.l) i c.start s.cmd).1):LC Q c (b_ c X s).2:=by
 unfold b_;split
 ·rename_i l
  exact IG P b λm n=>⟨su n,d (.inl l) m n⟩
 split
 ·rename_i o
  exact IG (f:=X.dq) P b λm n=>⟨su n,d (.inr o) m n⟩
 split
 ·exact P
 split
 ·exact IF _ (X:=⟨X.aC,X.dq,X.now+1⟩) P
 split
 ·exact P
 split
 ·exact P
 ·rename_i R a
  obtain⟨j,e,a⟩:=eJ a;have p:=(Qv.1 a).1;have f:=P j R a;rw[e];split
  ·split
   ·exact P
   ·obtain⟨q,r,t,u⟩:=Ev c j R s.m X.now
    exact LC.set (X:=X) P (f.same q r t u)
  ·exact LC.set (X:=X) P (f.one b (QZ a) (Xp b p) g (k j R e a))
def RE(n:LC Q c X)(P:vr c X)(a:s.Ok)(b:(s.kind=3\/s.kind=5)->∀m,dz X.dq s.n=some m->∀i:Nat,m.mL=i->∀d∈m.events,Q i d)(e:∀(i:Nat) R,X.aC[i]? =some R->(fQ c.decl R.S (bR c.decl R.S.l) i c.start s.cmd).2.1=true->Q i (fQ c.decl R.S (bR c.decl R.S.l) i c.start s.cmd).1):LC Q c (b_ c X s).2:=
 OG n P a b λi R _ f=>e i R f
def GB(X:dE)(k:Nat):Option au:=(X.aC[k]?).map (·.S)
def Lt(n:k≠j):GB ⟨X.aC.set j R',f,now⟩ k=GB X k:=by
 unfold GB;rw[List.getElem?_set_ne (Ne.symm n)]
def vu(n:X.aC[j]? =some R)(a:R'.S=R.S):GB ⟨X.aC.set j R',f,now⟩ k=GB X k:=by
 by_cases P:k=j
 ·subst P
  unfold GB;rw[List.getElem?_set_self (Qv.1 n).1,n];show some R'.S=some R.S;rw[a]
 ·exact Lt P
def OH:GB (fP X j) k=GB X k:=by
 unfold fP;split
 ·rfl
 ·rename_i R n
  exact vu (R:=R) n rfl
def GC:∀(n:List Nat) {X:dE},GB (n.foldl fP X) k=GB X k
 |[],_=>rfl
 |j::n,X=>(GC n).trans OH
def Ew:∀(n:List Nat) {X:dE},(n.foldl fP X).now=X.now
 |[],_=>rfl
 |j::n,X=>(Ew n).trans (IH X j)
def OI(c:bL)(R:bg):(dd c R).2.S=R.S:=by
 unfold dd
 cases R.log with
 |none=>rfl
 |some n=>
  dsimp only;split<;>rfl
def Xr(n:s.kind≠1)(P:s.kind≠7):(iW c i R s).2.S=R.S:=by
 unfold iW;rw[Zq n,Zq P];split
 ·exact OI c R
 repeat' split
 all_goals rfl
def Nu{o:Option bV}:∃P:Nat,∀k,k≠P->GB (fr c ⟨X.aC,f,X.now⟩ o).2 k=GB X k:=by
 unfold fr
 cases o with
 |none=>exact⟨0,λk _=>rfl⟩
 |some m=>
  dsimp only;split
  ·exact⟨0,λk _=>rfl⟩
  ·rename_i R n
   obtain⟨j,a,n⟩:=eJ n;rw[a];exact⟨j,λk b=>Lt (X:=X) b⟩
def Ua:∃n:Nat,(∀k,k≠n->GB (b_ c X s).2 k=GB X k)/\((s.kind=1\/s.kind=7)/\s.n=n\/s.kind=3\/s.kind=5\/GB (b_ c X s).2 n=GB X n):=by
 unfold b_;split
 ·rename_i e
  obtain⟨n,P⟩:=Nu (c:=c) (X:=X) (f:=fz X.dq s.n) (o:=dz X.dq s.n);exact⟨n,P,.inr (.inl e)⟩
 split
 ·rename_i f
  obtain⟨n,P⟩:=Nu (c:=c) (X:=X) (f:=X.dq) (o:=dz X.dq s.n);exact⟨n,P,.inr (.inr (.inl f))⟩
 split
 ·exact⟨0,λ_ _=>rfl,.inr (.inr (.inr rfl))⟩
 split
 ·exact⟨0,λ_ _=>GC _,.inr (.inr (.inr (GC _)))⟩
 split
 ·exact⟨0,λ_ _=>rfl,.inr (.inr (.inr rfl))⟩
 split
 ·exact⟨0,λ_ _=>rfl,.inr (.inr (.inr rfl))⟩
 ·rename_i R a
  obtain⟨j,g,a⟩:=eJ a;rw[g];split
  ·split
   ·exact⟨0,λ_ _=>rfl,.inr (.inr (.inr rfl))⟩
   ·have d:=(Ev c j R s.m X.now).1
    exact⟨0,λ_ _=>vu (X:=X) a d,.inr (.inr (.inr (vu (X:=X) a d)))⟩
  ·refine⟨j,λk h=>Lt (X:=X) h,?_⟩
   by_cases b:s.kind=1\/s.kind=7
   ·exact .inl ⟨b,rfl⟩
   ·exact .inr (.inr (.inr (vu (X:=X) a (Xr (λP=>b (.inl P)) λP=>b (.inr P)))))
def Ex:(fr c ⟨X.aC,f,X.now⟩ e7).2.now=X.now:=by
 unfold fr
 cases e7 with
 |none=>rfl
 |some m=>
  dsimp only;split<;>rfl
def OJ:(b_ c X s).2.now=if s.kind=6 then X.now+1 else X.now:=by
 by_cases n:s.kind=6
 ·rw[Zx n]
  unfold b_;rw[Zq oM,Zq oM,Zq oM,Zx n];exact Ew _
 rw[Zq n];unfold b_;split
 ·exact Ex
 split
 ·exact Ex (f:=X.dq)
 split
 ·rfl
 split
 ·rfl
 split
 ·rfl
 ·split
  ·split<;>rfl
  ·rfl
def Lu(a:s.kind=4)(P:(b_ c X s).1.code=0):((b_ c X s).2.dq.length:Int)=X.dq.length-1:=by
 unfold b_ at P⊢;rw[Zq oM,Zq oM,Zx a]at P⊢;dsimp only at P⊢
 cases n:dz X.dq s.n with
 |none=>rw[n]at P;simp at P
 |some m=>
  unfold fz;rw[n];show((X.dq.eraseIdx s.n.toNat).length:Int)=_;unfold dz at n;split at n
  ·have:=(Qv.1 n).1
   rw[List.length_eraseIdx,Zx this];omega
  ·cases n
def II(b:LC (λ_ _=>True) c X)(a:vr c X)(d:∀m,e7=some m->m∈X.dq)(P:(fr c ⟨X.aC,f,X.now⟩ e7).1.code=14):e7=none:=by
 cases e7 with
 |none=>rfl
 |some m=>
  exfalso;unfold fr at P;dsimp only at P;split at P
  ·simp at P
  ·rename_i R n
   obtain⟨j,p,n⟩:=eJ n;have n:X.aC[j]? =some R:=n;obtain⟨⟨e,g⟩,h⟩:=b j R n;obtain⟨q,r,i,s,k⟩:=a.cl R (QZ n);exact OL (self:=m.mL) g i (λl o=>(h l o).1) (a.evs m (d m rfl)) k a.chunk P
def RF(g:LC (λ_ _=>True) c X)(h:vr c X)(n:(b_ c X s).1.code=14):(b_ c X s).2.dq=X.dq:=by
 unfold b_ at n⊢;split
 ·rename_i a
  rw[Zx a]at n;have P:=II g h (λm b=>su b) n;rw[P];show fz X.dq s.n=X.dq;unfold fz;rw[P];rfl
 rename_i a;rw[Zq a]at n;split
 ·rename_i d
  rw[Zx d]at n;have P:=II (f:=X.dq) g h (λm b=>su b) n;rw[P];rfl
 rename_i d;rw[Zq d]at n;split
 ·rename_i e
  rw[Zx e]at n
  cases i:dz X.dq s.n with
  |none=>show fz X.dq s.n=X.dq;unfold fz;rw[i];rfl
  |some m=>rw[i]at n;simp at n
 rename_i e;rw[Zq e]at n;split
 ·rename_i f;rw[Zx f]at n;simp at n
 rename_i f;rw[Zq f]at n;split
 ·rfl
 rename_i j;rw[Zq j]at n;split
 ·rfl
 ·rename_i R k
  rw[k]at n;dsimp only at n;split
  ·rename_i l
   rw[Zx l]at n;split
   ·rfl
   ·rename_i o;rw[Zq o]at n;simp at n
  ·rfl
end
section
variable {w w' w0 w1 w2 wb:World} {p q i k g:Nat} {F F1 F' G G' T D E:UK} {c:bL} {X Y:dE} {s:fV} {x:iK} {v:Value}
def RC{P:List ah}(b:Row lb 96 w D d a P):∀n∈P,n.Ok:=λn c=>by
 obtain⟨i,e⟩:=List.mem_iff_getElem?.1 c;obtain⟨g,h,j,-,-,-,-,k,l,m,-,-,f⟩:=b.el i n e;exact f
def cB.facts(P:cB w0 w p F c X)(f:aM c.start):vr c X:=by
 have a:=P.len;obtain⟨r,g,s,b,t,h,u,i,v⟩:=P;refine⟨a.1,λx d=>?_,λy e=>?_,i.Lf.2,f,a.2.2.1⟩
 ·rw[h]at d
  obtain⟨z,j,rfl⟩:=Xk.1 d;obtain⟨A,k⟩:=List.mem_iff_getElem?.1 j;have n:=cX.rep b k;exact⟨n.cl.1,n.cl.2,n.dok,n.len,n.waits⟩
 ·obtain⟨B,C,E,H,D,I,J,l,m,-⟩:=b.WY
  rw[<-l]at e;obtain⟨o,q,rfl⟩:=Xk.1 e;exact RC (m o q).2
def TZ{Q:Nat->ah->Prop}(P:(Bl c).1=0):LC Q c (Bl c).2:=λi a b=>by
 have n:=QZ b;have n:a∈List.replicate c.aC.toNat (cC c 0).2:=n;rw[(List.mem_replicate.1 n).2];obtain⟨d,e⟩:=OF (Q:=Q i) (c:=c) (self:=0) P;exact⟨⟨false,d⟩,by rw[e];intro g f;cases f⟩
structure Z_ where
 a:bc
 n:Nat
 c:Nat
 vs:List Int
def Yy:ky Z_:=flat 1 (λn=>[Value.slice n.a n.n n.c]) (λ_=>True) (λ_=>rfl) (λx a P=>by simp at P;subst P;rfl)
def YP:kD LL 41 42 Yy.k 24:=⟨kR,kR,dC⟩
end
def qA:lA:=⟨[(9,[(5,WP 0)]),(14,[(7,.slice none 0 0),(8,WP 0)]),(22,[(12,WP 0),(13,WP 0)])],[(27,[(14,.bool false)])],[24,29],[],[(29,⟨[0,1,2,4,12,4,52,4,132,260,580,1028,2064,4096,12288,4096,36864,86016,135168],[524287,524286,524285,524283,524275,524283,524235,524283,524155,524027,523707,523259,522239,520191,511999,520191,487423,438271,389119],[0,0,0,0,2,0,0,0,1,0,0,0,0,0,2,0,0,0,0]⟩)]⟩
def qk{Q R S T U V W X:Int}(a0:PA b (.cells #[.ii Q,.ii R,.ii S,.ii T,.ii U,.ii V,.ii W,.ii X,.slice d a c,.slice x i q,.slice e5 E c3] 30) λY=>(Ld 30 (ab_ b 0) Y λb5=>PC_ 7 #[b5] Y (kB λb6 K=>al b6 (PC_ 8 #[] K (kB λb7 b8=>rt A ((.bool b7)) b8) (pE A)) ((Ld 27 (ab_ b 0) K λb9=>PC_ 9 #[b9] K (λc0 Z=>∃f a4,c0= .tuple #[.pointer f,.ii a4]/\al (a4 !=0) (PC_ 8 #[] Z (kB λc1 c2=>rt A ((.bool c1)) c2) (pE A)) (PR_ (eq_ .eql 33 (.tmp 27) (.const (.pointer none)) (.pointer f) (.pointer none)) Z (kB λa1 w=>al a1 (rt A ((.bool false)) w) ((rI w (ab_ b 0) λc4=>al (decide (c4>64)) (rt A ((.bool false)) w) ((∃j:Nat->Int->ba,(∃h,j h 0 w)/\∀(h:Nat) (g:Int) (h9:Nat->Value) (P:World),j h g P->(rS P (ab_ b (0+10)) λi0 c5 i1=>al (decide (g<(c5:Int))) ((rS P (ab_ b (0+10)) λc6 c7 i2=>(ix_ c6 g c7 λc8 c9=>(Ld 40 (ad c8 (c9+Int.toNat g*10)) P λd0=>PA P (.cells #[.ii 0,.ii 0,.ii 0,.ii 0,.ii 0,.ii 0,.ii 0,.ii 0,.ii 0,.ii 0] 40) λd1=>St 40 (ab_ P 0) d0 d1 λd2=>(∃D:Nat->bc->Nat->Nat->Int->ba,(∃y,D y none 0 0 0 d2)/\∀(y:Nat) (L:bc) (M:Nat) (a5:Nat) (z:Int) (i3:Nat->Value) (B:World),D y L M a5 z B->(rI B (ab_ b 0) λd3=>al (decide (z<d3)) (PC_ 10 #[.pointer f,.ii z] B (kS_ λd4 d5 d6 a6=>PA a6 (.cells #[.slice d4 d5 d6] 42) λd7=>PR_ (ap_ 41 (.slice L M a5) (.slice (some (ab_ a6 0)) 1 1)) d7 (kS_ λd8 d9 e0 e1=>(∃a7,a7<y/\D a7 d8 d9 e0 (PP .i64 (z+1)) e1)) (pV A)) (pE A)) (PC_ 11 #[.pointer f] B (kI_ λa8 e2=>PC_ 12 #[.pointer f] e2 (kI_ λC a9=>(Ld 40 (ab_ P 0) a9 λe3=>PC_ 13 #[.pointer f,e3] a9 (kX_ 53 λe4 r=>PA r (.cells #[.ii 0,.ii 0,.ii 0,.ii 0,.slice none 0 0,.slice none 0 0,.slice none 0 0,.bool false] 53) λa2=>St 53 (ab_ r 0) e4 a2 λe6=>(∃s:Nat->Int->Int->ba,(∃o,s o 0 0 e6)/\∀(o:Nat) (t:Int) (k:Int) (i4:Nat->Value) (F:World),s o t k F->(rI F (ab_ b 0) λe7=>al (decide (k<e7)) ((∀H,cf F H->∃G:UK,(ix_ L k M λb0 e8=>(¬G b0/\(rS H (ad b0 (e8+Int.toNat k)) λe9 f0 f1=>PC_ 10 #[.pointer f,.ii k] H (kS_ λf2 f3 f4 N=>(aj G H N/\PC_ 14 #[.slice f2 f3 f4,.slice e9 f0 f1] N (kB λf5 m=>(aj G N m/\al f5 ((∃l,l<o/\s l t (PP .i64 (k+1)) m)) ((∃I:Bool->ba,((rI m (ab_ P 0) λf6=>al (f6==1) ((rI m (ab_ P (0+1)) λf7=>I (f7==k) m)) ((rI m (ab_ P 0) λf8=>al (f8==7) ((rI m (ab_ P (0+1)) λf9=>I (f9==k) m)) (I false m)))))/\∀(b1:Bool) (i5:Nat->Value) (p:World),I b1 p->al (!b1) ((rI p (ab_ P 0) λg0=>al (g0 !=3) ((rI p (ab_ P 0) λg1=>al (g1 !=5) (rt A ((.bool false)) p) ((∃l,l<o/\s l (PP .i64 (t+1)) (PP .i64 (k+1)) p)))) ((∃l,l<o/\s l (PP .i64 (t+1)) (PP .i64 (k+1)) p)))) ((∃l,l<o/\s l (PP .i64 (t+1)) (PP .i64 (k+1)) p)))))) (pZ A))) (pZ A)))))) ((∀v,cf F v->∃O:UK,al (decide (t>1)) (rt A ((.bool false)) v) ((¬O P.heap.size/\(rI v (ab_ P 0) λg2=>PC_ 11 #[.pointer f] v (kI_ λg3 J=>(aj O v J/\al (!((g3 !=a8)==(g2==6))) (rt A ((.bool false)) J) (PC_ 11 #[.pointer f] J (kI_ λg4 e=>(aj O J e/\al (decide (g4>(PP .i64 (a8+1)))) (rt A ((.bool false)) e) ((rI e (ab_ P 0) λg5=>al (g5==4) ((rI e (ab_ r 0) λg6=>al (g6==0) (PC_ 12 #[.pointer f] e (kI_ λg7 u=>al (g7 !=(PP .i64 (C-1))) (rt A ((.bool false)) u) ((rI u (ab_ r 0) λg8=>al (g8==14) ((rI u (ab_ P 0) λg9=>al (g9 !=10) (PC_ 12 #[.pointer f] u (kI_ λh0 b2=>al (h0 !=C) (rt A ((.bool false)) b2) ((∃n,n<h/\j n (PP .i64 (g+1)) b2))) (pE A)) ((∃n,n<h/\j n (PP .i64 (g+1)) u)))) ((∃n,n<h/\j n (PP .i64 (g+1)) u))))) (pE A)) ((rI e (ab_ r 0) λh1=>al (h1==14) ((rI e (ab_ P 0) λh2=>al (h2 !=10) (PC_ 12 #[.pointer f] e (kI_ λh3 b3=>al (h3 !=C) (rt A ((.bool false)) b3) ((∃n,n<h/\j n (PP .i64 (g+1)) b3))) (pE A)) ((∃n,n<h/\j n (PP .i64 (g+1)) e)))) ((∃n,n<h/\j n (PP .i64 (g+1)) e)))))) ((rI e (ab_ r 0) λh4=>al (h4==14) ((rI e (ab_ P 0) λh5=>al (h5 !=10) (PC_ 12 #[.pointer f] e (kI_ λh6 b4=>al (h6 !=C) (rt A ((.bool false)) b4) ((∃n,n<h/\j n (PP .i64 (g+1)) b4))) (pE A)) ((∃n,n<h/\j n (PP .i64 (g+1)) e)))) ((∃n,n<h/\j n (PP .i64 (g+1)) e)))))))) (pZ A)))) (pZ A))))))))) (pE A))) (pE A)) (pE A)))))))) (PC_ 8 #[] P (kB λh7 h8=>rt A ((.bool h7)) h8) (pE A)))))))) (pV A))) (pE A)))) (pE A))):be 3 #[.agg #[.ii Q,.ii R,.ii S,.ii T,.ii U,.ii V,.ii W,.ii X,.slice d a c,.slice x i q,.slice e5 E c3]] b A:=DC qA Tryz.func3 rfl a0
section
variable {w w' w0 w1 w2 wb:World} {p q i k g:Nat} {F F1 F' G G' T D E:UK} {c:bL} {X Y:dE} {s:fV} {x:iK} {v:Value} {ta pa la:bc} {tn tc pn pc ln lc:Nat} {l:List fV}
def Ub{P T:bg}(b:X.aC[a]? =some P)(c:Y.aC[a]? =some T)(d:P.S.vec≠T.S.vec):GB Y a≠GB X a:=λn=>by
 unfold GB at n;rw[b,c]at n;simp only[Option.map_some,Q1]at n;exact d (by rw[n])
set_option maxHeartbeats 4000000 in
def t_(hT:fw w)(hL:Laid w)(hd:bu w D c.decl ta tn pa pn)(hD:∀n,D n->n<w.heap.size)(hl:Row IC 80 w E la ln l)(hE:∀n,E n->n<w.heap.size)(hs:aM c.bj)(j5:aM c.every)(c4:aM c.start):
  be 3 #[Nt c ta tn tc pa pn pc la ln lc] w (Ok λv w'=>v= .bool true/\ai w w'):=by
 have n4:=hl.len;refine qk (PA.mk λw1 k1 s1 g1=>ar (Wb c ta tn tc pa pn pc la ln lc) g1 (PC.ok (Lq (hd.af k1) (hl.af k1)) ?_));rintro _ w3 ⟨⟨b4,rfl,j6⟩,k3⟩;have C:=k1.then k3;have f6:=k3.get g1 id;refine⟨_,rfl,al.mk (λ_=>RA hT hL C) (λj7=>?_)⟩;have j8:=j6 j7;refine TY f6 (PC.ok (Ns hT hL C (hd.af C) (λn B=>by have:=hD n B;have:=C.size;omega) hs j5 c4) ?_);rintro v5 H ⟨k5,⟨j9,rfl⟩|⟨hz,p,F,rfl,hA,hF,f8⟩⟩
 ·exact⟨_,_,rfl,al.eK (λ_=>RA hT hL (C.then k5)) (λh=>Zz h j9)⟩
 have e3:=C.then k5;have e4:=k5.get f6 id;obtain⟨-,n8,n9,-⟩:=hA.len;have z1:w.heap.size<w1.heap.size:=oM
 have z3:=k3.size;have z5:=k5.size;have o0:=e3.size;refine⟨_,_,rfl,al.eK (λh=>Zz rfl h) (λ_=>ic Tryz.underlying33 ⟨_,rfl,al.ff rfl ⟨_,ae e4 rfl,al.dec (λh=>oM) (λ_=>?_)⟩⟩)⟩;have d0:=TZ (Q:=λ_ _=>True) hz;generalize(Bl c).2=X0 at hA f8 d0;refine⟨λa r w'=>∃(j:Nat) (e:UK) (X:dE),r=j/\j<=ln/\a=ln-j/\cB w w' p e c X/\fX j X/\LC (λ_ _=>True) c X/\aj (λn=>w1.heap.size<=n) H w'/\∀n,e n->w1.heap.size<=n,
  ⟨_,0,F,X0,rfl,Qj _,rfl,hA,f8,d0,aj.refl _,λn B=>by have:=hF n B;omega⟩,?_⟩
 rintro a _ _ m ⟨j,e,X,rfl,hj,rfl,R,e5,g0,S,g2⟩;have k2:ai w m:=e3.new S λn B=>.inr (by have B:w1.heap.size<=n:=B;omega);have e6:=S.get e4 oM;have o1:=S.size;refine⟨_,_,_,ae e6 rfl,al.dec (λo2=>?_) (λo3=>RA hT hL k2)⟩;have kE:aj (λn=>w1.heap.size<=n) w m:=(ai.keep e3).then S;obtain⟨n,a8,s,a1,a9,b0,b1,t,a2⟩:=RB (hl.keep kE λn B h=>by have:=hE n B;omega) (j:=j) oM;refine⟨_,_,_,ae e6 rfl,n,a8,a1,oM,oM,?_⟩;rw[Qx];refine a2 _ (PA.mk λw9 k9 s9 g9=>aD (Bg s) g9 rfl λT k4 o4 k6=>?_);have a3:ai m T:=k9.new k4 λn B=>.inr (by have B:n=m.heap.size:=B;omega);have m7:=a3.size;have d1:=R.af a3;have g3:=a3.get e6 id;obtain⟨o5,-,-,-⟩:=d1.len;refine⟨λa U vn vc r w'=>∃(P:Nat) (y:List Z_) (V:UK),r=P/\P<=c.aC.toNat/\a=c.aC.toNat-P/\ai T w'/\aU Yy 42 (λn=>aG U=some n) w' U vn vc y/\y.map (·.vs)=(X.aC.take P).map (λz=>z.S.vec)/\(∀n∈y,Row aP 8 w' V n.a n.n n.vs)/\(∀n,V n->T.heap.size<=n/\n<w'.heap.size/\aG U≠some n)/\∀n,aG U=some n->T.heap.size<=n,
  ⟨_,0,[],λ_=>False,rfl,Qj _,rfl,aj.refl _,(aU.nil T).mono (λn B=>B.elim) (λn B=>(by cases B)),rfl,sM,λn B=>B.elim,λn B=>(by cases B)⟩,?_⟩
 rintro a U vn vc _ _ o7 ⟨P,y,V,rfl,he,rfl,I,W,c5,d2,J,e7⟩;have g4:=I.get g3 id;have a4:=d1.af I;have o8:=I.size;have m8:=W.len dC;have o9:y.length=P:=by have:=Zj List.length c5;rw[Q8,Q8,Qy]at this;omega
 refine⟨_,ae g4 rfl,al.dec (λm9=>?_) (λn0=>?_)⟩
 ·have o:X.aC[P]? =some X.aC[P]:=Qq oM
  generalize X.aC[P]=z at o;refine PC.ok (Nr a4) ?_;rintro _ u (⟨h,-⟩|⟨R1,f,k8,l0,l3,c6,rfl,a5,c8,Y⟩)
  ·rw[nY,o]at h;cases h
  rw[nY,o]at f;injection f with f;subst f;have d3:=a5.aF;have l4:=c8.size;have e8:z.S.vec.length*8<=aR:=by
   have:=(R.facts c4).cl z (QZ o);rw[au.bT,this.2.1];unfold aR;omega
  refine⟨_,_,_,rfl,KK (c:=Yy) (x:=⟨k8,l0,l3,z.S.vec⟩) (D:=λ_=>False) (W.af c8) YP ⟨rfl,trivial⟩ (λn B=>B.elim) ce (by unfold maxLen;omega) λb5 c7 w7 F7 l5 k7 p0 e9=>⟨_,_,_,rfl,_,oM,P+1,_,λn=>V n\/c6 n,aq oM,oM,rfl,(I.then c8).new k7 λn B=>.inr (e7 n B),l5.alone,?_,?_,?_,λn B=>(e9 n B).elim (e7 n) λh=>oM⟩⟩
  ·rw[Q3,c5,Qw,o];simp
  ·intro b2 K
   rcases Q6.1 K with K|K
   ·exact(((d2 b2 K).af c8).keep k7 λn B=>(J n B).2.2).mono λn B=>.inl B
   ·simp at K;subst K
    exact((a5.keep k7 λn B P=>by have:=Y n B;have:=W.aF n P;omega).row dC e8).mono λn B=>.inr B
  ·have z7:=k7.size
   rintro n (B|B)
   ·refine⟨(J n B).1,by have:=(J n B).2.1;omega,λb=>(e9 n b).elim (J n B).2.2 λh=>by have:=(J n B).2.1;omega⟩
   ·refine⟨by have:=Y n B;omega,by have:=d3 n B;omega,λb=>(e9 n b).elim (λh=>by have:=Y n B;have:=W.aF n h;omega) λh=>by have:=d3 n B;omega⟩
 have l6:P=X.aC.length:=oM
 rw[l6,List.take_length]at c5;refine PC.ok (Av a4) ?_;rintro _ _ ⟨rfl,rfl⟩;refine⟨_,rfl,PC.ok (oS a4) ?_⟩;rintro _ _ ⟨rfl,rfl⟩;have d4:=I.get k6 id;refine⟨_,rfl,ar (Bg s) d4 (qR a4 e5 oM t λwa u c6 p1 L d5 M ia=>?_)⟩;have d6:=R.facts c4;have b7:LC (λ_ _=>True) c (b_ c X s).2:=RE g0 d6 t (λ_ _ _ _ _ _ _=>trivial) λ_ _ _ _=>trivial;obtain⟨N,g5,d7⟩:=Ua (c:=c) (X:=X) (s:=s);have b8:=OJ (c:=c) (X:=X) (s:=s);have b9:=Lu (c:=c) (X:=X) (s:=s);have g6:=RF (s:=s) g0 d6;obtain⟨l7,-,-,l8⟩:=L.len;have p2:=R.len.2.2.2;have p3:=e5.Le;have p4:=e5.now;generalize b_ c X s=O at L d5 ia b7 g5 d7 b8 b9 g6 l7 l8;have l4:=M.keep.size;have d8:∀n,e n->n<m.heap.size:=R.aF;have g7:aj e m u:=(ai.keep (a3.then I)).then M.keep;have g8:u.heap[m.heap.size]? =some (.cells (lx s).toArray 40 (0,0)):=M.keep.get d4 λP=>by have:=d8 _ P;omega
 have d9:aj (λn=>w1.heap.size<=n) H u:=S.then (g7.mono λn _ B=>g2 n B);have h8:=d9.get e4 oM;have Y:∀n,c6 n->w1.heap.size<=n:=λn B=>(M.new n B).elim (g2 n) λh=>by omega
 obtain⟨ya,yg,h9,-⟩:=ia.get;have i0:∀n,m.heap.size<=n->¬e n:=λn B P=>by have:=d8 n P;omega
 have c9:∀n∈y,Row aP 8 u V n.a n.n n.vs:=λn B=>(d2 n B).keep M.keep λn B=>i0 n (by have:=(J n B).1;omega);have a5:=W.keep M.keep λn B=>i0 n (by have:=e7 n B;omega);have next:∀{w':World},ai u w'->∃a,a<ln-j/\∃(d:Nat) (e:UK) (X:dE),PP .i64 ((j:Int)+1)=d/\d<=ln/\a=ln-d/\cB w w' p e c X/\fX d X/\LC (λ_ _=>True) c X/\aj (λn=>w1.heap.size<=n) H w'/\∀n,e n->w1.heap.size<=n:=λ{w'} kk=>
  ⟨_,oM,j+1,c6,O.2,aq oM,oM,rfl,L.af kk,d5,b7,d9.then (ai.keep kk),Y⟩
 refine⟨λa A r w'=>∃P:Nat,r=P/\P<=c.aC.toNat/\a=c.aC.toNat-P/\ai u w'/\0<=A/\A<=(if N<P then 1 else 0),⟨_,0,rfl,Qj _,rfl,aj.refl _,Int.le_refl _,sM⟩,?_⟩;rintro a A _ _ i1 ⟨b,rfl,p5,rfl,q,l9,i2⟩;have i3:=q.get h8 id;have e0:=q.get g8 id;have i4:=q.get yg id;have i5:=L.af q;refine⟨_,ae i3 rfl,al.dec (λn1=>?_) (λn2=>?_)⟩
 ·intro k f2
  have x:ai i1 k:=f2.keep;have o:X.aC[b]? =some X.aC[b]:=Qq oM;have Z:O.2.aC[b]? =some O.2.aC[b]:=Qq oM;generalize X.aC[b]=z at o;generalize O.2.aC[b]=T2 at Z;obtain⟨b6,o6,x6,p6,m0,p7,p8,i6,m1,rfl,-⟩:=(((a5.af q).af x).row (bytes:=24) dC ce).Iq (i:=b) oM;have i7:x6.vs=z.S.vec:=by
   have f:(y.map (·.vs))[b]? =some x6.vs:=by rw[Q9,i6];rfl
   rw[c5,Q9,o]at f
   injection f with f;exact f.symm
  have m2:=((c9 x6 (QZ i6)).af q).af x;have i8:=m1 0 dC;refine⟨λ_=>False,b6,o6,m0,oM,oM,id,_,_,_,by simpa[show Yy.k=1 from rfl]using i8,PC.ok (Nr (i5.af x)) ?_⟩;rintro _ m3 (⟨h,-⟩|⟨T3,f,p9,q0,q1,q2,rfl,i9,f4,n3⟩)
  ·rw[nY,Z]at h;cases h
  rw[nY,Z]at f;injection f with f;subst f;have e8:T2.S.vec.length*8<=aR:=by
   have:=(L.facts c4).cl T2 (QZ Z);rw[au.bT,this.2.1];unfold aR;omega
  refine⟨_,_,_,rfl,ai.keep f4,PC.ok (Dy (i9.row dC e8) (m2.af f4)) ?_⟩;rintro _ f5 ⟨rfl,m4⟩;have j0:ai m3 f5:=m4.keep;have a7:=(x.then f4).then j0;have Q:=a7.get e0 id;have z9:(if N<b then(1:Int)else 0)<=(if N<b+1 then 1 else 0):=by split<;>split<;>omega
  refine⟨_,rfl,ai.keep j0,al.dec (λ_=>⟨_,oM,b+1,aq oM,oM,rfl,q.then a7,l9,oM⟩) (λc2=>?_)⟩;rw[i7]at c2;have hS:=Ub o Z λh=>c2 h.symm;have j1:b=N:=Classical.byContradiction λh=>hS (g5 b h)
  have j2:(s.kind=1\/s.kind=7)/\s.n=N\/s.kind=3\/s.kind=5:=by
   rcases d7 with h|h|h|h
   ·exact .inl h
   ·exact .inr (.inl h)
   ·exact .inr (.inr h)
   ·rw[j1]at hS;exact Zz h hS
  have j3:A=0:=by rw[Zq oM]at i2;omega
  have g:∃a,a<c.aC.toNat-b/\∃P:Nat,PP .i64 ((b:Int)+1)=P/\P<=c.aC.toNat/\a=c.aC.toNat-P/\ai u f5/\0<=PP .i64 (A+1)/\PP .i64 (A+1)<=(if N<P then 1 else 0):=by
   have hw:PP .i64 (A+1)=1:=by rw[j3];exact wrap_i64 cw
   refine⟨_,oM,b+1,aq oM,oM,rfl,q.then a7,oM,?_⟩;rw[Zx oM];omega
  refine⟨λn w'=>f5=w'/\n=decide ((s.kind=1\/s.kind=7)/\s.n=b),⟨_,ae Q rfl,al.eI (λf=>⟨_,ae Q rfl,rfl,by simp[f];rfl⟩) (λf=>⟨_,ae Q rfl,al.eI (λh7=>⟨_,ae Q rfl,rfl,by simp[h7];rfl⟩) (λh7=>⟨rfl,by simp[f,h7]⟩)⟩)⟩,?_⟩;rintro n _ _ ⟨rfl,rfl⟩;refine al.not (al.dec (λ_=>g) (λm5=>⟨_,ae Q rfl,al.eK (λh3=>⟨_,ae Q rfl,al.eK (λh5=>?_) (λ_=>g)⟩) (λ_=>g)⟩));exfalso;rcases j2 with h|h|h
  ·exact m5 ⟨h.1,by rw[h.2,j1]⟩
  ·exact h3 h
  ·exact h5 h
 ·intro k f2
  have x:ai i1 k:=f2.keep;have a0:=q.then x;have a6:=L.af a0;have c3:=x.get e0 id;have e1:=x.get i4 id;have i:∃r:Int,k.cell? ⟨wa.heap.size,0,none⟩=some (WP r)/\al (r==14) (∃t2:Int,k.cell? ⟨m.heap.size,0,none⟩=some (WP t2)/\al (t2 !=10) (PC LL 12 #[RK p] k (λv w'=>∃t3:Int,v= WP t3/\al (t3 !=(X.dq.length:Int)) (Ok (λv w'=>v= .bool true/\ai w w') (.returned (.bool false)) w') (∃a,a<ln-j/\∃(d:Nat) (e:UK) (X:dE),PP .i64 ((j:Int)+1)=d/\d<=ln/\a=ln-d/\cB w w' p e c X/\fX d X/\LC (λ_ _=>True) c X/\aj (λn=>w1.heap.size<=n) H w'/\∀n,e n->w1.heap.size<=n)) (λch b3=>Ok (λv w'=>v= .bool true/\ai w w') (.panicked ch) b3))
    (∃a,a<ln-j/\∃(d:Nat) (e:UK) (X:dE),PP .i64 ((j:Int)+1)=d/\d<=ln/\a=ln-d/\cB w k p e c X/\fX d X/\LC (λ_ _=>True) c X/\aj (λn=>w1.heap.size<=n) H k/\∀n,e n->w1.heap.size<=n))
    (∃a,a<ln-j/\∃(d:Nat) (e:UK) (X:dE),PP .i64 ((j:Int)+1)=d/\d<=ln/\a=ln-d/\cB w k p e c X/\fX d X/\LC (λ_ _=>True) c X/\aj (λn=>w1.heap.size<=n) H k/\∀n,e n->w1.heap.size<=n):=by
   refine⟨_,ae e1 h9,al.eI (λh=>⟨_,ae c3 rfl,al.eK (λ_=>PC.ok (oS a6) ?_) (λ_=>next a0)⟩) (λ_=>next a0)⟩;rintro _ _ ⟨rfl,rfl⟩;exact⟨_,rfl,al.eK (λh2=>Zz (by rw[g6 h]) h2) (λ_=>next a0)⟩
  refine⟨λ_=>False,al.dec (λh=>Zz i2 (by split<;>omega)) (λ_=>⟨id,_,ae c3 rfl,PC.ok (Av a6) ?_⟩)⟩;rintro _ _ ⟨rfl,rfl⟩;have j4:(!((O.2.now !=X.now)==(s.kind==6)))=false:=by
   rw[b8]
   by_cases h6:s.kind=6
   ·rw[Zx h6,h6]
    have:(X.now+1 !=X.now)=true:=by simp;omega
    rw[this];rfl
   ·rw[Zq h6]
    have:(s.kind==6)=false:=by simpa using h6
    rw[this];simp
  refine⟨_,rfl,aj.refl _,al.ff j4 (PC.ok (Av a6) ?_)⟩;rintro _ _ ⟨rfl,rfl⟩;have q3:PP .i64 (X.now+1)=X.now+1:=wrap_i64 cw;have q4:O.2.now<=X.now+1:=by rw[b8];split<;>omega
  have m6:PP .i64 ((X.dq.length:Int)-1)=(X.dq.length:Int)-1:=wrap_i64 cw;refine⟨_,rfl,aj.refl _,al.dec (λh=>oM) (λ_=>⟨_,ae c3 rfl,al.eI (λh4=>⟨_,ae e1 h9,al.eI (λh0=>PC.ok (oS a6) ?_) (λ_=>i)⟩) (λ_=>i)⟩)⟩;rintro _ _ ⟨rfl,rfl⟩;exact⟨_,rfl,al.eK (λh=>Zz (by rw[m6];exact b9 h4 h0) h) (λ_=>i)⟩
end
end Go.Proofs.YtjgjkeponbeekaaGreatDoor
namespace Go.aw
open Go Go.WideShapes
variable{K:Bool}{g0:List MemPlace}{a:Nat}{h:Program}{J j:Type}{g:TypeId}{v:Value}{b:World}
def RH{n:TypeId×Value->j}{f:Reach}{d:DataW j}{e:ky J}{i:Array Field}(k:h.underlying g=some (.struct i))(l:Reads h e g)(m:Value.okWide h b f a g v)(o:DataW.Trod n h b 0 (λ_=>true) K g v d g0)(p:mT h g d):∃c cs,v= .agg cs/\e.rep b (In b) c cs.toList:=by
 obtain⟨cs,rfl,-⟩:=okWide_struct k m;obtain⟨P,q⟩:=o;obtain⟨c,r⟩:=l j n b K P cs.toList _ q p;exact⟨c,cs,rfl,r⟩
end Go.aw
namespace Go.Proofs.YtjgjkeponbeekaaGreatDoor
section
open Go.aw
structure XM (c:bL):Prop where
 aC:aM c.aC
 uO:aM c.uO
 bj:aM c.bj
 chunk:aM c.chunk
 buffer:aM c.buffer
 di:aM c.di
 every:aM c.every
 start:aM c.start
def XN:ky aT where
 k:=2
 rep:=λh D i cs=>∃n tn b P a c,cs=[.slice n tn b,.slice P a c]/\bu h D i n tn P a
 keep:=λ⟨n,tn,b,P,a,c,d,e⟩ j f=>⟨n,tn,b,P,a,c,d,e.keep j f⟩
 mono:=λ⟨n,tn,b,P,a,c,d,e⟩ f=>⟨n,tn,b,P,a,c,d,e.mono f⟩
 len:=λ⟨n,tn,b,P,a,c,d,_⟩=>by rw[d];rfl
 one:=λ⟨n,tn,b,P,a,c,d,_⟩ k g=>by rw[d]at g;simp at g;rcases g with rfl|rfl<;>rfl
def ZD:ky bL where
 k:=10
 rep:=λj D e cs=>∃n tn b P a c,cs=eX e n tn b P a c/\bu j D e.decl n tn P a/\XM e
 keep:=λ⟨n,tn,b,P,a,c,d,f,g⟩ k h=>⟨n,tn,b,P,a,c,d,f.keep k h,g⟩
 mono:=λ⟨n,tn,b,P,a,c,d,f,g⟩ h=>⟨n,tn,b,P,a,c,d,f.mono h,g⟩
 len:=λ⟨n,tn,b,P,a,c,d,_,_⟩=>by rw[d];rfl
 one:=λ⟨n,tn,b,P,a,c,d,_,_⟩ l i=>by rw[d]at i;simp[eX]at i;rcases i with rfl|rfl|rfl|rfl|rfl|rfl|rfl|rfl|rfl|rfl<;>rfl
def ZE:ky lI:=flat 7 iX lI.Ok (λ_=>rfl) (λP a n=>by simp[iX]at n;rcases n with rfl|rfl|rfl|rfl|rfl|rfl|rfl<;>rfl)
def Mn:Reads LL jv 188:=λz f A P a cs B g C=>by
 obtain⟨h,E,_,rfl,i,j,n⟩:=DataW.trod_struct (Tryz.underlying188) g;have k:Tryz.prog.cellsOf 188=4:=kR
 have l:cs.length=4:=i.trans k;have m:Tryz.prog.cellsOf 3=1:=kR
 match cs,l with
 |[F,H,I,J],_=>
 match h,j with
 |[K,L,M,N],_=>
  have b:=n 0 _ rfl;have c:=n 1 _ rfl;have d:=n 2 _ rfl;have e:=n 3 _ rfl;simp only[m,List.drop_zero,List.drop_succ_cons,Zw,List.take_zero,List.take_nil,ZJ,ZZ]at b c d e;obtain⟨o,p,-,q⟩:=DataW.trod_int Tryz.underlying3 b;obtain⟨z1,r,-,s⟩:=DataW.trod_int Tryz.underlying3 c;obtain⟨t,u,-,v⟩:=DataW.trod_int Tryz.underlying3 d;obtain⟨w,x,-,y⟩:=DataW.trod_int Tryz.underlying3 e
  cases p;cases r;cases u;cases x
  exact⟨⟨o,z1,t,w⟩,rfl,br q,br s,br v,br y⟩
def Pk:Reads LL sL 121:=λL f M P a cs N g h=>by
 obtain⟨i,O,_,rfl,j,k,n⟩:=DataW.trod_struct (Tryz.underlying121) g;have l:Tryz.prog.cellsOf 121=4:=kR
 have m:cs.length=4:=j.trans l;have o:Tryz.prog.cellsOf 3=1:=kR
 have p:Tryz.prog.cellsOf 4=1:=kR
 have q:Tryz.prog.cellsOf 119=1:=kR
 match cs,m with
 |[Q,R,S,T],_=>
 match i,k with
 |[U,V,W,r],_=>
  have b:=n 0 _ rfl;have c:=n 1 _ rfl;have d:=n 2 _ rfl;have e:=n 3 _ rfl;simp only[o,p,q,List.drop_zero,List.drop_succ_cons,Zw,List.take_zero,List.take_nil,ZJ,ZZ]at b c d e;obtain⟨s,t,-,u⟩:=DataW.trod_int Tryz.underlying3 b;obtain⟨z1,v,-,w⟩:=DataW.trod_int Tryz.underlying3 c;obtain⟨x,y,-⟩:=DataW.trod_bool Tryz.underlying4 d;have z:mT LL 119 r.1:=by
   intro A B;refine h A ?_;have C:Tryz.prog.underlying 121=_:=Tryz.underlying121;simp only[DataW.weights,C,QY,List.map_nil,DataW.weightsEach,Q6];right;right;right;left;exact B
  obtain⟨E,F,H,I,J,-,-,K⟩:=open_row (bytes:=32) Tryz.underlying119 kR dC kR (Mn) e z
  cases t;cases v;cases y;cases J
  exact⟨⟨s,z1,x,I⟩,E,F,H,rfl,K,br u,br w⟩
def Pl:Reads LL nJ 118:=λx b y n P cs z c d=>by
 obtain⟨e,A,_,rfl,f,g,h⟩:=DataW.trod_struct (Tryz.underlying118) c;have i:Tryz.prog.cellsOf 118=1:=kR
 have j:cs.length=1:=f.trans i;have k:Tryz.prog.cellsOf 116=1:=kR
 match cs,j with
 |[B],_=>
 match e,g with
 |[l],_=>
  have a:=h 0 _ rfl;simp only[k,List.drop_zero,List.drop_succ_cons,Zw,List.take_zero,List.take_nil,ZJ,ZZ]at a;have m:mT LL 116 l.1:=by
   intro o p;refine d o ?_;have q:Tryz.prog.underlying 118=_:=Tryz.underlying118;simp only[DataW.weights,q,QY,List.map_nil,DataW.weightsEach,Q6];left;exact p
  obtain⟨r,s,t,u,v,-,-,w⟩:=open_row (bytes:=48) Tryz.underlying116 kR dC kR (Pk) a m
  cases v
  exact⟨u,r,s,t,rfl,w⟩
def Mo:Reads LL BZ 138:=λE g F P a cs H h I=>by
 obtain⟨i,J,_,rfl,j,k,n⟩:=DataW.trod_struct (Tryz.underlying138) h;have l:Tryz.prog.cellsOf 138=5:=kR
 have m:cs.length=5:=j.trans l;have o:Tryz.prog.cellsOf 3=1:=kR
 match cs,m with
 |[K,L,M,N,O],_=>
 match i,k with
 |[Q,R,S,T,U],_=>
  have b:=n 0 _ rfl;have c:=n 1 _ rfl;have d:=n 2 _ rfl;have e:=n 3 _ rfl;have f:=n 4 _ rfl;simp only[o,List.drop_zero,List.drop_succ_cons,Zw,List.take_zero,List.take_nil,ZJ,ZZ]at b c d e f;obtain⟨p,q,-,r⟩:=DataW.trod_int Tryz.underlying3 b;obtain⟨z1,s,-,t⟩:=DataW.trod_int Tryz.underlying3 c;obtain⟨u,v,-,w⟩:=DataW.trod_int Tryz.underlying3 d;obtain⟨x,y,-,z⟩:=DataW.trod_int Tryz.underlying3 e;obtain⟨A,B,-,C⟩:=DataW.trod_int Tryz.underlying3 f
  cases q;cases s;cases v;cases y;cases B
  exact⟨⟨p,z1,u,x,A⟩,rfl,br r,br t,br w,br z,br C⟩
def Mp:Reads LL XN 25:=λI h J b c cs K i d=>by
 obtain⟨j,L,_,rfl,k,l,e⟩:=DataW.trod_struct (Tryz.underlying25) i;have m:Tryz.prog.cellsOf 25=2:=kR
 have o:cs.length=2:=k.trans m;have p:Tryz.prog.cellsOf 22=1:=kR
 have q:Tryz.prog.cellsOf 23=1:=kR
 match cs,o with
 |[M,N],_=>
 match j,l with
 |[r,s],_=>
  have f:=e 0 _ rfl;have g:=e 1 _ rfl;simp only[p,q,List.drop_zero,List.drop_succ_cons,Zw,List.take_zero,List.take_nil,ZJ,ZZ]at f g;have t:mT LL 22 r.1:=by
   intro n P;refine d n ?_;have a:Tryz.prog.underlying 25=_:=Tryz.underlying25;simp only[DataW.weights,a,QY,List.map_nil,DataW.weightsEach,Q6];left;exact P
  obtain⟨u,v,w,x,y,-,-,z⟩:=open_row (bytes:=24) Tryz.underlying22 kR dC kR (Pl) f t;have A:mT LL 23 s.1:=by
   intro n P;refine d n ?_;have a:Tryz.prog.underlying 25=_:=Tryz.underlying25;simp only[DataW.weights,a,QY,List.map_nil,DataW.weightsEach,Q6];right;left;exact P
  obtain⟨B,C,E,z1,F,-,-,H⟩:=open_row (bytes:=40) Tryz.underlying23 kR dC kR (Mo) g A
  cases y;cases F
  exact⟨⟨x,z1⟩,u,v,w,B,C,E,rfl,⟨z,H⟩⟩
def Pm:Reads LL ZD 27:=λl a m P b cs a0 o p=>by
 obtain⟨q,n2,_,rfl,r,s,n⟩:=DataW.trod_struct (Tryz.underlying27) o;have t:Tryz.prog.cellsOf 27=10:=kR
 have u:cs.length=10:=r.trans t;have v:Tryz.prog.cellsOf 3=1:=kR
 have w:Tryz.prog.cellsOf 25=2:=kR
 match cs,u with
 |[v0,v1,v2,v3,v4,v5,v6,v7,v8,v9],_=>
 match q,s with
 |[y0,y1,y2,y3,y4,y5,y6,y7,x],_=>
  have c:=n 0 _ rfl;have d:=n 1 _ rfl;have e:=n 2 _ rfl;have f:=n 3 _ rfl;have g:=n 4 _ rfl;have h:=n 5 _ rfl;have i:=n 6 _ rfl;have j:=n 7 _ rfl;have k:=n 8 _ rfl;simp only[v,w,List.drop_zero,List.drop_succ_cons,Zw,List.take_zero,List.take_nil,ZJ,ZZ]at c d e f g h i j k;obtain⟨y,z,-,A⟩:=DataW.trod_int Tryz.underlying3 c;obtain⟨z1,B,-,C⟩:=DataW.trod_int Tryz.underlying3 d;obtain⟨E,F,-,H⟩:=DataW.trod_int Tryz.underlying3 e;obtain⟨I,J,-,K⟩:=DataW.trod_int Tryz.underlying3 f;obtain⟨L,M,-,N⟩:=DataW.trod_int Tryz.underlying3 g;obtain⟨O,Q,-,R⟩:=DataW.trod_int Tryz.underlying3 h;obtain⟨S,T,-,U⟩:=DataW.trod_int Tryz.underlying3 i;obtain⟨V,W,-,X⟩:=DataW.trod_int Tryz.underlying3 j;have Y:mT LL 25 x.1:=by
   intro Z hq;refine p Z ?_;have hu:Tryz.prog.underlying 27=_:=Tryz.underlying27;simp only[DataW.weights,hu,QY,List.map_nil,DataW.weightsEach,Q6];right;right;right;right;right;right;right;right;left;exact hq
  obtain⟨z8,r8⟩:=Mp l a m P _ _ _ k Y
  cases z;cases B;cases F;cases J;cases M;cases Q;cases T;cases W
  obtain⟨ta,tn,tc,pa,pn,pc,he,hd⟩:=r8
  cases he
  exact⟨⟨y,z1,E,I,L,O,S,V,z8⟩,ta,tn,tc,pa,pn,pc,rfl,hd,br A,br C,br H,br K,br N,br R,br U,br X⟩
def Pn:Reads LL ZE 38:=λM i N P a cs O j Q=>by
 obtain⟨k,R,_,rfl,l,m,n⟩:=DataW.trod_struct (Tryz.underlying38) j;have o:Tryz.prog.cellsOf 38=7:=kR
 have p:cs.length=7:=l.trans o;have q:Tryz.prog.cellsOf 3=1:=kR
 match cs,p with
 |[S,T,U,V,W,X,Y],_=>
 match k,m with
 |[Z,y1,y2,y3,y4,y5,y6],_=>
  have b:=n 0 _ rfl;have c:=n 1 _ rfl;have d:=n 2 _ rfl;have e:=n 3 _ rfl;have f:=n 4 _ rfl;have g:=n 5 _ rfl;have h:=n 6 _ rfl;simp only[q,List.drop_zero,List.drop_succ_cons,Zw,List.take_zero,List.take_nil,ZJ,ZZ]at b c d e f g h;obtain⟨r,s,-,t⟩:=DataW.trod_int Tryz.underlying3 b;obtain⟨z1,u,-,v⟩:=DataW.trod_int Tryz.underlying3 c;obtain⟨w,x,-,y⟩:=DataW.trod_int Tryz.underlying3 d;obtain⟨z,A,-,B⟩:=DataW.trod_int Tryz.underlying3 e;obtain⟨C,E,-,F⟩:=DataW.trod_int Tryz.underlying3 f;obtain⟨H,I,-,w5⟩:=DataW.trod_int Tryz.underlying3 g;obtain⟨J,K,-,L⟩:=DataW.trod_int Tryz.underlying3 h
  cases s;cases u;cases x;cases A;cases E;cases I;cases K
  exact⟨⟨r,z1,w,z,C,H,J⟩,rfl,br t,br v,br y,br B,br F,br L⟩
end
section
open Go.aw
def XO:ky (bL×List fV) where
 k:=11
 rep:=λo D i cs=>∃n tn d P a e b c f,cs=ly i.1 n tn d P a e b c f/\bu o D i.1.decl n tn P a/\XM i.1/\Row IC 80 o D b c i.2
 keep:=λ⟨n,tn,d,P,a,e,b,c,f,g,j,k,l⟩ p h=>⟨n,tn,d,P,a,e,b,c,f,g,j.keep p h,k,l.keep p h⟩
 mono:=λ⟨n,tn,d,P,a,e,b,c,f,g,j,k,l⟩ h=>⟨n,tn,d,P,a,e,b,c,f,g,j.mono h,k,l.mono h⟩
 len:=λ⟨n,tn,d,P,a,e,b,c,f,g,_⟩=>by rw[g];rfl
 one:=λ⟨n,tn,d,P,a,e,b,c,f,g,_⟩ q m=>by rw[g]at m;simp[ly,eX]at m;rcases m with rfl|rfl|rfl|rfl|rfl|rfl|rfl|rfl|rfl|rfl|rfl<;>rfl
def Mq:Reads LL IC 40:=λh a i n b cs L j k=>by
 obtain⟨l,M,_,rfl,m,o,P⟩:=DataW.trod_struct (Tryz.underlying40) j;have p:Tryz.prog.cellsOf 40=10:=kR
 have q:cs.length=10:=m.trans p;have r:Tryz.prog.cellsOf 3=1:=kR
 have s:Tryz.prog.cellsOf 38=7:=kR
 match cs,q with
 |[N,O,Q,R,S,T,U,V,W,X],_=>
 match l,o with
 |[Y,Z,y2,t],_=>
  have c:=P 0 _ rfl;have d:=P 1 _ rfl;have e:=P 2 _ rfl;have f:=P 3 _ rfl;simp only[r,s,List.drop_zero,List.drop_succ_cons,Zw,List.take_zero,List.take_nil,ZJ,ZZ]at c d e f;obtain⟨u,v,-,w⟩:=DataW.trod_int Tryz.underlying3 c;obtain⟨z1,x,-,y⟩:=DataW.trod_int Tryz.underlying3 d;obtain⟨z,A,-,B⟩:=DataW.trod_int Tryz.underlying3 e;have C:mT LL 38 t.1:=by
   intro E F;refine k E ?_;have H:Tryz.prog.underlying 40=_:=Tryz.underlying40;simp only[DataW.weights,H,QY,List.map_nil,DataW.weightsEach,Q6];right;right;right;left;exact F
  obtain⟨I,J⟩:=Pn h a i n _ _ _ f C
  cases v;cases x;cases A
  obtain⟨g,K⟩:=J;simp only[iX,List.cons.injEq,and_true]at g;obtain⟨rfl,rfl,rfl,rfl,rfl,rfl,rfl⟩:=g;exact⟨⟨u,z1,z,I⟩,rfl,br w,br y,br B,K⟩
def Lx:Reads LL XO 30:=λj P k n d cs O l e=>by
 obtain⟨m,Q,_,rfl,o,p,f⟩:=DataW.trod_struct (Tryz.underlying30) l;have q:Tryz.prog.cellsOf 30=11:=kR
 have r:cs.length=11:=o.trans q;have s:Tryz.prog.cellsOf 27=10:=kR
 have t:Tryz.prog.cellsOf 28=1:=kR
 match cs,r with
 |[R,S,T,U,V,W,X,Y,Z,v9,a0],_=>
 match m,p with
 |[u,v],_=>
  have g:=f 0 _ rfl;have h:=f 1 _ rfl;simp only[s,t,List.drop_zero,List.drop_succ_cons,Zw,List.take_zero,List.take_nil,ZJ,ZZ]at g h;have w:mT LL 27 u.1:=by
   intro a b;refine e a ?_;have c:Tryz.prog.underlying 30=_:=Tryz.underlying30;simp only[DataW.weights,c,QY,List.map_nil,DataW.weightsEach,Q6];left;exact b
  obtain⟨x,y⟩:=Pm j P k n _ _ _ g w;have z:mT LL 28 v.1:=by
   intro a b;refine e a ?_;have c:Tryz.prog.underlying 30=_:=Tryz.underlying30;simp only[DataW.weights,c,QY,List.map_nil,DataW.weightsEach,Q6];right;left;exact b
  obtain⟨A,B,C,z1,E,-,-,F⟩:=open_row (bytes:=80) Tryz.underlying28 kR dC kR (Mq) h z
  cases E
  obtain⟨H,tn,I,J,K,L,i,M,N⟩:=y;simp only[eX,List.cons.injEq,and_true]at i;obtain⟨rfl,rfl,rfl,rfl,rfl,rfl,rfl,rfl,rfl,rfl⟩:=i;exact⟨(x,z1),H,tn,I,J,K,L,A,B,C,rfl,M,N,F⟩

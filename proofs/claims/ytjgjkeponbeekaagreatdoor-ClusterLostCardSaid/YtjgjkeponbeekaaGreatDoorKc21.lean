import Derived.Test.YtjgjkeponbeekaaGreatDoorKc19
import Derived.Test.YtjgjkeponbeekaaGreatDoorYcQue
set_option linter.all false
set_option maxRecDepth 100000
open Go.IntKind renaming wrap→ZU
namespace Go.Proofs.YtjgjkeponbeekaaGreatDoor
open Go.aq
def Kk:aS:=⟨[[⟨1,1,true,[]⟩,⟨2,3,false,[]⟩,⟨3,2,false,[]⟩,⟨4,2,false,[⟨0,1,0,2⟩,⟨1,0,-1,0⟩,⟨0,2,-1,0⟩]⟩,⟨2,2,false,[]⟩,⟨1,1,false,[]⟩]],[⟨0,0,1,0,2⟩,⟨0,2,2,0,1⟩,⟨0,5,3,4,4⟩]⟩
def gE(n:Int):bS:=⟨n,131072,400,3,20,5,4,0,Kk⟩
variable{o:Array Value}{J:Bool}{y:ByteArray}{s:RK}{E e l:Int}{a7:List PanicEntry->UV}{w:List UInt8}{I:List ah}{a6:List bZ}{e4:List bk}{F a b7 c i p:Nat}{f:LL}{H:Nat×Nat}{d v:ac}{j:Type}{g:TypeId}{N:Value->Prop}{q:L1}{b:World}{g8:World->(LL)->et->Prop}{h7:World->UV}{R:aS}{O m:ah}{B:aw}{d6:bf}{e3:bk}{d1:kY}
def Row.AB{c:kr j}{bytes n:Nat}{D:LL}(d:b.heap[n]? =some (.cells o g H)){xs:List j}(k:bM c b D xs o.toList)(q:0<c.k)(P:xs.length*bytes<=aT):Row c bytes b (λa=>a=n\/D a) (PP n) xs.length xs:=
 ⟨rfl,P,λr s l=>by
  obtain⟨e,m,f⟩:=k.at l;have t:=c.len f;refine⟨n,0,e,rfl,aA d,.inl rfl,λh p=>?_,c.mono f λa P=>.inr P⟩;have i:=m h p;rw[Qq (show h<e.length by omega)]at i⊢;rw[Xz];exact ae d (by simpa using i)⟩
def i10(n:(decide (-1000000<=e)&&decide (e<=1000000))=true):aM e:=by
 simp only[QK,Zk]at n;unfold aM;omega
section
variable {w w' w0:World}
def MM:am 60 #[] w (Ok λu w'=>∃m tn v o p x G,u= .agg #[.slice m tn v,.slice o p x]/\bt w' G Kk m tn o p/\(∀n,G n->w.heap.size<=n/\n<w'.heap.size)/\ai w w'):=by
 refine Gv (PA.mk λb y V z=>PA.mk λd A W B=>PA.mk λf q X C=>PA.mk λg k Y E=>PA.mk λr h Z F=>?_);have s:=((A.then q).then k).then h;refine PS.mk (s.get z id) sM λw6 H s6 I=>PS.mk I sM λc J s7 t=>⟨_,_,_,_,_,_,ae t rfl,ae t rfl,?_⟩
 have e:aj (λn=>n=w.heap.size) r c:=H.then J;have K:=e.get (h.get (k.get (q.get B id) id) id) (λP=>by have P:b.heap.size=w.heap.size:=P;omega);have L:=e.get (h.get (k.get C id) id) (λP=>by have P:d.heap.size=w.heap.size:=P;omega);have M:=e.get (h.get E id) (λP=>by have P:f.heap.size=w.heap.size:=P;omega);have N:=e.get F (λP=>by have P:g.heap.size=w.heap.size:=P;omega);have O:Row jq 32 c (λn=>n=b.heap.size\/False) (PP b.heap.size) 3 [⟨0,1,0,2⟩,⟨1,0,-1,0⟩,⟨0,2,-1,0⟩]:=
  Row.AB (c:=jq) (xs:=[⟨0,1,0,2⟩,⟨1,0,-1,0⟩,⟨0,2,-1,0⟩]) (D:=λ_=>False) K ⟨_,_,rfl,⟨rfl,i10 rfl,i10 rfl,i10 rfl,i10 rfl⟩,_,_,rfl,⟨rfl,i10 rfl,i10 rfl,i10 rfl,i10 rfl⟩,_,_,rfl,⟨rfl,i10 rfl,i10 rfl,i10 rfl,i10 rfl⟩,rfl⟩ dC dC
 have Q:Row sF 48 c (λn=>n=d.heap.size\/n=b.heap.size\/False) (PP d.heap.size) 6 [⟨1,1,true,[]⟩,⟨2,3,false,[]⟩,⟨3,2,false,[]⟩,⟨4,2,false,[⟨0,1,0,2⟩,⟨1,0,-1,0⟩,⟨0,2,-1,0⟩]⟩,⟨2,2,false,[]⟩,⟨1,1,false,[]⟩]:=by
  have no:∀(i j:Int) (l:Bool),aM i->aM j->sF.rep c (λn=>n=b.heap.size\/False) ⟨i,j,l,[]⟩ [ZT i,ZT j,.bool l,.slice none 0 0]:=λi j l R S=>⟨none,0,0,rfl,dy _ _,R,S⟩
  exact Row.AB (c:=sF) (xs:=[⟨1,1,true,[]⟩,⟨2,3,false,[]⟩,⟨3,2,false,[]⟩,⟨4,2,false,[⟨0,1,0,2⟩,⟨1,0,-1,0⟩,⟨0,2,-1,0⟩]⟩,⟨2,2,false,[]⟩,⟨1,1,false,[]⟩]) (D:=λn=>n=b.heap.size\/False) L ⟨_,_,rfl,no 1 1 true (i10 rfl) (i10 rfl),_,_,rfl,no 2 3 false (i10 rfl) (i10 rfl),_,_,rfl,no 3 2 false (i10 rfl) (i10 rfl),_,_,rfl,⟨_,_,_,rfl,O,i10 rfl,i10 rfl⟩,_,_,rfl,no 2 2 false (i10 rfl) (i10 rfl),_,_,rfl,no 1 1 false (i10 rfl) (i10 rfl),rfl⟩ dC dC
 have T:Row BX 40 c (λn=>n=f.heap.size\/False) (PP f.heap.size) 3 Kk.projs:=
  Row.AB (c:=BX) (xs:=[⟨0,0,1,0,2⟩,⟨0,2,2,0,1⟩,⟨0,5,3,4,4⟩]) (D:=λ_=>False) M ⟨_,_,rfl,⟨rfl,i10 rfl,i10 rfl,i10 rfl,i10 rfl,i10 rfl⟩,_,_,rfl,⟨rfl,i10 rfl,i10 rfl,i10 rfl,i10 rfl,i10 rfl⟩,_,_,rfl,⟨rfl,i10 rfl,i10 rfl,i10 rfl,i10 rfl,i10 rfl⟩,rfl⟩ dC dC
 have U:Row nq 24 c (λn=>n=g.heap.size\/n=d.heap.size\/n=b.heap.size\/False) (PP g.heap.size) 1 Kk.types:=
  Row.AB (c:=nq) (xs:=[[⟨1,1,true,[]⟩,⟨2,3,false,[]⟩,⟨3,2,false,[]⟩,⟨4,2,false,[⟨0,1,0,2⟩,⟨1,0,-1,0⟩,⟨0,2,-1,0⟩]⟩,⟨2,2,false,[]⟩,⟨1,1,false,[]⟩]]) (D:=λn=>n=d.heap.size\/n=b.heap.size\/False) N ⟨_,_,rfl,⟨_,_,_,rfl,Q⟩,rfl⟩ dC dC
 refine Ok.mk ⟨_,_,_,_,_,_,λn=>(n=g.heap.size\/n=d.heap.size\/n=b.heap.size\/False)\/n=f.heap.size\/False,rfl,⟨U.mono λn a=>.inl a,T.mono λn a=>.inr a⟩,λn a=>?_,?_⟩
 ·have z7:c.heap.size=r.heap.size:=oM
  rcases a with(rfl|rfl|rfl|a)|rfl|a<;>first|omega|exact a.elim
 ·exact(y.then s).new e λn a=>.inr (by have a:n=w.heap.size:=a;omega)
def Kl:am 24 #[ZT e] w (Ok λk w'=>∃P tn d a b f G,k=xg (gE e) P tn d a b f/\bt w' G Kk P tn a b/\(∀n,G n->w.heap.size<=n/\n<w'.heap.size)/\ai w w'):=by
 refine Dy (PA.mk λq l r m=>PC.ok MM ?_);rintro _ s ⟨P,tn,d,a,b,f,G,rfl,o,g,h⟩;refine⟨_,_,_,_,_,_,rfl,aC (Iq (gE e) P tn d a b f) (h.get m id) rfl λt i u p=>au (Iq (gE e) P tn d a b f) p (Ok.mk ⟨P,tn,d,a,b,f,G,rfl,o.keep i λn c j=>by have j:n=w.heap.size:=j;have:=g n c;omega,λn c=>by have:=g n c;omega,(l.then h).new i λn c=>.inr (by have c:n=w.heap.size:=c;omega)⟩)⟩
end
section
variable {w w' w0:World} {p q:Nat} {F G D E:LL} {c e:bS} {self other:Int} {X Y:bk}
def KY(c:bS)(self:Int):(cz c self).2.gC.asked=[]:=by
 have n:(Cf c).2.gC.asked=[]:=by unfold Cf;rw[yv]
 unfold cz;split
 ·exact n
 split<;>exact n
def bV.cl(n:bV w p F c self X):X.S.Cl/\X.S.n=c.aD.toNat:=by
 obtain⟨b,d,P,a⟩:=n;exact(a.at' 3).2
def bV.len(a:bV w p F c self X):X.S.l.length<=20000000:=by
 obtain⟨f,b,n,d⟩:=a;have e:dd w b.bp (λP=>F P/\n P=4) c.decl c.every.toNat X.S.l:=d.at' 4;exact e.1.2.2.2
def bV.Zu(b:bV w p F c self X):X.D.Ok:=by
 obtain⟨f,P,n,d⟩:=b;obtain⟨Fd,e,-⟩:=(show DL w (λa=>F a/\n a=2) P.dp P.lp X.D X.log from d.at' 2)
 exact e.ok
end
section
variable {w w' w0 w1 w2 wb:World} {p i k g:Nat} {F F1 F' G G' T D:LL} {cls cls':Nat->Nat} {h:KH} {c:bS} {X:et} {s:fP} {x:iB} {v:Value} {r:iB×et} {now:Int} {rs:List (Nat×bk)} {ef:List bZ} {y:Nat×bk} {R R':bk} {aD:List bk}
def ks.base(b:ks w1 f x v w2)(r:w.heap.size<=w1.heap.size):ks w f x v w2:=by
 obtain⟨c,d,e,g,h,i,j,k,l,G,m,o,p,q,n⟩:=b;exact⟨c,d,e,g,h,i,j,k,l,G,m,o,p,q,λP a=>⟨by have:=(n P a).1;omega,(n P a).2⟩⟩
def ks.at'(b:ks w f x v w2):fR w x v w2:=by
 obtain⟨c,d,e,g,h,i,j,k,l,G,m,o,p,q,n⟩:=b;exact⟨c,d,e,g,h,i,j,k,l,G,m,o,p,q,λP a=>⟨(n P a).1,(n P a).2.1⟩⟩
def ks.new(b:fR w x v w2)(c:∀n,f n->n<w.heap.size):ks w f x v w2:=by
 obtain⟨d,e,g,h,i,j,k,l,m,G,o,p,q,r,P⟩:=b;exact⟨d,e,g,h,i,j,k,l,m,G,o,p,q,r,λn a=>⟨(P n a).1,(P n a).2,λs=>by have:=c n s;have:=P n a;omega⟩⟩
def Ba{n:kr j}{bytes:Nat}(h:Row n bytes w D d a []):Row n bytes w (λ_=>False) d a []:=by
 have:=h.len;simp at this;subst this;exact⟨rfl,by unfold aT;omega,λi y P=>by simp at P⟩
def ks.flat(e:fR w x v w2)(n:x.st.cells=[])(P:x.KK=[])(a:x.rows=[]):ks w f x v w2:=by
 obtain⟨g,h,i,j,k,l,m,o,p,G,q,b,c,d,s⟩:=e;rw[n]at b;rw[P]at c;rw[a]at d;exact⟨g,h,i,j,k,l,m,o,p,λ_=>False,q,by rw[n];exact Ba b,by rw[P];exact Ba c,by rw[a];exact Ba d,λt r=>r.elim⟩
def VB(s:ks wb f x v w1)(t:w1.heap[g]? =some (.cells o 53 (0,0)))(u:8=o.size)(E:g<wb.heap.size)(w:∀w2,aj (·=g) w1 w2->ks wb f x v w2->q v w2):
  sh (dm WP 53) λy=>v=y/\ni WP 53 (L2 g) y w1 λw2=>js WP 53 (L2 g) w2 λr=>Ok q (.returned r) w2:=by
 obtain⟨a,b,c,d,e,h,i,j,k,G,rfl,z,A,B,l⟩:=s;have p:∀n,G n->¬n=g:=λn P F=>by have:=l n P;omega
 exact cx (MW x a b c d e h i j k) ⟨rfl,aC (iK x a b c d e h i j k) t u λw2 m H C=>au (iK x a b c d e h i j k) C (Ok.mk (w w2 m ⟨a,b,c,d,e,h,i,j,k,G,rfl,z.keep m p,A.keep m p,B.keep m p,λn P=>⟨(l n P).1,by have:=(l n P).2.1;omega,(l n P).2.2⟩⟩))⟩
def _root_.Go.aq.cu.last(P:cu F w f w1)(a:aj T w1 w2)(b:∀n,T n->w.heap.size<=n):cu F w f w2:=⟨P.keep.new a λn c=>.inr (b n c),P.new⟩
def _root_.Go.aq.cu.af(n:cu F w f w1)(P:ai w1 w2):cu F w f w2:=⟨n.keep.then (ai.keep P),n.new⟩
def _root_.Go.aq.cu.of(n:ai w w1):cu F w F w1:=⟨ai.keep n,λa P=>.inl P⟩
def Tt(i:QL g8 a)(j:MV g8 wb F1 k r v w1)(c:cu F w F1 wb)(A:a<=w.heap.size)(d:wb.heap[g]? =some (.cells o 53 (0,0)))(l:8=o.size)(B:w.heap.size<=g)(e:¬F1 g):
  sh (dm WP 53) λy=>v=y/\ni WP 53 (L2 g) y w1 λw2=>js WP 53 (L2 g) w2 λm=>Ok (MV g8 w F k r) (.returned m) w2:=by
 obtain⟨p,q,s,t,b⟩:=j;have u:=aA d;exact VB q (b.keep.get d e) l u λw2 f x=>⟨p,x.base c.keep.size,i _ _ _ _ _ s f (λP z n=>by have n:P=g:=n;subst n;exact(b.new P z).elim e λh=>oM) (λP n=>by have n:P=g:=n;omega),t,(c.trans b).last f λP n=>by have n:P=g:=n;omega⟩
def VC(c:QL g8 a){no:Int}(d:g8 w1 F1 X)(e:gB k X)(f:cu F w F1 w1)(q:a<=w.heap.size)(h:w1.heap[g]? =some (.cells o 53 (0,0)))(i:8=o.size)(r:w.heap.size<=g)(j:¬F1 g):
  ni WP 53 (L2 g) (.agg #[ZT no,ZT 0,ZT 0,ZT 0,.slice none 0 0,.slice none 0 0,.slice none 0 0,.bool false]) w1 λw2=>js WP 53 (L2 g) w2 λl=>Ok (MV g8 w F k (bL no,X)) (.returned l) w2:=
 aC (iK (bL no) none 0 0 none 0 0 none 0 0) h i λw2 b s m=>au (iK (bL no) none 0 0 none 0 0 none 0 0) m (Ok.mk ⟨F1,.flat (fR.plain rfl rfl rfl) rfl rfl rfl,c _ _ _ _ _ d b (λP p n=>by have n:P=g:=n;subst n;exact j p) (λP n=>by have n:P=g:=n;omega),e,f.last b λP n=>by have n:P=g:=n;omega⟩)
def qM(n:ji w0 wb p F1 c k r v w1)(P:cu F w F1 wb)(a:w0.heap.size<=w.heap.size)(b:wb.heap[g]? =some (.cells o 53 (0,0)))(d:8=o.size)(e:w.heap.size<=g)(f:¬F1 g):
  sh (dm WP 53) λy=>v=y/\ni WP 53 (L2 g) y w1 λw2=>js WP 53 (L2 g) w2 λh=>Ok (ji w0 w p F c k r) (.returned h) w2:=Tt Ep n P a b d e f
def Gj(n:cD w0 w1 p F1 c X)(P:gB k X)(a:cu F w F1 w1)(b:w0.heap.size<=w.heap.size)(d:w1.heap[g]? =some (.cells o 53 (0,0)))(e:8=o.size)(f:w.heap.size<=g)(h:¬F1 g):
  ni WP 53 (L2 g) (.agg #[ZT 0,ZT 0,ZT 0,ZT 0,.slice none 0 0,.slice none 0 0,.slice none 0 0,.bool false]) w1 λw2=>js WP 53 (L2 g) w2 λi=>Ok (ji w0 w p F c k (bL 0,X)) (.returned i) w2:=VC Ep n P a b d e f h
def QM{no:Int}:am 35 #[ZT no] w (Ok λv w'=>fR w (bL no) v w'/\ai w w'):=
 Bb (PA.mk λw2 P e a=>aC (iK (bL no) none 0 0 none 0 0 none 0 0) a rfl λf b g c=>au (iK (bL no) none 0 0 none 0 0 none 0 0) c (Ok.mk ⟨fR.plain rfl rfl rfl,P.new b λd n=>.inr (by have n:d=w.heap.size:=n;omega)⟩))
def iq{no:Int}(P:cD w0 w p F c X)(a:gB k X):am 35 #[ZT no] w (Ok (ji w0 w p F c k (bL no,X))):=
 Calls.ok QM λv w' ⟨b,n⟩=>⟨F,.flat b rfl rfl rfl,P.af n,a,cu.of n⟩
def Gk:(fJ e4 e).isSome=decide (0<=e/\e<e4.length):=by
 by_cases h:0<=e/\e<e4.length
 ·rw[Zy h];unfold fJ
  rw[Zx h.1,Qq oM];rfl
 ·rw[Xv h,KL.2 oM];rfl
def cV.n(n:cV w F cls p h now c rs ef)(P:h.ps=rs.map (·.1)):h.n=rs.length:=by
 have:=n.nh.len dC;rw[P,Q8]at this;exact this
def si(b:cD w0 w p F c X):am 27 #[L2 p,ZT e] w (Ok λv w'=>v= .bool (fJ X.aD e).isSome/\w=w'):=by
 obtain⟨h,cls,rs,a,d,f,i,j,k⟩:=b;have g:=a.n d;rw[Gk,f,Q8];refine nH (al.dec (λP=>⟨p,0,rfl,_,_,_,ae a.cell rfl,Ok.mk ⟨?_,rfl⟩⟩) (λP=>Ok.mk ⟨?_,rfl⟩))
 ·rw[g];congr 1;exact decide_eq_decide.2 ⟨λn=>⟨P,n⟩,λn=>n.2⟩
 ·congr 1;exact(Xv λn=>P n.1).symm
def cV.ptr(b:cV w F cls p h now c rs ef)(d:h.ps=rs.map (·.1))(f:rs[i]? =some y)(q:rs.length<=1000):∃n P,h.a=some ⟨n,P,none⟩/\i<h.n/\w.cell? ⟨n,P+i,none⟩=some (L2 y.1)/\F n/\cls n=0:=by
 have r:=b.n d;have s:=(Qv.1 f).1;obtain⟨n,P,g,t,j,-,k,a,e,l⟩:=(b.nh.row (bytes:=8) dC (by rw[d,Q8];unfold aT;omega)).Ie (i:=i) oM;have m:g=y.1:=by rw[d,Q9,f]at a;injection a with a;exact a.symm
 obtain⟨rfl,-⟩:=l;have e:=e 0 dC;subst m;have o:=b.c0.2.2.2 n k;exact⟨n,P,j,oM,by simpa[show XT.k=1 from rfl]using e,o.1⟩
def cV.self(n:cV w F cls p h now c rs ef):F p/\cls p=0:=n.c0.1
def mI{c g:Type}{f:c->g}:∀{n:List c} {d:Nat} {a b:c},n[d]? =some a->f b=f a->(n.set d b).map f=n.map f
 |x::n,0,a,b,P,e=>by simp at P;subst P;simp[e]
 |x::n,d+1,a,b,P,e=>by simp at P;simp[mI P e]
def cD.KM(n:cV w F cls p h now c (rs.set i (y.1,R')) ef)(P:rs[i]? =some y)(a:h.ps=rs.map (·.1))(b:aD=rs.map (·.2))(d:rs.length=c.aD.toNat)(e:jU c 0)(f:Env w0 w F):cD w0 w p F c ⟨aD.set (i:Int).toNat R',ef,now⟩:=
 ⟨h,cls,_,n,by rw[a];exact(mI (f:=(·.1)) (b:=(y.1,R')) P rfl).symm,by dsimp only;rw[b,List.map_set,Qx],by rw[List.length_set];exact d,e,f⟩
def ji.rep{R':bk}(e:cV w F cls p h X.now c rs X.ef)(f:h.ps=rs.map (·.1))(g:X.aD=rs.map (·.2))(j:rs.length=c.aD.toNat)(l:jU c 0)(m:Env w0 w F)(a:rs[i]? =some y)(o:fR w x v w')(q:x.st.cells=[])(r:x.KK=[])(s:x.rows=[])(t:bV w' y.1 G' c i R')(u:cu (λb=>F b/\cls b=i+2) w G' w')(n:gB k X)(z:Fit (k+1) R'):
  ji w0 w p F c (k+1) (x,⟨X.aD.set (i:Int).toNat R',X.ef,X.now⟩) v w':=by
 obtain⟨F1,E,P,d,H,-⟩:=Eo e fA a t u;refine⟨F1,.flat o q r s,cD.KM P a f g j l (m.iz d),?_,d⟩;exact⟨λA B=>(List.mem_or_eq_of_mem_set B).elim (λP=>(n.aD A P).mono) λC=>C▸z,n.Og,by have h:=n.now;show X.now<=_;omega⟩
def Ig(a:aw)(n:Int)(P:bZ)(b:Int):(l_ a n P b).length<=2:=by
 have d:∀(c:Prop) [Decidable c] (e:bZ),(if c then [e]else([]:List bZ)).length<=1:=λc _ e=>by split<;>simp
 unfold l_
 by_cases f:P.kind≠1/\P.kind≠2
 ·rw[Zx f];simp
 rw[Zq f];have h:=d (0<(a.missing P.vec (max 1 (min b 32))).length) ⟨3,n,P.bO,[],a.missing P.vec (max 1 (min b 32))⟩;have i:=d (P.kind=1/\(mJ P.vec a.vec=2\/mJ P.vec a.vec=3)) ⟨2,n,P.bO,a.vec,[]⟩;dsimp only;generalize(if 0<(a.missing P.vec (max 1 (min b 32))).length then [(⟨3,n,P.bO,[],a.missing P.vec (max 1 (min b 32))⟩:bZ)]else [])=j at h;generalize(if P.kind=1/\(mJ P.vec a.vec=2\/mJ P.vec a.vec=3)then [(⟨2,n,P.bO,a.vec,[]⟩:bZ)]else [])=k at i
 by_cases g:(j++k).isEmpty=true
 ·rw[Zx g];simp
 ·rw[Zq g,QX];omega
def Ih(c:bS)(n:Int)(X:bk)(P:bZ):(cy c n X P).1.length<=2:=by
 unfold cy
 cases X.log with
 |none=>simp
 |some a=>
  dsimp only;split
  ·simp
  split
  ·simp
  split
  ·unfold mK
   dsimp only;split
   ·simp
   split<;>simp
  split
  ·exact Ig _ _ _ _
  split<;>simp
def xd(n:cV w F cls p h now c rs ef)(P:rs[i]? =some y)(b:F a/\cls a=0):¬(F a/\cls a=i+2):=λd=>by omega
def Er(m:cD w0 w p F c X)(o:gB k X)(hk:k<=1000)(b:Option bZ){x z:ac}{A M B N:Nat}(hv:Row aP 8 w D x A (b.getD u_).vec)(b1:Row kq 96 w D z B (b.getD u_).events)(q:∀P,D P->P<w.heap.size/\¬F P):
  am 61 #[L2 p,iL (b.getD u_) x A M z B N,.bool b.isSome] w (Ok (ji w0 w p F c (k+1) (jC c X b))):=by
 have a1:=m.aE;have C:=m.env.gr.size;refine nI (PA.mk λw1 k1 s1 O=>PA.mk λw2 E s2 H=>?_);have g:=k1.then E;have I:=m.af g;have z2:=g.size;have r:¬F w1.heap.size:=λa=>by have:=a1 _ a;omega
 cases b with
 |none=>exact al.tt rfl (PC.ok (iq I o.mono) λv w' i=>qM i (cu.of g) C H rfl oM r)
 |some n=>
  refine al.ff rfl ⟨_,ae (E.get O id) rfl,PC.ok (si I) ?_⟩;rintro _ _ ⟨rfl,rfl⟩;refine⟨_,rfl,?_⟩;show al (!(fJ X.aD n.nj).isSome) _ _
  cases J:fJ X.aD n.nj with
  |none=>
   have a:jC c X (some n)=(bL 1,X):=by unfold jC;dsimp only;rw[J]
   rw[a];exact al.tt rfl (PC.ok (iq I o.mono) λv w' i=>qM i (cu.of g) C H rfl oM r)
  |some R=>
   obtain⟨d,Q,S⟩:=gU J;have a:jC c X (some n)=(bL (cy c d R n).2.1,X.put d (cy c d R n).2.2 (cy c d R n).1):=by unfold jC;dsimp only;rw[J];dsimp only;rw[Q]
   rw[a];refine al.ff rfl λT d3=>?_;have s:ai w2 T:=d3.keep;have j:=g.then s;obtain⟨h,cls,rs,e,U,K,a5,L,V⟩:=m.af j;obtain⟨a6,b8,b9⟩:=L.aD;rw[K,Q9]at S;obtain⟨y,f,rfl⟩:=Option.map_eq_some_iff.1 S;obtain⟨P,b,b2,c0,a2,c1⟩:=e.ptr U f oM;have W:=s.get (E.get O id) id;have Y:=cV.rep e f;have a7:y.2∈X.aD:=by rw[K];exact Xk.2 ⟨y,QZ f,rfl⟩
   have Z:=o.aD _ a7;have b3:=Y.waits;have b4:=L.KN;have z3:=j.size;have c2:=s.size;refine⟨p,0,rfl,_,_,_,ae e.cell rfl,_,ae W rfl,P,b,b2,by show(0:Int)<=n.nj;omega,by show n.nj<_;omega,_,by show T.cell? ⟨P,b+Int.toNat n.nj,none⟩=_;rw[Q,Qx];exact a2,au (eS n x A M z B N) W ?_⟩;refine PC.ok (Ii Y V.part (hv.af j) (λP l=>⟨by have:=(q P l).1;omega,λa=>(q P l).2 a.1⟩) (b1.af j) (λP l=>⟨by have:=(q P l).1;omega,λa=>(q P l).2 a.1⟩) (by have:=Z.evs;omega)) ?_;rintro _ w4 ⟨v1,G',rfl,t,a8,a0⟩;have a9:=Dr c d y.2 n b3 b4.2;have b0:=Ih c d y.2 n;generalize cy c d y.2 n=dl at t a8 a9 b0;obtain⟨oa,on,oc,a3,Do,rfl,t⟩:=t;have np:=xd e f e.self;refine⟨oa,on,oc,_,rfl,p,0,rfl,_,ae (a0.keep.get e.cell np) rfl,?_⟩;refine PC.ok (A_ e f a8 a0 ⟨oa,on,oc,a3,Do,rfl,t⟩ oM) ?_;rintro _ w5 ⟨a4,F5,c3,rfl,b5,u,-⟩;have b6:¬F5 w1.heap.size:=λa=>(u.new _ a).elim r λh=>by omega
   have b7:cD w0 w5 p F5 c (X.put d dl.2.2 dl.1):=cD.KM b5 f U K a5 L (V.iz u);exact⟨a4,rfl,PC.ok (iq b7 (o.put (Z.Ij a9))) λv w' i=>qM i (cu.after j u) C (u.keep.get (s.get H id) r) rfl oM b6⟩
def cV.take(P:cV w F cls p h now c rs ef)(d:aM e):am 62 #[L2 h.q,ZT e] w (Ok λv w'=>Bc w (dQ ef e) v w'/\cV w' F cls p h now c rs (gy ef e)/\aj (λa=>F a/\cls a=1) w w'):=by
 refine Calls.ok (Ik P.Ww d) λv w' ⟨f,g,b⟩=>⟨f,?_,b⟩
 refine bb.same P fA b g λi G j n=>?_
 match i,j,n with
 |0,_,n=>exact n
 |k+2,_,n=>exact n
def Il(b:cD w0 w p F c X)(q:gB k X)(r:k<=1000)(t:s.Ok):
  am 29 #[L2 p,mf s] w (Ok (ji w0 w p F c (k+1) (jC c ⟨X.aD,gy X.ef s.n,X.now⟩ (dQ X.ef s.n)))):=by
 have d:=b.aE;have u:=b.env.gr.size;refine lQ (PA.mk λw1 x O y=>PA.mk λw2 e Q z=>λi A=>?_);have f:ai w2 i:=A.keep;have g:=(x.then e).then f;have R:=g.size;have S:=e.size;obtain⟨h,cls,rs,j,B,C,E,H,I⟩:=b.af g;refine⟨p,0,rfl,_,ae j.cell rfl,_,ae (f.get (e.get y id) id) rfl,PC.ok (j.take t.n) ?_⟩;rintro _ J ⟨⟨T,U,V,W,Y,Z,G,rfl,K,L,l⟩,M,m⟩;have o:cu F i F J:=⟨m.mono λP _ n=>n.1,λP n=>.inl n⟩
 refine cx (Es _ _ _ _ _ _ _) ⟨_,rfl,PC.ok (Er (X:=⟨X.aD,gy X.ef s.n,X.now⟩) ⟨h,cls,rs,M,B,C,E,H,I.iz o⟩ q.ef r _ K L λP n=>⟨(l P n).2,λa=>by have:=d P a;have:=l P n;omega⟩) λv w' N=>qM N (cu.after g o) u (m.get (f.get z id) λa=>by have:=d _ a.1;omega) rfl oM λa=>by have:=d _ a;omega⟩
def KO(n:cD w0 w p F c X)(m:gB k X)(o:k<=1000)(C:s.Ok):
  am 30 #[L2 p,mf s] w (Ok (ji w0 w p F c (k+1) (jC c X (dQ X.ef s.n)))):=by
 have g:=n.aE;have q:=n.env.gr.size;refine mL (PA.mk λw1 r E t=>PA.mk λw2 a H u=>λx y=>?_);have b:ai w2 x:=y.keep;have P:=(r.then a).then b;have I:=P.size;have J:=a.size;obtain⟨h,cls,rs,i,-⟩:=n.af P;refine⟨p,0,rfl,_,ae i.cell rfl,_,ae (b.get (a.get t id) id) rfl,PC.ok (yt i.Ww) ?_⟩;rintro _ K ⟨⟨L,M,N,O,Q,R,G,rfl,z,A,j⟩,d⟩;refine cx (Es _ _ _ _ _ _ _) ⟨_,rfl,PC.ok (Er (n.af (P.then d)) m o _ z A λe l=>⟨(j e l).2,λf=>by have:=g e f;have:=j e l;omega⟩) λv w' B=>qM B (cu.of (P.then d)) q (d.get (b.get u id) id) rfl oM λf=>by have:=g _ f;omega⟩
def QN(u:cD w0 w p F c X)(B:gB k X)(C:s.Ok):
  am 31 #[L2 p,mf s] w (Ok (ji w0 w p F c k (bL (if(dQ X.ef s.n).isSome then 0 else 14),⟨X.aD,gy X.ef s.n,X.now⟩))):=by
 have i:=u.aE;have E:=u.env.gr.size;refine oD (PA.mk λw1 O s1 Q=>PA.mk λw2 x s2 R=>λe S=>?_);have m:ai w2 e:=S.keep;have j:=(O.then x).then m;have z3:=j.size;have z2:=x.size;have b0:=m.size;obtain⟨h,cls,rs,o,T,U,V,W,Y⟩:=u.af j;have Z:=m.get (x.get Q id) id;have H:=m.get R id;have I:=o.self;have l:∀{b:World} (n:Bool),cV b F cls p h X.now c rs (gy X.ef s.n)->cu F e F b->b.heap[w1.heap.size]? =some (.cells (fQ (bL 0) none 0 0 none 0 0 none 0 0).toArray 53 (0,0))->al (!n) (PC WP 35 #[ZT 14] b (λa4 a5=>sh (dm WP 53) λJ=>a4=J/\ni WP 53 (L2 w1.heap.size) J a5 λK=>js WP 53 (L2 w1.heap.size) K λa6=>Ok (ji w0 w p F c k (bL (if n then 0 else 14),⟨X.aD,gy X.ef s.n,X.now⟩)) (.returned a6) K) (λch a0=>Ok (ji w0 w p F c k (bL (if n then 0 else 14),⟨X.aD,gy X.ef s.n,X.now⟩)) (.panicked ch) a0))
   (ni WP 53 (L2 w1.heap.size) (.agg #[ZT 0,ZT 0,ZT 0,ZT 0,.slice none 0 0,.slice none 0 0,.slice none 0 0,.bool false]) b λL=>js WP 53 (L2 w1.heap.size) L λa7=>Ok (ji w0 w p F c k (bL (if n then 0 else 14),⟨X.aD,gy X.ef s.n,X.now⟩)) (.returned a7) L):=λ{b} n y z q=>by
  have M:cD w0 b p F c ⟨X.aD,gy X.ef s.n,X.now⟩:=⟨h,cls,rs,y,T,U,V,W,Y.iz z⟩
  cases n with
  |false=>exact al.tt rfl (PC.ok (iq M B.ef) λv w' hq=>qM hq (cu.after j z) E q rfl oM λP=>by have:=i _ P;omega)
  |true=>exact al.ff rfl (Gj M B.ef (cu.after j z) E q rfl oM λP=>by have:=i _ P;omega)
 have r:∀n,w.heap.size<=n->¬(F n/\cls n=1):=λn a P=>by have:=i _ P.1;omega
 have a8:=i p I.1;refine⟨λn=>(F n/\cls n=1)\/e.heap.size<=n,p,0,rfl,λP=>P.elim (λh=>by have:=h.2;have:=I.2;omega) (λh=>Nat.lt_irrefl _ (Qk a8 (Xx j.size h))),_,ae o.cell rfl,λP=>P.elim (r _ oM) (λh=>by have h:e.heap.size<=w.heap.size:=h;omega),_,ae Z rfl,PC.ok (o.take C.n) ?_,PA.mk λt d s4 g4=>⟨ai.keep d,PC.ok (cV.take (cV.af o d) C.n) ?_⟩⟩
 ·rintro _ t ⟨⟨va,vn,vc,ea,en,ec,G,rfl,-⟩,a9,d⟩
  have z4:=d.size;refine cx (Es _ _ _ _ _ _ _) ⟨_,rfl,d.mono λn _ a=>.inl a,PA.mk λb f s5 q=>⟨ai.keep f,aC (eS _ _ _ _ _ _ _) q rfl λN g s6 g6=>⟨g.mono λn a P=>.inr (by have P:n=t.heap.size:=P;omega),?_⟩⟩⟩;have A:ai t N:=f.new g λn a=>.inr (by have a:n=t.heap.size:=a;omega);exact l (dQ X.ef s.n).isSome (cV.af a9 A) ⟨(d.mono λn _ a=>a.1).then (ai.keep A),λn a=>.inl a⟩ (A.get (d.get H (r _ oM)) id)
 ·rintro _ b ⟨⟨va,vn,vc,ea,en,ec,G,rfl,-⟩,y,f⟩
  have z5:=f.size;refine cx (Es _ _ _ _ _ _ _) ⟨_,rfl,f.mono λn _ a=>.inl a,aC (eS _ _ _ _ _ _ _) (f.get g4 (r _ oM)) rfl λN g s6 g6=>⟨g.mono λn a P=>.inr (by have P:n=e.heap.size:=P;omega),?_⟩⟩;refine l (dQ X.ef s.n).isSome (bb.keep y fA g λn a P=>by have P:n=e.heap.size:=P;have:=i _ a;omega) ⟨?_,λn a=>.inl a⟩ (g.get (f.get (d.get H id) (r _ oM)) λP=>by have P:w1.heap.size=e.heap.size:=P;omega);exact((ai.keep d).then (f.mono λn _ a=>a.1)).new g λn P=>.inr (by have P:n=e.heap.size:=P;omega)
end
section
variable {w w' w0 w1 w2 wb:World} {p i k g:Nat} {F F1 F' G G' T D:LL} {cls cls':Nat->Nat} {h:KH} {c:bS} {X:et} {s:fP} {x:iB} {v:Value} {r:iB×et} {now:Int} {rs:List (Nat×bk)} {ef:List bZ} {y:Nat×bk} {R R':bk} {aD:List bk}
def QO(c:bS)(n:Int)(X:bk)(P now:Int):(fk c n X P now).1.length<=1:=by
 unfold fk;split<;>simp
def KP(j:cD w0 w p F c X)(b:fJ X.aD i=some R):∃h cls rs y,cV w F cls p h X.now c rs X.ef/\h.ps=rs.map (·.1)/\X.aD=rs.map (·.2)/\rs.length=c.aD.toNat/\jU c 0/\Env w0 w F/\rs[i]? =some y/\y.2=R/\(∃n d,h.a=some ⟨n,d,none⟩/\i<h.n/\w.cell? ⟨n,d+i,none⟩=some (L2 y.1)/\F n/\cls n=0)/\R∈X.aD:=by
 obtain⟨h,cls,rs,e,f,P,k,g,l⟩:=j;obtain⟨m,o,q⟩:=g.aD;rw[xf,P,Q9]at b;obtain⟨y,a,rfl⟩:=Option.map_eq_some_iff.1 b;exact⟨h,cls,rs,y,e,f,P,k,g,l,a,rfl,e.ptr f a oM,by rw[P];exact Xk.2 ⟨y,QZ a,rfl⟩⟩
def QP(b:cD w0 w p F c X)(t:gB k X)(Q:s.Ok)(u:fJ X.aD s.n=some R):
  am 33 #[L2 p,mf s] w (Ok (ji w0 w p F c (k+1) (if(fJ X.aD s.m).isNone\/s.m=s.n then(bL 1,X)else(bL 0,X.put s.n (fk c s.n R s.m X.now).2 (fk c s.n R s.m X.now).1)))):=by
 have S:=b.aE;have C:=b.env.gr.size;refine oE (PA.mk λw1 T s1 U=>PA.mk λw2 E s2 H=>?_);have d:=T.then E;have z2:=d.size;have x:∀n,w.heap.size<=n->¬F n:=λn f a=>by have:=S _ a;omega
 have g:=E.get U id;have no:∀{r},r=(bL 1,X)->PC WP 35 #[ZT 1] w2 (λv w'=>sh (dm WP 53) λy=>v=y/\ni WP 53 (L2 w1.heap.size) y w' λw2=>js WP 53 (L2 w1.heap.size) w2 λV=>Ok (ji w0 w p F c (k+1) r) (.returned V) w2) (λW w'=>Ok (ji w0 w p F c (k+1) r) (.panicked W) w'):=λa=>by
  rw[a];exact PC.ok (iq (b.af d) t.mono) λv w' Y=>qM Y (cu.of d) C H rfl oM (x _ oM)
 refine⟨_,ae g rfl,PC.ok (si (b.af d)) ?_⟩;rintro _ _ ⟨rfl,rfl⟩;refine⟨_,rfl,al.mk (λe=>no (Zx (.inl (by simpa using e)))) (λe=>⟨_,ae g rfl,_,ae g rfl,al.eL (λz=>no (Zx (.inr z))) (λz=>?_)⟩)⟩;rw[Zq (by
         rintro(i|i);·simp at e;rw[Option.isNone_iff_eq_none]at i;rw[i]at e;simp at e
         ·exact z i)]
 intro Z d3;have j:ai w2 Z:=d3.keep;have A:=d.then j;have z3:=A.size;have b3:=j.size;have I:=j.get g id;obtain⟨B,l,-⟩:=gU u;rw[l]at u⊢;obtain⟨h,cls,rs,y,P,a4,hX,a0,a5,he,m,rfl,⟨n,a1,a6,b4,a2,b5⟩,a3⟩:=KP (b.af A) u;have hr:=cV.rep P m;have np:=xd P m P.self;have a7:=P.self;refine⟨λn=>F n/\cls n≠0,p,0,rfl,λa=>a.2 a7.2,_,ae P.cell rfl,p,0,rfl,_,_,_,ae P.cell rfl,_,ae I rfl,n,a1,a6,by rw[l];omega,by rw[l];omega,_,by rw[l,Qx];exact a2,_,ae I rfl,p,0,rfl,_,ae P.cell rfl,PC.ok (Gm hr Q.m) ?_⟩;rintro _ w4 ⟨G',o,J,K⟩;have L:=KQ c B y.2 s.m X.now;have a8:=QO c B y.2 s.m X.now;generalize fk c B y.2 s.m X.now=dl at o J L a8;obtain⟨M,N,O,a9,Do,rfl,o⟩:=o;refine⟨M,N,O,rfl,K.keep.mono λn _ f=>⟨f.1,oM⟩,PC.ok (A_ P m J K ⟨M,N,O,a9,Do,rfl,o⟩ oM) ?_⟩;rintro _ w5 ⟨b0,F5,b6,rfl,b1,q,b2⟩;exact⟨b0,rfl,b2.mono λn _ f=>⟨f.1,oM⟩,Gj (cD.KM b1 m a4 hX a0 a5 (he.iz q)) (t.put ((t.aD _ a3).Ij L)) (cu.after A q) C (q.keep.get (j.get H id) (x _ oM)) rfl oM λa=>(q.new _ a).elim (x _ oM) λh=>oM⟩
def Tu(N:cD w0 w p F c X)(J:gB k X)(hk:k<=1000)(O:s.Ok)(K:fJ X.aD s.n=some R):
  am 34 #[L2 p,mf s] w (Ok (ji w0 w p F c (k+1) ((jD c s.n R s).1,⟨X.aD.set s.n.toNat (jD c s.n R s).2,X.ef,X.now⟩))):=by
 have Q:=N.aE;have S:=N.env.gr.size;obtain⟨n,z,-⟩:=gU K;rw[z]at K⊢;refine pW (PA.mk λw1 k1 s1 g1=>PA.mk λw2 k2 s2 g2=>λe d3=>?_);have T:ai w2 e:=d3.keep;have a3:=(k1.then k2).then T;have z3:=a3.size;have z2:=k2.size;have b9:=T.size;have a4:=T.get (k2.get g1 id) id;obtain⟨h,cls,rs,y,a5,a6,hX,a1,a7,b3,U,V,⟨P,b4,b5,c0,b6,b7⟩,b1⟩:=KP (N.af a3) K;have c1:=Q p a5.self.1;have c2:=Q P b7.1;have n1:¬e.heap.size<=p:=oM
 have n2:¬e.heap.size<=w.heap.size:=oM
 have n3:¬e.heap.size<=P:=oM
 refine⟨λP=>e.heap.size<=P,p,0,rfl,n1,_,_,_,ae a5.cell rfl,n2,_,ae a4 rfl,P,b4,b5,by rw[z];omega,by rw[z];omega,n3,_,by rw[z,Qx];exact b6,n2,?_⟩;refine MX (es:=iM s.cmd) (yu s.cmd) a4 (λn z=>by rcases n with _|_|_|_|_|_|_|n<;>first|rfl|exact Zz z (by simp[iM])) (PA.mk λw4 k4 s4 g4=>⟨ai.keep k4,aC (yu s.cmd) g4 rfl λi k5 s5 A=>⟨k5.mono λP _ a=>by have a:P=e.heap.size:=a;omega,?_⟩⟩);have B:ai e i:=k4.new k5 λP W=>.inr (by have W:P=e.heap.size:=W;omega);have a9:=a3.then B;have z5:=a9.size;have c3:=B.size;have L:=B.get a4 id;have Y:=B.get (T.get g2 id) id;have C:¬F w1.heap.size:=λa=>by have:=Q _ a;omega
 have Z:cu F w F i:=cu.of a9;have hp:=cV.af a5 B;have E:=b3.af B;rw[<-V];rw[<-V]at b1;have j:=cV.rep hp U;have a0:=J.aD _ b1;have hl:=a0.evs;have a2:∀{x:iB} {R':bk} {v:Value} {w':World} {G':LL},jD c n y.2 s=(x,R')->fR i x v w'->x.st.cells=[]/\x.KK=[]/\x.rows=[]->bV w' y.1 G' c n R'->cu (λP=>F P/\cls P=n+2) i G' w'->jV y.2 R'->sh (dm WP 53) λb=>v=b/\ni WP 53 (L2 w1.heap.size) b w' λw2=>js WP 53 (L2 w1.heap.size) w2 λb=>Ok (ji w0 w p F c (k+1) ((jD c n y.2 s).1,⟨X.aD.set (n:Int).toNat (jD c n y.2 s).2,X.ef,X.now⟩)) (.returned b) w2:=λ{x R' v w' G'} a d ⟨e1,e2,e3⟩ l b0 hg=>by
  rw[a];exact qM (ji.rep hp a6 hX a1 a7 E U d e1 e2 e3 l b0 J (a0.Ij hg)) Z S Y rfl oM C
 have b2:∀{no:Int} {R':bk} {w':World} {G':LL},jD c n y.2 s=(bL no,R')->bV w' y.1 G' c n R'->cu (λP=>F P/\cls P=n+2) i G' w'->jV y.2 R'->PC WP 35 #[ZT no] w' (λv w'=>sh (dm WP 53) λb=>v=b/\ni WP 53 (L2 w1.heap.size) b w' λw2=>js WP 53 (L2 w1.heap.size) w2 λb=>Ok (ji w0 w p F c (k+1) ((jD c n y.2 s).1,⟨X.aD.set (n:Int).toNat (jD c n y.2 s).2,X.ef,X.now⟩)) (.returned b) w2) (λch w'=>Ok (ji w0 w p F c (k+1) ((jD c n y.2 s).1,⟨X.aD.set (n:Int).toNat (jD c n y.2 s).2,X.ef,X.now⟩)) (.panicked ch) w'):=λ{no R' w' G'} a l b0 hg=>by
  obtain⟨F',-,m,o,q⟩:=ji.rep (x:=bL no) (v:=.agg (fQ (bL no) none 0 0 none 0 0 none 0 0).toArray) hp a6 hX a1 a7 E U (fR.plain rfl rfl rfl) rfl rfl rfl l b0 J (a0.Ij hg);rw[a];exact PC.ok (iq m o) λv w2 hq=>qM hq (Z.trans q) S (q.keep.get Y C) rfl oM λa=>(q.new _ a).elim C λh=>by omega
 have a8:∀{x:iB} {v:Value} {w':World},jD c n y.2 s=(x,y.2)->fR i x v w'->ai i w'->sh (dm WP 53) λb=>v=b/\ni WP 53 (L2 w1.heap.size) b w' λw2=>js WP 53 (L2 w1.heap.size) w2 λb=>Ok (ji w0 w p F c (k+1) ((jD c n y.2 s).1,⟨X.aD.set (n:Int).toNat (jD c n y.2 s).2,X.ef,X.now⟩)) (.returned b) w2:=λ{x v w'} a d f=>by
  rw[a];refine qM ⟨F,.new d λP W=>by have:=Q P W;omega,?_,?_,cu.of f⟩ Z S Y rfl oM C
  ·show cD w0 w' p F c ⟨X.aD.set (n:Int).toNat y.2,X.ef,X.now⟩
   rw[V,MY K];exact N.af (a9.then f)
  ·show gB (k+1) ⟨X.aD.set (n:Int).toNat y.2,X.ef,X.now⟩
   rw[V,MY K];exact J.mono
 refine⟨_,ae L rfl,al.eL (λg=>?_) (λg=>?_)⟩
 ·refine au (yu s.cmd) A (PC.ok (Im j E.part O.cmd oM) ?_)
  rintro _ H ⟨G',d,r,t⟩;exact a2 (by unfold jD;rw[Zx g]) d (by split<;>exact⟨rfl,rfl,rfl⟩) r t (KR c n y.2 s.cmd)
 refine al.eL (λu=>?_) (λu=>?_)
 ·refine⟨_,ae L rfl,PC.ok (Oh j E.part O.m) ?_⟩
  rintro _ H ⟨G',rfl,r,t,b8⟩;exact⟨_,rfl,b2 (by unfold jD;rw[Zq g,Zx u]) r t ⟨.inr b8,by unfold gV;rw[yv];exact Qj _⟩⟩
 refine al.eL (λI=>?_) (λI=>?_)
 ·refine PC.ok (Io j E.part oM) ?_
  rintro _ H ⟨G',rfl,r,t⟩;exact⟨_,rfl,b2 (by unfold jD;rw[Zq g,Zq u,Zx I]) r t (Ds c y.2)⟩
 refine al.eL (λM=>?_) (λM=>?_)
 ·refine⟨_,ae A rfl,_,ae A rfl,_,ae L rfl,PC.ok (KS j O.m) ?_⟩
  rintro _ H ⟨d,f⟩;exact a8 (by unfold jD;rw[Zq g,Zq u,Zq I,Zx M]) d f
 refine al.eL (λh4=>?_) (λh4=>?_)
 ·refine⟨_,ae A rfl,_,ae A rfl,PC.ok (Tv j) ?_⟩
  rintro _ H ⟨d,f⟩;exact a8 (by unfold jD;rw[Zq g,Zq u,Zq I,Zq M,Zx h4]) d f
 refine al.eL (λh5=>?_) (λh5=>?_)
 ·refine⟨_,ae A rfl,_,ae L rfl,PC.ok (Oi j) ?_⟩
  rintro _ H ⟨d,f⟩;exact a8 (by unfold jD;rw[Zq g,Zq u,Zq I,Zq M,Zq h4,Zx h5]) d f
 ·refine⟨_,ae L rfl,PC.ok (QR j O.m) ?_⟩
  rintro _ H ⟨G',rfl,r,t⟩;have a:jD c n y.2 s=(bL 0,{y.2 with D:=y.2.D.Gn s.m}):=by unfold jD;rw[Zq g,Zq u,Zq I,Zq M,Zq h4,Zq h5]
  obtain⟨F',-,m,o,q⟩:=ji.rep (x:=bL 0) (v:=.agg (fQ (bL 0) none 0 0 none 0 0 none 0 0).toArray) hp a6 hX a1 a7 E U (fR.plain rfl rfl rfl) rfl rfl rfl r t J (a0.Ij ⟨.inl (by dsimp only;omega),by dsimp only;omega⟩);rw[a];exact⟨rfl,Gj m o (Z.trans q) S (q.keep.get Y C) rfl oM λa=>(q.new _ a).elim C λh=>oM⟩
def QS(q:cD w0 w p F c X)(r:gB k X)(hk:k<=999):
  am 32 #[L2 p,mf s] w (Ok (ji w0 w p F c (k+1) (bL 0,Ip X))):=by
 have a6:=q.aE;have b7:=q.env.gr.size;refine oF (PA.mk λw1 k1 s1 g1=>PA.mk λw2 k2 s2 g2=>?_);have t:=k1.then k2;have z2:=t.size;obtain⟨h,cls,rs,j,C,u,c6,E,H⟩:=q.af t;obtain⟨a4,a7,a8⟩:=E.aD;have I:∀P,w.heap.size<=P->¬F P:=λP f d=>by have:=a6 _ d;omega
 have c8:=r.Og;have c9:=r.now;have b8:ZU .i64 (X.now+1)=X.now+1:=wrap_i64 (by unfold aM;omega);have d0:=j.self;refine⟨p,0,rfl,_,ae j.cell rfl,p,0,rfl,PS.mk j.cell sM λw3 k3 s3 J=>?_⟩;rw[b8]at J;obtain⟨l,K⟩:=cV.Yo (now':=X.now+1) j k3 (by rw[J];rfl);have c7:=l.nh;have hn:=cV.n l C;refine⟨p,0,rfl,_,_,_,ae l.cell rfl,λL a0 w'=>∃(n:Nat) (F1:LL) (m:Nat->Nat) (a:List (Nat×bk)) (g:List bZ),a0=n/\n<=h.n/\L=h.n-n/\cV w' F1 m p h (X.now+1) c a g/\h.ps=a.map (·.1)/\a.length=rs.length/\
  (List.range n).foldl mg ⟨X.aD,X.ef,X.now+1⟩=⟨a.map (·.2),g,X.now+1⟩/\cu F w3 F1 w'/\gB (k+1) ⟨a.map (·.2),g,X.now+1⟩,
  ⟨_,0,F,cls,rs,X.ef,rfl,Qj _,rfl,l,C,rfl,by rw[u];rfl,cu.refl _ _,?_⟩,?_⟩
 ·rw[<-u];exact⟨λR hR=>(r.aD R hR).mono,by show 0<=X.now+1;omega,by show X.now+1<=_;omega⟩
 rintro L _ _ w4 ⟨n,F1,m,a,g,rfl,hj,rfl,v,x,b9,M,N,z⟩;have z3:=K.keep.size;have i:=K.trans N;have c1:∀P,w.heap.size<=P->P<w2.heap.size->¬F1 P:=λP f d1 d=>(i.new P d).elim (I P f) λh=>by omega
 refine al.dec (λd2=>?_) (λd3=>?_)
 ·have b:a[n]? =some a[n]:=Qq oM
  generalize a[n]=y at b;obtain⟨P,a1,c2,d4,a5,d6⟩:=cV.ptr v x b oM;refine⟨P,a1,c2,oM,oM,_,by rw[Qx];exact a5,λO d5=>?_⟩;have A:ai w4 O:=d5.keep;have e:=cV.af v A;have hr:=cV.rep e b;have d7:Env w0 O F1:=(H.iz i).af A;have np:=xd e b e.self;have c3:=e.self;have b1:y.2∈a.map (·.2):=Xk.2 ⟨y,QZ b,rfl⟩;have B:=z.aD _ b1;refine⟨λP=>F1 P/\m P≠0,p,0,rfl,λd=>d.2 c3.2,_,ae e.cell rfl,p,0,rfl,_,ae e.cell rfl,PC.ok (QT hr (by have:=B.asked;omega)) ?_⟩;rintro _ w6 ⟨G',o,Q,S⟩;have T:=B.tick n (X.now+1);have b4:(pH n y.2 (X.now+1)).1.length<=1001:=by unfold pH;dsimp only;rw[Q8];have:=MZ y.2.gC (X.now+1);have:=B.asked;omega
  have U:(List.range (n+1)).foldl mg ⟨X.aD,X.ef,X.now+1⟩=(⟨a.map (·.2),g,X.now+1⟩:et).put n (pH n y.2 (X.now+1)).2 (pH n y.2 (X.now+1)).1:=by
   rw[List.range_succ,List.foldl_append,M];show mg _ n=_;unfold mg;dsimp only;rw[Q9,b];rfl
  generalize pH n y.2 (X.now+1)=V at o Q T b4 U;obtain⟨W,Y,Z,a2,Do,rfl,o⟩:=o;refine⟨W,Y,Z,rfl,S.keep.mono λP _ f=>⟨f.1,oM⟩,PC.ok (A_ e b Q S ⟨W,Y,Z,a2,Do,rfl,o⟩ oM) ?_⟩;rintro _ w7 ⟨a3,F7,b5,rfl,c4,b6,c5⟩;refine⟨a3,rfl,c5.mono λP _ f=>⟨f.1,oM⟩,_,oM,n+1,F7,b5,_,_,an oM,oM,rfl,c4,by rw[x];exact(mI (f:=(·.1)) (b:=(y.1,V.2)) b rfl).symm,by rw[List.length_set];exact b9,?_,N.trans (cu.after A b6),?_⟩
  ·rw[U,List.map_set];rfl
  ·have:=z.stay (j:=n) (ms:=V.1) T
   unfold et.put at this;dsimp only at this;rw[Qx]at this;rw[List.map_set];exact this
 ·have d:Ip X=⟨a.map (·.2),g,X.now+1⟩:=by
   unfold Ip;rw[<-M,u,Q8,show rs.length=n by omega]
  rw[d];exact Gj ⟨h,m,a,v,x,rfl,oM,E,H.iz i⟩ z (cu.after t i) b7 (i.keep.get g2 (I _ oM)) rfl oM (c1 _ oM oM)
def KT(n:cD w0 w p F c X)(b:∀R∈X.aD,R.S.l.length<=20000000):am 18 #[L2 p,ZT e] w (Ok λv w'=>(fJ X.aD e=none/\v= .slice none 0 0/\w=w')\/∃R,fJ X.aD e=some R/\qD kq 63 w R.S.l v w'):=by
 refine mM (PC.ok (si n) ?_);rintro _ _ ⟨rfl,rfl⟩;refine⟨_,rfl,?_⟩
 cases P:fJ X.aD e with
 |none=>exact al.tt rfl (Ok.mk (.inl ⟨rfl,rfl,rfl⟩))
 |some R=>
  obtain⟨q,rfl,-⟩:=gU P;obtain⟨h,cls,rs,y,a,r,s,t,u,x,d,rfl,⟨f,g,i,z,j,A⟩,k⟩:=KP n P;refine al.ff rfl ⟨p,0,rfl,_,_,_,ae a.cell rfl,f,g,i,oM,oM,_,by rw[Qx];exact j,PC.ok (KU (cV.rep a d) (b _ k)) ?_⟩;rintro _ B ⟨l,e,m,G,rfl,o⟩;exact⟨_,_,_,rfl,Ok.mk (.inr ⟨_,rfl,l,e,m,G,rfl,o⟩)⟩
def Bd(P:cD w0 w p F c X):am 12 #[L2 p] w (Ok λv w'=>v= ZT (X.ef.length:Int)/\w=w'):=by
 obtain⟨h,cls,rs,n,-⟩:=P;refine mN ⟨p,0,rfl,_,ae n.cell rfl,PC.ok (KV n.Ww) ?_⟩;rintro _ _ ⟨rfl,rfl⟩;exact⟨_,rfl,Ok.mk ⟨rfl,rfl⟩⟩
def Tw(n:cD w0 w p F c X):am 11 #[L2 p] w (Ok λv w'=>v= ZT X.now/\w=w'):=by
 obtain⟨h,cls,rs,P,-⟩:=n;exact pX ⟨p,0,rfl,_,ae P.cell rfl,Ok.mk ⟨rfl,rfl⟩⟩
end
def mh:mE WP 84 3 54 .nilFunc:=⟨kR,kR⟩
abbrev KW(n:Int):Nat:=if n=3 then 29 else if n=5 then 30 else if n=4 then 31 else 32
abbrev zt(n:Int):Nat:=if n=2 then 33 else 34
abbrev bound(n P:Nat):Value:=.func (.func n) #[L2 P] #[]
abbrev WL(n:Nat):List (Int×Value):=[(3,bound (KW 3) n),(5,bound (KW 5) n),(4,bound (KW 4) n),(6,bound (KW 6) n)]
abbrev UR(n:Nat):List (Int×Value):=[(2,bound (zt 2) n),(1,bound (zt 1) n),(7,bound (zt 7) n),(8,bound (zt 8) n),(9,bound (zt 9) n),(10,bound (zt 10) n),(11,bound (zt 11) n),(12,bound (zt 12) n)]
def QU(a:Nat)(n:Int):ar (WL a) n=if n=3\/n=5\/n=4\/n=6 then some (bound (KW n) a)else none:=by
 by_cases P:n=3\/n=5\/n=4\/n=6
 ·rw[Zx P];rcases P with rfl|rfl|rfl|rfl<;>rfl
 ·rw[Zq P];exact jE.2 (by simp;omega)
def Oj(P:Nat)(n:Int):ar (UR P) n=if n=2\/n=1\/7<=n/\n<=12 then some (bound (zt n) P)else none:=by
 by_cases a:n=2\/n=1\/7<=n/\n<=12
 ·rw[Zx a]
  have:n=2\/n=1\/n=7\/n=8\/n=9\/n=10\/n=11\/n=12:=oM
  rcases this with rfl|rfl|rfl|rfl|rfl|rfl|rfl|rfl<;>rfl
 ·rw[Zq a];exact jE.2 (by simp;omega)
def Zt(n:Int):enters WP (KW n)=true:=by unfold KW;split;rfl;split;rfl;split<;>rfl
def Zi(n:Int):enters WP (zt n)=true:=by unfold zt;split<;>rfl
section
variable {w w' w0 w1 w2 wb:World} {p i k g:Nat} {F F1 F' G G' T D:LL} {c:bS} {X:et} {s:fP} {R:bk}
def Gp(r:cD w0 w p F c X)(g:gB k X)(hk:k<=999)(i:s.Ok):
  am 13 #[L2 p,mf s] w (Ok (ji w0 w p F c (k+1) (cM c X s))):=by
 have b2:=r.aE;have b3:=r.env.gr.size;refine qN (PA.mk λw1 k1 s1 g1=>PA.mk λw2 t s2 g2=>PA.mk λw3 k3 s3 C=>?_);have m:∀{w:World} b,b=w2.heap.size->False\/w2.heap.size<=b:=λb n=>.inr (Nat.le_of_eq n.symm);refine dz (k:=(3:Int)) mh ly (bR.new C) λw4 E H s4=>dz (k:=(5:Int)) mh ly E λw5 I J s5=>dz (k:=(4:Int)) mh ly I λw6 K L s6=>dz (k:=(6:Int)) mh ly K λu M N s7=>PA.mk λw8 k8 s8 O=>?_;have b4:ai w2 u:=(((k3.new H λb d=>.inr oM).new J λb d=>.inr oM).new L λb d=>.inr oM).new N λb d=>.inr oM;refine dz (k:=(2:Int)) mh ly (bR.new O) λw9 Q S s9=>dz (k:=(1:Int)) mh ly Q λb8 T U b9=>dz (k:=(7:Int)) mh ly T λc0 V W c1=>dz (k:=(8:Int)) mh ly V λc2 Y Z c3=>dz (k:=(9:Int)) mh ly Y λc4 a1 a2 c5=>dz (k:=(10:Int)) mh ly a1 λc6 a3 a4 c7=>dz (k:=(11:Int)) mh ly a3 λc8 a5 a6 c9=>dz (k:=(12:Int)) mh ly a5 λo a7 a8 d0=>?_;have a0:ai u o:=(((((((k8.new S λb d=>.inr oM).new U λb d=>.inr oM).new W λb d=>.inr oM).new Z λb d=>.inr oM).new a2 λb d=>.inr oM).new a4 λb d=>.inr oM).new a6 λb d=>.inr oM).new a8 λb d=>.inr oM;have mA:bR o w2.heap.size (Value.int .i64) (WL p):=M.af a0;have mO:bR o u.heap.size (Value.int .i64) (UR p):=a7;have v:=b4.then a0;have a9:=(k1.then t).then v;have j:=v.get (t.get g1 id) id;have b5:=v.get g2 id;have f:=r.af a9;have z2:=t.size;have b6:¬F w1.heap.size:=λn=>by have:=b2 _ n;omega
 have P:∀{b0:iB×et} {e:Value} {w':World},ji w0 o p F c (k+1) b0 e w'->sh (dm WP 53) λb1=>e=b1/\ni WP 53 (L2 w1.heap.size) b1 w' λw2=>js WP 53 (L2 w1.heap.size) w2 λb7=>Ok (ji w0 w p F c (k+1) b0) (.returned b7) w2:=λa=>qM a (cu.of a9) b3 b5 rfl oM b6
 clear E I K M Q T V Y a1 a3 a5 a7 H J L N S U W Z a2 a4 a6 a8 C O
 refine⟨_,ae j rfl,jA mh ly mA ?_⟩;rw[QU]
 by_cases x:s.kind=3\/s.kind=5\/s.kind=4\/s.kind=6
 ·rw[Zx x]
  refine⟨_,_,rfl,al.tt rfl (au (KG s) j ⟨_,_,_,rfl,Zt _,?_⟩)⟩;rcases x with h|h|h|h
  ·rw[h]
   have n:cM c X s=jC c ⟨X.aD,gy X.ef s.n,X.now⟩ (dQ X.ef s.n):=by unfold cM;rw[Zx h]
   rw[n];exact PC.ok (Il f g oM i) λe w' a=>P a
  ·rw[h]
   have n:cM c X s=jC c X (dQ X.ef s.n):=by unfold cM;rw[Zq oM,Zx h]
   rw[n];exact PC.ok (KO f g oM i) λe w' a=>P a
  ·rw[h]
   have n:cM c X s=(bL (if(dQ X.ef s.n).isSome then 0 else 14),⟨X.aD,gy X.ef s.n,X.now⟩):=by unfold cM;rw[Zq oM,Zq oM,Zx h]
   rw[n];exact PC.ok (QN f g.mono i) λe w' a=>P a
  ·rw[h]
   have n:cM c X s=(bL 0,Ip X):=by unfold cM;rw[Zq oM,Zq oM,Zq oM,Zx h]
   rw[n];exact PC.ok (QS f g hk) λe w' a=>P a
 rw[Zq x];refine⟨_,_,rfl,al.ff rfl ⟨_,ae j rfl,jA mh ly mO ?_⟩⟩;rw[Oj]
 by_cases hO:s.kind=2\/s.kind=1\/7<=s.kind/\s.kind<=12
 ·rw[Zx hO]
  refine⟨_,_,rfl,al.ff rfl ⟨_,ae j rfl,PC.ok (si f) ?_⟩⟩;rintro _ _ ⟨rfl,rfl⟩;refine⟨_,rfl,?_⟩;have e0:¬s.kind=3/\¬s.kind=5/\¬s.kind=4/\¬s.kind=6/\¬(s.kind<1\/12<s.kind):=oM
  obtain⟨y,z,m,A,B⟩:=e0
  cases l:fJ X.aD s.n with
  |none=>
   have n:cM c X s=(bL 1,X):=by unfold cM;rw[Zq y,Zq z,Zq m,Zq A,Zq B,l]
   rw[n];exact al.tt rfl (PC.ok (iq f g.mono) λe w' a=>P a)
  |some R=>
   refine al.ff rfl (au (KG s) j ⟨_,_,_,rfl,Zi _,?_⟩)
   by_cases q:s.kind=2
   ·have n:cM c X s=(if(fJ X.aD s.m).isNone\/s.m=s.n then(bL 1,X)else(bL 0,X.put s.n (fk c s.n R s.m X.now).2 (fk c s.n R s.m X.now).1)):=by unfold cM;rw[Zq y,Zq z,Zq m,Zq A,Zq B,l];exact Zx q
    rw[n,q];exact PC.ok (QP f g i l) λe w' a=>P a
   ·have n:cM c X s=((jD c s.n R s).1,⟨X.aD.set s.n.toNat (jD c s.n R s).2,X.ef,X.now⟩):=by unfold cM;rw[Zq y,Zq z,Zq m,Zq A,Zq B,l];exact Zq q
    rw[n];have:zt s.kind=34:=Zq q
    rw[this];exact PC.ok (Tu f g oM i l) λe w' a=>P a
 ·rw[Zq hO]
  have n:cM c X s=(bL 2,X):=by unfold cM;rw[Zq oM,Zq oM,Zq oM,Zq oM,Zx oM]
  rw[n];exact⟨_,_,rfl,al.tt rfl (PC.ok (iq f g.mono) λe w' a=>P a)⟩
end
section
variable {w w' w0 w1 w2 wb:World} {p q i k g:Nat} {F F1 F' G G' T D:LL} {cls:Nat->Nat} {h:KH} {c:bS} {X:et} {s:fP} {R:bk} {now:Int} {rs:List (Nat×bk)} {ef:List bZ}
def cV.more(i:cV w F cls p h now c rs ef)(j:ai w w')(e:bV w' q G' c rs.length R)(l:∀d,G' d->w.heap.size<=d):
  ∃F' a,cV w' F' a p h now c (rs++[(q,R)]) ef/\cu F w F' w':=by
 obtain⟨m,b,o,r,-⟩:=bb.iz i fA (k:=rs.length+2) (G':=G') (C2:=jr (Gi p h now) (λw G=>eh w h.q G ef) c (rs++[(q,R)])) ⟨ai.keep j,λd s=>.inr (l d s)⟩ e.aE (λf n=>by
  rw[X8 (Q4 _),Nat.sub_self]at n
  injection n with n;subst n;exact e) λt G g P=>by
  match t,g,P with
  |0,_,P=>exact P
  |1,_,P=>exact P
  |k+2,g,P=>
   intro f n;refine P f ?_;rcases Nat.lt_trichotomy k rs.length with h|h|h
   ·rwa [XW h]at n
   ·omega
   ·rw[Q7 (by simp;omega)]at n;cases n
 exact⟨m,b,o,r⟩
def Q_(w0 w:World)(c:bS)(n:Value)(w':World):Prop:=ai w w'/\
 (((Be c).1≠0/\n= .tuple #[.pointer none,ZT (Be c).1])\/
  ((Be c).1=0/\∃p F,n= .tuple #[L2 p,ZT 0]/\cD w0 w' p F c (Be c).2/\(∀P,F P->w.heap.size<=P)/\gB 0 (Be c).2))
def M_(V:fr w0)(W:Laid w0)(C:ai w0 w){tn X E Y:Nat}(hd:bt w D c.decl d tn v E)(hD:∀n,D n->n<w.heap.size)(hs:aM c.bh)(a9:aM c.every)(b0:aM c.start):
  am 9 #[xg c d tn X v E Y] w (Ok (Q_ w0 w c)):=by
 refine Dt (PA.mk λw1 Z s1 g1=>PC.ok KX ?_);rintro _ w2 ⟨q,Fq,rfl,H,b1,x⟩;have z2:=x.size;refine⟨_,rfl,PA.mk λw3 l s3 g3=>?_⟩;have c4:=(Z.then x).then l;have z3:=l.size;have z0:=C.size;have b2:=l.get (x.get g1 id) id;obtain⟨j,hB⟩:∃j:Nat,(if(if(64:Int)<c.aD then 64 else c.aD)>1 then(if(64:Int)<c.aD then 64 else c.aD)else 1)=(j:Int):=⟨(if(if(64:Int)<c.aD then 64 else c.aD)>1 then(if(64:Int)<c.aD then 64 else c.aD)else 1).toNat,by repeat' split<;>omega⟩
 have c5:(j:Int)=max 1 (min c.aD 64):=by rw[<-hB];repeat' split<;>omega
 obtain⟨m,I⟩:=bb.join (w:=w3) (C:=jr (Gi w2.heap.size ⟨q,none,0,0,[]⟩ 0) (λw G=>eh w q G []) c []) (G:=λa n=>match a with|0=>n=w2.heap.size|1=>Fq n|_=>False)
  (λa=>by
   match a with
   |0=>exact⟨rfl,g3,(aV.nil w3).mono (λn P=>P.elim) (λn P=>(by cases P)),λn P=>(by cases P)⟩
   |1=>exact H.af l
   |a+2=>exact λc6 J=>by simp at J)
  (λi a n b g=>by
   have hq:=H.aE n
   match i,a,b,g with
   |0,0,_,_=>rfl
   |1,1,_,_=>rfl
   |0,1,b,g=>have b:n=w2.heap.size:=b;have:=hq g;omega
   |1,0,b,g=>have g:n=w2.heap.size:=g;have:=hq b;omega)
  (λa n P=>by
   match a,P with
   |0,P=>have P:n=w2.heap.size:=P;omega
   |1,P=>have:=H.aE n P;omega)
 refine⟨_,ae b2 rfl,λa0 b3 w'=>∃(a:Nat) (h:KH) (F:LL) (cls:Nat->Nat) (rs:List (Nat×bk)),b3=a/\a<=j/\a0=j-a/\(a=0\/(cz c 0).1=0/\(cz c 0).2.S.l.length<=16777216)/\cV w' F cls w2.heap.size h 0 c rs []/\h.ps=rs.map (·.1)/\rs.length=a/\rs.map (·.2)=List.replicate a (cz c 0).2/\(∀n,F n->w1.heap.size<=n)/\ai w1 w',
  ⟨_,0,⟨q,none,0,0,[]⟩,_,m,[],rfl,Qj _,rfl,.inl rfl,I,rfl,rfl,rfl,λn ⟨a,P⟩=>?_,x.then l⟩,?_⟩
 ·match a,P with
  |0,P=>have P:n=w2.heap.size:=P;omega
  |1,P=>exact b1 n P
 rintro a0 _ _ w4 ⟨a,h,F,cls,rs,rfl,g,rfl,b4,K,o,a1,a2,y,z⟩;have k:=Z.then z;have b5:=z.get g1 id;rw[hB];refine al.dec (λb6=>?_) (λc7=>?_)
 ·have b6:a<j:=oM
  obtain⟨L,e2⟩:=Ol (c:=c) (i:=(a:Int)) oM oM;refine au (Iq c d tn X v E Y) b5 (PC.ok (Tx (self:=(a:Int)) V W (C.then k) (hd.af k) (λn P=>by have:=hD n P;have:=k.size;omega) hs a9 b0) ?_);rintro v5 M ⟨N,⟨a3,rfl⟩|⟨p,A,G',rfl,hA,hG,a4⟩⟩
  ·refine⟨_,_,rfl,al.eM (λ_=>Ok.mk ⟨k.then N,.inl ⟨?_,?_⟩⟩) (λh=>Zz h a3)⟩
   ·show(cz c 0).1≠0
    rw[<-L];exact a3
   ·show _=Value.tuple #[.pointer none,ZT (cz c 0).1]
    rw[<-L]
  refine⟨_,_,rfl,al.eM (λh=>Zz rfl h) (λ_=>?_)⟩;rw[L]at p;rw[e2]at hA a4;have z4:=z.size;obtain⟨F2,a5,a6,b7⟩:=cV.more (R:=(cz c 0).2) K N (by rw[a1];exact hA) hG;have b8:Gi w2.heap.size h 0 M (λn=>F2 n/\a5 n=0):=a6.at' 0;obtain⟨c1,O,c3,B⟩:=b8;have hn:=c3.len dC;rw[o,Q8]at hn;refine⟨_,0,rfl,_,_,_,ae O rfl,NV (x:=A) (D:=λ_=>False) c3 Yn ⟨rfl,trivial⟩ (λn P=>P.elim) (by rw[o,Q8];unfold aT;omega) (by rw[o,Q8];unfold maxLen;omega) λr e w7 F7 Q S c8 b9=>⟨_,_,_,rfl,_,0,rfl,PS.mk (S.get O λf=>(B _ f).2 rfl) sM λw8 k8 s8 g8=>?_⟩⟩;have z5:=N.size;have z7:=S.size;have c9:=aA O;have T:∀n,aG r=some n->(aG h.a=some n\/M.heap.size<=n)/\n<w7.heap.size:=λn P=>⟨b9 n P,Q.aE n (Q.self n P)⟩
  have a7:∀n,aG r=some n->n≠w2.heap.size:=λn P f=>by rcases(T n P).1 with h|h;exact(B n h).2 f;omega
  have kk:aj (λn=>F2 n/\a5 n=0) M w8:=(S.mono λn _ P=>(B n P).1).then (k8.mono λn _ P=>by have P:n=w2.heap.size:=P;rw[P];exact c1);obtain⟨F8,s,U,t,-⟩:=bb.iz a6 fA (k:=0) (G':=λn=>n=w2.heap.size\/aG r=some n) (C2:=jr (Gi w2.heap.size ⟨h.q,r,h.n+1,e,h.ps++[A]⟩ 0) (λw G=>eh w h.q G []) c (rs++[(A,(cz c 0).2)]))
   ⟨kk,λn P=>P.elim (λf=>.inl (f▸c1)) λP=>(T n P).1.imp (λh=>(B n h).1) id⟩ (λn P=>P.elim (λf=>oM) λP=>by have:=(T n P).2;omega)
   ⟨.inl rfl,g8,Q.alone.keep k8 λn P f=>a7 n P f,λn P=>⟨.inr P,a7 n P⟩⟩ λi G b u=>by
    match i,b,u with
    |1,_,u=>exact u
    |i+2,_,u=>exact u
  have a8:=b7.trans t;refine⟨_,oM,a+1,⟨h.q,r,h.n+1,e,h.ps++[A]⟩,F8,s,_,an oM,oM,rfl,.inr ⟨p,a4⟩,U,by rw[o,Q3];rfl,by rw[QX,a1];rfl,by rw[Q3,a2,List.replicate_succ'];rfl,λn P=>(a8.new n P).elim (y n) λh=>oM,z.new a8.keep λn P=>.inr (y n P)⟩
 ·have c0:a≠0:=oM
  obtain⟨p,d0⟩:=b4.resolve_left c0;obtain⟨r1,r2,-,-⟩:=Ir p;have c2:a=c.aD.toNat:=oM
  have J:rs[0]? =some rs[0]:=Qq oM;refine Ok.mk ⟨k,.inr ⟨p,_,F,rfl,⟨h,cls,rs,K,o,?_,oM,(cV.rep K J).ok,⟨V,W,C.then k,λn P=>by have:=y n P;omega⟩⟩,λn P=>by have:=y n P;omega,⟨λR hR=>?_,Int.le_refl 0,Int.le_refl 0⟩⟩⟩
  ·rw[a2,c2];rfl
  ·have:=(List.mem_replicate.1 hR).2
   subst this;exact⟨oM,by rw[KY];exact Qj _⟩
end
def BF:gA:=⟨[],[],[],[],[]⟩
def BG(y:PC_ 24 #[.ii 2] b (kX_ 27 λz A=>PC_ 9 #[z] A (λB j=>∃P k,B= .tuple #[.pointer P,.ii k]/\al (k !=0) (rt s ((.bool false)) j) (PR_ (eq_ .eql 33 (.tmp 18) (.const (.pointer none)) (.pointer P) (.pointer none)) j (kB λC l=>al C (rt s ((.bool false)) l) (PC_ 25 #[.ii 0,.ii 3] l (λD E=>∃m o p q r t u,D= .agg #[.ii m,.ii o,.ii p,.ii q,.ii r,.ii t,.ii u]/\PC_ 13 #[.pointer P,.agg #[.ii 1,.ii 0,.ii 0,.ii m,.ii o,.ii p,.ii q,.ii r,.ii t,.ii u]] E (kX_ 53 λF a=>PA a (.cells #[.ii 0,.ii 0,.ii 0,.ii 0,.slice none 0 0,.slice none 0 0,.slice none 0 0,.bool false] 53) λG=>St 53 (ab_ a 0) F G λH=>PC_ 13 #[.pointer P,.agg #[.ii 2,.ii 1,.ii 0,.ii 0,.ii 0,.ii 0,.ii 0,.ii 0,.ii 0,.ii 0]] H (kX_ 53 λI d=>PA d (.cells #[.ii 0,.ii 0,.ii 0,.ii 0,.slice none 0 0,.slice none 0 0,.slice none 0 0,.bool false] 53) λJ=>St 53 (ab_ d 0) I J λK=>PC_ 13 #[.pointer P,.agg #[.ii 3,.ii 0,.ii 0,.ii 0,.ii 0,.ii 0,.ii 0,.ii 0,.ii 0,.ii 0]] K (kX_ 53 λL e=>PA e (.cells #[.ii 0,.ii 0,.ii 0,.ii 0,.slice none 0 0,.slice none 0 0,.slice none 0 0,.bool false] 53) λM=>St 53 (ab_ e 0) L M λN=>PC_ 13 #[.pointer P,.agg #[.ii 3,.ii 0,.ii 0,.ii 0,.ii 0,.ii 0,.ii 0,.ii 0,.ii 0,.ii 0]] N (kX_ 53 λO f=>PA f (.cells #[.ii 0,.ii 0,.ii 0,.ii 0,.slice none 0 0,.slice none 0 0,.slice none 0 0,.bool false] 53) λQ=>St 53 (ab_ f 0) O Q λR=>PC_ 13 #[.pointer P,.agg #[.ii 10,.ii 1,.ii 0,.ii 0,.ii 0,.ii 0,.ii 0,.ii 0,.ii 0,.ii 0]] R (kX_ 53 λS c=>PA c (.cells #[.ii 0,.ii 0,.ii 0,.ii 0,.slice none 0 0,.slice none 0 0,.slice none 0 0,.bool false] 53) λT=>St 53 (ab_ c 0) S T λU=>PC_ 13 #[.pointer P,.agg #[.ii 3,.ii 9,.ii 0,.ii 0,.ii 0,.ii 0,.ii 0,.ii 0,.ii 0,.ii 0]] U (kX_ 53 λV g=>PA g (.cells #[.ii 0,.ii 0,.ii 0,.ii 0,.slice none 0 0,.slice none 0 0,.slice none 0 0,.bool false] 53) λW=>St 53 (ab_ g 0) V W λX=>PC_ 13 #[.pointer P,.agg #[.ii 2,.ii 1,.ii 1,.ii 0,.ii 0,.ii 0,.ii 0,.ii 0,.ii 0,.ii 0]] X (kX_ 53 λY h=>PA h (.cells #[.ii 0,.ii 0,.ii 0,.ii 0,.slice none 0 0,.slice none 0 0,.slice none 0 0,.bool false] 53) λZ=>St 53 (ab_ h 0) Y Z λa1=>PC_ 13 #[.pointer P,.agg #[.ii 6,.ii 0,.ii 0,.ii 0,.ii 0,.ii 0,.ii 0,.ii 0,.ii 0,.ii 0]] a1 (kX_ 53 λb8 i=>(∃v w,i.cell? (ab_ a (0+1))=some (.ii v)/\i.cell? (ab_ a (0+1+1))=some (.ii w)/\PR_ (eq_ .eql 46 (.tmp 47) (.tmp 48) (.agg #[.ii v,.ii w]) (.agg #[.ii 0,.ii 1])) i (kB λa2 n=>al a2 ((rI n (ab_ a 0) λa3=>al (a3==0) ((rI n (ab_ d 0) λa4=>al (a4==0) ((rI n (ab_ e 0) λa5=>al (a5==0) ((rI n (ab_ f 0) λa6=>al (a6==0) ((rS n (ab_ c (0+3+1)) λb9 a7 c0=>al ((a7:Int)==6) ((rS n (ab_ c (0+3+1)) λa8 a9 c1=>(ix_ a8 0 a9 λb0 b1=>(rI n (ad b0 (b1+Int.toNat 0*2)) λb2=>al (b2==3) ((rI n (ab_ g 0) λb3=>al (b3==14) ((rI n (ab_ h 0) λb4=>al (b4==1) (PC_ 11 #[.pointer P] n (kI_ λb5 x=>al (b5==1) (PC_ 12 #[.pointer P] x (kI_ λb6 b7=>rt s ((.bool (b6==1))) b7) (pE s)) (rt s ((.bool false)) x)) (pE s)) (rt s ((.bool false)) n))) (rt s ((.bool false)) n))) (rt s ((.bool false)) n))))) (rt s ((.bool false)) n))) (rt s ((.bool false)) n))) (rt s ((.bool false)) n))) (rt s ((.bool false)) n))) (rt s ((.bool false)) n))) (rt s ((.bool false)) n)) (pV s))) (pE s)) (pE s)) (pE s)) (pE s)) (pE s)) (pE s)) (pE s)) (pE s)) (pE s))) (pV s))) (pE s)) (pE s)):am 8 #[] b s:=DC BF Tryz.func8 rfl y
def kZ:kY:=⟨0,0,0,0,0,0,0⟩
def wT:Bool:=
 let n:=gE 2
 let P:=cM n (Be n).2 ⟨1,0,0,⟨0,0,0,1,3,-1,0⟩⟩
 let b:=cM n P.2 ⟨2,1,0,kZ⟩
 let c:=cM n b.2 ⟨3,0,0,kZ⟩
 let d:=cM n c.2 ⟨3,0,0,kZ⟩
 let a:=cM n d.2 ⟨10,1,0,kZ⟩
 let e:=cM n a.2 ⟨3,9,0,kZ⟩
 let f:=cM n e.2 ⟨2,1,1,kZ⟩
 let g:=cM n f.2 ⟨6,0,0,kZ⟩
 (Be n).1==0&&(P.1.id.1==(0:Int)&&(P.1.id.2==(1:Int)&&(P.1.code==0&&(b.1.code==0&&(c.1.code==0&&(d.1.code==0&&(a.1.st.cells.length==6&&((a.1.st.cells.getD 0 ⟨0,[]⟩).n==3&&(e.1.code==14&&(f.1.code==1&&(g.2.now==1&&g.2.ef.length==1)))))))))))
def Ta:wT=true:=by decide+kernel
def PX:∃(h:et) (n a b c P d e f:iB×et),Be (gE 2)=(0,h)/\cM (gE 2) h ⟨1,0,0,⟨0,0,0,1,3,-1,0⟩⟩=n/\cM (gE 2) n.2 ⟨2,1,0,kZ⟩=a/\cM (gE 2) a.2 ⟨3,0,0,kZ⟩=b/\cM (gE 2) b.2 ⟨3,0,0,kZ⟩=c/\cM (gE 2) c.2 ⟨10,1,0,kZ⟩=P/\cM (gE 2) P.2 ⟨3,9,0,kZ⟩=d/\cM (gE 2) d.2 ⟨2,1,1,kZ⟩=e/\cM (gE 2) e.2 ⟨6,0,0,kZ⟩=f/\
  n.1.id.1=0/\n.1.id.2=1/\n.1.code=0/\a.1.code=0/\b.1.code=0/\c.1.code=0/\P.1.st.cells.length=6/\(P.1.st.cells.getD 0 ⟨0,[]⟩).n=3/\d.1.code=14/\e.1.code=1/\f.2.now=1/\f.2.ef.length=1:=by
 have g:=Ta;unfold wT at g;simp only[QK,beq_iff_eq]at g;obtain⟨i,j⟩:=g;exact⟨_,_,_,_,_,_,_,_,_,Prod.ext i rfl,rfl,rfl,rfl,rfl,rfl,rfl,rfl,rfl,j⟩
section
variable {w w' w0 w1 w2 wb:World} {p i k g:Nat} {F F1 F' G G' T D:LL} {c:bS} {X:et} {s:fP} {x:iB} {v:Value}
def FM(w:World)(g:Nat)(F:LL)(x:iB):Prop:=∃(P:ac) (a b:Nat) (c:ac) (d e:Nat) (f:ac) (h i:Nat) (G:LL),w.heap[g]? =some (.cells (fQ x P a b c d e f h i).toArray 53 (0,0))/\Row gw 32 w G P a x.st.cells/\(∀n,G n->n<w.heap.size/\¬F n)/\¬F g
def FM.iz(c:FM w g F x)(P:cu F w F' w'):FM w' g F' x:=by
 obtain⟨h,i,j,k,l,m,o,p,q,G,e,r,b,f⟩:=c;have s:=P.keep.size;have t:=aA e;exact⟨h,i,j,k,l,m,o,p,q,G,P.keep.get e f,r.keep P.keep λn a=>(b n a).2,λn a=>⟨by have:=(b n a).1;omega,λd=>(P.new n d).elim (b n a).2 λc=>by have:=(b n a).1;omega⟩,λd=>(P.new g d).elim f λc=>oM⟩
def FM.get(n:FM w g F x):∃cs:Array Value,w.heap[g]? =some (.cells cs 53 (0,0))/\cs[0]? =some (ZT x.code)/\cs[1]? =some (ZT x.id.1)/\cs[2]? =some (ZT x.id.2):=by
 obtain⟨a,b,c,d,e,f,h,i,j,G,P,k,l,m⟩:=n;exact⟨_,P,rfl,rfl,rfl⟩
def uS(A:cD w0 w p F c X)(E:gB k X)(H:k<=999)(I:s.Ok)(f:∀n b F',w.heap.size<=n.heap.size->cD w0 b p F' c (cM c X s).2->gB (k+1) (cM c X s).2->cu F w F' b->FM b n.heap.size F' (cM c X s).1->h7 n b):
  PC WP 13 #[L2 p,mf s] w (λv n=>sh (dm WP 53) λx=>v=x/\PA n (.cells #[ZT 0,ZT 0,ZT 0,ZT 0,.slice none 0 0,.slice none 0 0,.slice none 0 0,.bool false] 53) λw2=>ni WP 53 (L2 n.heap.size) x w2 λb=>h7 n b) a7:=by
 have N:=A.env.gr.size;refine PC.ok (Gp A E H I) ?_;rintro _ n ⟨F',⟨g,h,i,j,l,m,o,q,r,G,rfl,J,O,Q,t⟩,e,u,B⟩;have C:=e.aE;have K:=B.keep.size;refine cx (MW _ g h i j l m o q r) ⟨rfl,PA.mk λw2 y R L=>aC (iK _ g h i j l m o q r) L rfl λb z S M=>f n b F' K ?_ u ?_ ?_⟩
 ·exact(e.af y).keep z (λa d P=>by have P:a=n.heap.size:=P;have:=C a d;omega) λa P=>by have P:a=n.heap.size:=P;omega
 ·exact(B.af y).last z λa P=>by have P:a=n.heap.size:=P;omega
 ·exact⟨g,h,i,j,l,m,o,q,r,G,M,(J.af y).keep z λa d P=>by have P:a=n.heap.size:=P;have:=(t a d).2.1;omega,λa d=>⟨by have:=(t a d).2.1;omega,(t a d).2.2⟩,λP=>by have:=C _ P;omega⟩
def jW(n:(decide (-1000000<=e)&&decide (e<=1000000)&&(decide (-1000000<=l)&&decide (l<=1000000))&&(decide (-1000000<=E)&&decide (E<=1000000)))=true):fP.Ok ⟨e,l,E,kZ⟩:=by
 simp only[QK,Zk]at n;exact⟨by show aM e;unfold aM;omega,by show aM l;unfold aM;omega,by show aM E;unfold aM;omega,i10 rfl,i10 rfl,i10 rfl,i10 rfl,i10 rfl,i10 rfl⟩
def PY{n arg:Int}:am 25 #[ZT n,ZT arg] w (Ok λv w'=>v=xh ⟨0,n,0,1,arg,-1,0⟩/\ai w w'):=
 IG (PA.mk λw1 a f b=>aC (yu ⟨0,n,0,1,arg,-1,0⟩) b rfl λw2 c g d=>au (yu ⟨0,n,0,1,arg,-1,0⟩) d (Ok.mk ⟨rfl,a.new c λe P=>.inr (by have P:e=w.heap.size:=P;omega)⟩))
set_option maxHeartbeats 2000000 in
def Is(Y:fr w0)(Z:Laid w0)(h0:ai w0 w):am 8 #[] w (Ok λv w'=>v= .bool true/\ai w w'):=by
 obtain⟨X,a0,f,a1,a2,g,a3,s,a4,e0,e1,e2,e3,e4,e5,e6,e7,e8,q1,q2,q3,q4,q5,q6,q7,q8,q9,a6,a7,a8⟩:=PX;refine BG (PC.ok Kl ?_);rintro _ w2 ⟨ta,tn,tc,pa,pn,pc,G2,rfl,a9,b0,r⟩;refine cx (Xe (gE 2) ta tn tc pa pn pc) ⟨rfl,PC.ok (M_ (c:=gE 2) Y Z (h0.then r) a9 (λf l=>(b0 f l).2) (i10 rfl) (i10 rfl) (i10 rfl)) ?_⟩;rintro v5 w5 t;unfold Q_ at t;rw[e0]at t;obtain⟨k5,⟨b1,-⟩|⟨-,p,F,rfl,z,hF,A⟩⟩:=t
 ·exact Zz rfl b1
 dsimp only at z A;generalize gE 2=c2 at*;have b2:=r.then k5;have b3:∀f,F f->w.heap.size<=f:=λf l=>by have:=hF f l;have:=r.size;omega
 refine⟨_,_,rfl,al.eM (λa=>Zz rfl a) (λ_=>gT Tryz.underlying33 ⟨_,rfl,al.ff rfl (PC.ok PY ?_)⟩)⟩;rintro _ w7 ⟨rfl,B⟩;refine⟨_,_,_,_,_,_,_,rfl,?_⟩;have b4:=b2.then B;refine uS (k:=0) (s:=⟨1,0,0,⟨0,0,0,1,3,-1,0⟩⟩) (z.af B) A oM ⟨i10 rfl,i10 rfl,i10 rfl,i10 rfl,i10 rfl,i10 rfl,i10 rfl,i10 rfl,i10 rfl⟩ λwa w8 Fa za C E c b=>?_;rw[e1]at C E b;refine uS (s:=⟨2,1,0,kZ⟩) C E oM (jW rfl) λwb w9 Fb zb H I J d=>?_;rw[e2]at H I d;have b:=b.iz J;have c:=c.trans J;refine uS (s:=⟨3,0,0,kZ⟩) H I oM (jW rfl) λwd c8 Fd zd K L u P=>?_;rw[e3]at K L P;have b:=b.iz u;have d:=d.iz u;have c:=c.trans u;refine uS (s:=⟨3,0,0,kZ⟩) K L oM (jW rfl) λwf c9 Ff zf M N q n=>?_;rw[e4]at M N n;have b:=b.iz q;have d:=d.iz q;have P:=P.iz q;have c:=c.trans q;refine uS (s:=⟨10,1,0,kZ⟩) M N oM (jW rfl) λwg d0 Fg zg O Q m h=>?_;rw[e5]at O Q h;have b:=b.iz m;have d:=d.iz m;have P:=P.iz m;have n:=n.iz m;have c:=c.trans m;refine uS (s:=⟨3,9,0,kZ⟩) O Q oM (jW rfl) λwn d1 Fn zn R S k e=>?_;rw[e6]at R S e;have b:=b.iz k;have d:=d.iz k;have P:=P.iz k;have n:=n.iz k;have h:=h.iz k;have c:=c.trans k;refine uS (s:=⟨2,1,1,kZ⟩) R S oM (jW rfl) λws d2 Fs zs T U j is=>?_;rw[e7]at T U is;have b:=b.iz j;have d:=d.iz j;have P:=P.iz j;have n:=n.iz j;have h:=h.iz j;have e:=e.iz j;have c:=c.trans j;refine PC.ok (Gp (s:=⟨6,0,0,kZ⟩) T U oM (jW rfl)) ?_;rintro _ b5 ⟨Ft,⟨sa,sn,sc,ea,en,ec,ra,rn,rc,-,rfl,-⟩,x,b6,i⟩;rw[e8]at x b6;have b:=b.iz i;have d:=d.iz i;have P:=P.iz i;have n:=n.iz i;have h:=h.iz i;have e:=e.iz i;have is:=is.iz i;have c:=c.trans i;refine cx (MW _ sa sn sc ea en ec ra rn rc) ⟨rfl,?_⟩;obtain⟨za,y,b7,b8,c1⟩:=b.get;obtain⟨zb,yb,c3,-⟩:=d.get;obtain⟨zd,yd,c4,-⟩:=P.get;obtain⟨zf,yf,c5,-⟩:=n.get;obtain⟨zn,yn,c6,-⟩:=e.get;obtain⟨zs,ys,c7,-⟩:=is.get;obtain⟨d3,d4,d5,d6,Zi,d7,d8,d9,e9,Gg,V,W,-,-⟩:=h;have f2:=W.len;obtain⟨b9,o9,f3,f4,f6,rfl,f8,-,a5,-⟩:=nn (i:=0) W oM;have o:ai w b5:=b4.new c.keep λf l=>.inr (b3 f l);refine⟨_,_,ae y b8,ae y c1,aJ.mk VU ⟨_,rfl,al.tt (by rw[q1,q2];rfl) ⟨_,ae y b7,al.eL (λ_=>⟨_,ae yb c3,al.eL (λ_=>⟨_,ae yd c4,al.eL (λ_=>⟨_,ae yf c5,al.eL (λ_=>⟨_,_,_,ae V rfl,al.eL (λ_=>⟨_,_,_,ae V rfl,b9,o9,rfl,oM,oM,_,a5,al.eL (λ_=>⟨_,ae yn c6,al.eL (λ_=>⟨_,ae ys c7,al.eL (λ_=>?_) (λa=>Zz a6 a)⟩) (λa=>Zz q9 a)⟩) (λa=>Zz q8 a)⟩) (λa=>Zz oM a)⟩) (λa=>Zz q6 a)⟩) (λa=>Zz q5 a)⟩) (λa=>Zz q4 a)⟩) (λa=>Zz q3 a)⟩⟩⟩;refine PC.ok (Tw x) ?_;rintro _ _ ⟨rfl,rfl⟩;refine⟨_,rfl,al.eL (λ_=>PC.ok (Bd x) ?_) (λa=>Zz a7 a)⟩;rintro _ _ ⟨rfl,rfl⟩;refine⟨_,rfl,Ok.mk ⟨?_,o⟩⟩;rw[a8];rfl
end
def ll(n:bS)(P:ac)(tn a:Nat)(b:ac)(c d:Nat)(e:ac)(f g:Nat):List Value:=eT n P tn a b c d++[.slice e f g]
abbrev Na(n:bS)(P:ac)(tn a:Nat)(b:ac)(c d:Nat)(e:ac)(f g:Nat):Value:=.agg (ll n P tn a b c d e f g).toArray
def VD(n:bS)(P:ac)(tn a:Nat)(b:ac)(c d:Nat)(e:ac)(f g:Nat):iH WP 30 (ll n P tn a b c d e f g)=true:=kR
def Nb:kr fP:=flat 10 nG fP.Ok (λ_=>rfl) (λP a n=>by simp[nG,iM]at n;rcases n with rfl|rfl|rfl|rfl|rfl|rfl|rfl|rfl|rfl|rfl<;>rfl)
section
variable {w w' w0 w1 w2 wb:World} {p q i k g:Nat} {F F1 F' G G' T D E:LL} {c:bS} {X Y:et} {s:fP} {x:iB} {v:Value} {ta pa la:ac} {tn tc pn pc ln lc:Nat} {l:List fP}
def KZ(f:bt w D c.decl ta tn pa pn)(g:Row Nb 80 w E la ln l):
  am 7 #[Na c ta tn tc pa pn pc la ln lc] w (Ok λv w'=>(∃P:Bool,v= .bool P/\(P=false->l.length<=300))/\ai w w'):=by
 have h:=g.len;refine Gq (PA.mk λw1 d i a=>⟨_,_,_,_,_,_,ae a rfl,ae a rfl,PC.ok (K_ (f.af d)) ?_⟩);rintro _ w2 ⟨⟨P,rfl⟩,e⟩;have n:=d.then e;have b:=e.get a id;exact⟨_,rfl,al.mk (λ_=>Ok.mk ⟨⟨_,rfl,sM⟩,n⟩) (λ_=>⟨_,_,_,ae b rfl,al.dec (λ_=>Ok.mk ⟨⟨_,rfl,sM⟩,n⟩) (λj=>⟨_,ae b rfl,al.dec (λ_=>⟨_,ae b rfl,Ok.mk ⟨⟨_,rfl,λ_=>oM⟩,n⟩⟩) (λ_=>Ok.mk ⟨⟨_,rfl,λ_=>oM⟩,n⟩)⟩)⟩)⟩
def Ra(a:fr w0)(b:Laid w0)(n:ai w0 w):PC WP 8 #[] w (λv w2=>∃P:Bool,v= .bool P/\Ok (λv w'=>v= .bool true/\ai w0 w') (.returned (.bool P)) w2) a7:=by
 refine PC.ok (Is a b n) ?_;rintro _ w' ⟨rfl,k⟩;exact⟨_,rfl,Ok.mk ⟨rfl,n.then k⟩⟩
def Tz(P:w.heap[g]? =some (.cells (ll c ta tn tc pa pn pc la ln lc).toArray 30 (0,0)))(a:N (xg c ta tn tc pa pn pc)):js WP 27 (L2 g) w N:=
 MX (es:=eT c ta tn tc pa pn pc) (Iq c ta tn tc pa pn pc) P (λn b=>by rcases n with _|_|_|_|_|_|_|_|_|_|n<;>first|rfl|exact Zz b (by simp[eT])) a
def WM(P:fR w1 x v w)(a:N v):sh (dm WP 53) λn=>v=n/\N n:=by
 obtain⟨b,c,d,e,f,g,h,i,j,G,rfl,-⟩:=P;exact cx (MW x b c d e f g h i j) ⟨rfl,a⟩
end
def aw.Ue(n:O∈B.l):O∈(B.add m).2.l:=by
 rcases B.eR m with⟨-,P⟩|⟨a,-⟩
 ·rw[P];exact n
 ·rw[a];exact(cN m B.l).mem_iff.2 (QJ _ n)
def aw.vX:∀(P:List ah) {S:aw} {n:ah},n∈S.l->n∈(S.ez P).l
 |[],S,n,a=>a
 |e::P,S,n,a=>aw.vX P (S:=(S.add e).2) (aw.Ue a)
def aw.xV:∀(a:List ah) {S:aw} {P:ah},P∈(S.ez a).l->P∈S.l\/P∈a
 |[],S,P,b=>.inl b
 |e::a,S,P,b=>by
  rcases aw.xV a (S:=(S.add e).2) b with n|n
  ·rcases S.eR e with⟨-,c⟩|⟨c,-⟩
   ·rw[c]at n;exact .inl n
   ·rw[c]at n
    rcases Q2.1 ((cN e S.l).mem_iff.1 n)with d|d
    ·exact .inr (d▸QV ..)
    ·exact .inl d
  ·exact .inr (QJ _ n)
section
variable {D E:ak} {A:pT} {no:Int} {l x:List ah} {k d:Nat} {V:dw} {c:bS} {X:bk} {ref:Bool} {Q:ah->Prop}
def vY(P:D.dead=true)(n:ak->Int×ak):D.op n=(15,D.gone):=by
 unfold ak.op ak.dies;rw[P];rfl
def I_(n:D.dead=true):Go.Proofs.YtjgjkeponbeekaaGreatDoor.bz V D=(15,V,D.gone):=by
 unfold bz;have:D.create (cF (ax V.next))=(15,D.gone):=vY n _;dsimp only;rw[this,Zx sM]
def Ce(n:D.dead=true):aK V D=(15,V,D.gone):=by
 unfold aK;split
 ·exact I_ n
 ·have:D.sync V.last=(15,D.gone):=vY n _
  dsimp only;rw[this,Zx sM]
def Ja(n:D.dead=true)(x:List ah):(aF V D x).2.2.files=D.files/\(aF V D x).2.2.dead=true/\(x≠[]->(aF V D x).1≠0):=by
 unfold aF;split
 ·exact⟨rfl,n,λ_=>sM⟩
 split
 ·rename_i a;exact⟨rfl,n,λb=>Zz a b⟩
 dsimp only
 by_cases P:V.size<=V.bytes
 ·rw[Zx P,Ce n,Zx sM]
  exact⟨rfl,rfl,λ_=>sM⟩
 ·rw[Zq P,Zq sM]
  have:D.append V.last (az x)=(15,D.gone):=vY n _;rw[this,Zx sM];exact⟨rfl,rfl,λ_=>sM⟩
def GY(n:D.dead=true){size:Int}:(aQ V D x size).no≠0/\(aQ V D x size).D.files=D.files/\(aQ V D x size).D.dead=true:=by
 unfold aQ;split
 ·rename_i P;exact⟨P,rfl,n⟩
 have:bD V.next (bJ x).1 D=(15,D.gone):=by
  unfold bD;have:D.create (cF (ax V.next))=(15,D.gone):=vY n _;dsimp only;rw[this,Zx sM]
 rw[this,Zx sM];exact⟨sM,rfl,rfl⟩
def OY(b:ar D.files y=some ⟨w,a,J⟩)(n:(D.sync y).1≠0):(D.sync y).1=15/\(D.sync y).2=D.gone:=by
 unfold ak.sync at n⊢;rcases BN D (ak.BO y λD P=>(0,D.fC y (P.cut P.bytes.length)))with e|e
 ·rw[e];exact⟨rfl,rfl⟩
 ·rw[e]at n
  unfold ak.BO at n;rw[eA,b]at n;exact Zz rfl n
def cK.RV(g:cK D A no l k)(b:HE V A no l)(i:∀n∈x,n.Ok/\n.aN.length<=64){size:Int}:
  ((aQ V D x size).no≠0/\cK (aQ V D x size).D A no l k)\/
  (cK (aQ V D x size).D [] V.next x x.length/\((aQ V D x size).no=0/\HE (aQ V D x size).V [] V.next x/\(aQ V D x size).V.size=size\/(aQ V D x size).no≠0/\(aQ V D x size).D.dead=true)):=by
 have r:bJ x=(az x,0):=by
  unfold bJ;rw[Zq];intro s;obtain⟨n,t,j⟩:=List.any_eq_true.1 s;have:=(i n t).2;unfold eN at j;simp at j;omega
 unfold aQ;rw[r,Zq sM];rcases g.bD b i with⟨c,m⟩|⟨c,m,h⟩
 ·dsimp only
  rw[Zx c];exact .inl ⟨c,m⟩
 dsimp only;rw[Zq (by simpa using c)];generalize(Go.Proofs.YtjgjkeponbeekaaGreatDoor.bD V.next (az x) D).2=o at h;have u:=g.ne_next b;obtain⟨v,p⟩:=Bk V.a_ h.tidy;have P:cK (jG V.a_ o) [] V.next x x.length:=by
  refine h.same v (λd e=>?_) (p _ λd e n=>?_)
  ·obtain rfl:d=V.next:=by simpa[cW]using e
   exact p _ λw q n=>u w (by rw[b.a_]at q;exact q) n.symm
  ·rw[b.a_]at e
   exact(fv (n:=d) (.inr (by have:=g.Aj d e;omega))).1 n.symm
 generalize jG V.a_ o=a at P
 cases f:a.dead with
 |false=>
  have y:V.next<ir a:=by
   obtain⟨F,z,-⟩:=P.last;have:=P.t_;exact Jb oM (by rw[z];rfl)
  have:=sq a.list;rw[Lg P f];exact .inr ⟨P,.inl ⟨rfl,⟨rfl,rfl,y,this.2⟩,rfl⟩⟩
 |true=>
  obtain⟨B,C⟩:=Ow (size:=size) f;refine .inr ⟨P.files C,.inr ⟨by rw[B];simp,?_⟩⟩;have E:told a=[]:=by
   have:a.read bX=([],15):=by unfold ak.read;rw[f];rfl
   unfold told dA;rw[this];rfl
  unfold aR;rw[E];unfold cO f_;rw[Zq sM,Zx (show(dN a size).a_=[]from rfl),show aK _ _=_ from Ce f]
  rfl
def Jc(P:cK D A no l k)(n:Int):b_ (dq (D.ei n))/\Tidy (dq (D.ei n)).files/\(∀a∈cW A++[no],ar (dq (D.ei n)).files (ay a)=ar (D.ei n).files (ay a))/\ar (dq (D.ei n)).files bX=ar (D.ei n).files bX:=by
 have g:=IQ D n;have j:=LF P.tidy n;have m:∀x∈cW A++[no],aM x:=λx p=>by have:=P.Aj x p;unfold aM;omega
 have q:(cW A++[no]).length<=64:=by have:=P.many;simpa[cW]using this
 have r:dA (D.ei n)=some (cW A++[no]):=by
  unfold dA;rw[g.read (uH P.tidy n P.Wx),Zq sM,show(dR (bP (cW A++[no]))).bytes=bP (cW A++[no])from rfl,oL m q]
 have o:∀c∈Gs (D.ei n),(∀a∈cW A++[no],ay a≠c)/\bX≠c:=λc d=>by
  have b:=(List.mem_filter.1 d).2;unfold jF at b;rw[r]at b;refine⟨λa h e=>?_,λe=>?_⟩
  ·have m:=P.Aj a h
   subst e;rw[xW oM,Xv (fv (n:=a) (.inr oM)).2]at b;simp only[Option.getD_some,Zy h]at b;simp at b
  ·subst e
   rw[Xv KF,Ro]at b;simp at b
 have f:∀(i:List ByteArray) {D:ak},Tidy D.files->Tidy (KE D i).files:=by
  intro i
  induction i with
  |nil=>intro D P;exact P
  |cons c i s=>
   intro D P;refine s (D:=(D.delete c).2) ?_;rcases jB D c with e|e
   ·rw[e];exact P
   ·rw[e];exact P.bN _
 refine⟨AW _ g,f _ j,λa h=>?_,?_⟩
 ·unfold dq
  rw[AX _ g j,Zq λd=>(o _ d).1 a h rfl]
 ·unfold dq
  rw[AX _ g j,Zq λd=>(o _ d).2 rfl]
def L_{size keep:Int}(n:cK D A no l k):∃P,k<=P/\P<=l.length/\(aR (dq (D.ei keep)) size).no=0/\(aR (dq (D.ei keep)) size).out=cd A (l.take P)/\HE (aR (dq (D.ei keep)) size).V A no (l.take P)/\(aR (dq (D.ei keep)) size).V.size=size/\
  cK (aR (dq (D.ei keep)) size).D A no (l.take P) P/\b_ (aR (dq (D.ei keep)) size).D:=by
 obtain⟨g,h,d,i⟩:=Jc n keep;obtain⟨j,m,z,o⟩:=n.last;obtain⟨a,B,C,p⟩:=EC keep (az l) o;have e:ar (D.ei keep).files (ay no)=some ⟨(az l).take a,((az l).take a).length,true⟩:=by
  rw[EB n.tidy,m];show(if true then some (tg keep ⟨az l,j,true⟩)else none)=_;rw[p];rfl
 have q:((az l).take a).length=a:=by simp;omega
 rw[q]at e;obtain⟨P,r,s,E,t,u,v,w,F,H,b,c,y⟩:=OZ (size:=size) (n:=a) g h n (λx f=>by rw[d x.1 (ZV _ (Xk.2 ⟨x,f,rfl⟩))];exact uH n.tidy keep (n.full x f)) (by rw[i];exact uH n.tidy keep n.Wx) (by rw[d no sM];exact e) oM oM;exact⟨P,r,s,t,u,v,w,c oM,b⟩
structure fK (Q:ah->Prop) (c:bS) (X:bk) (ref:Bool):Prop where
 log:∃V A no l k d,X.log=some V/\cK X.D A no l k/\(X.D.dead=true\/HE V A no l/\V.size=c.bh)/\Xf c.bh A/\X.S=(⟨c.aD.toNat,[]⟩:aw).ez ((cd A l).take d)/\d<=Jd A k/\(d<(cd A l).length->X.D.dead=true/\ref=true)/\∀e∈cd A l,Q e
def sr(A:pT)(l:List ah):(cd A l).length=Jd A l.length:=by unfold cd Jd;simp
def fK.same{Y:bk}(b:fK Q c X ref)(e:Y.S=X.S)(n:Y.D=X.D)(f:Y.log=X.log){r2:Bool}(g:ref=true->r2=true):fK Q c Y r2:=by
 obtain⟨V,A,no,l,k,d,h,i,j,m,o,p,P,q⟩:=b.log;exact⟨V,A,no,l,k,d,by rw[f];exact h,by rw[n];exact i,by rw[n];exact j,m,by rw[e];exact o,p,λa=>⟨by rw[n];exact(P a).1,g (P a).2⟩,q⟩
def fK.Gn(n:fK Q c X ref)(P:Int):fK Q c {X with D:=X.D.Gn P} ref:=by
 obtain⟨V,A,no,l,k,d,a,b,e,f,g,h,i,j⟩:=n.log;exact⟨V,A,no,l,k,d,a,b.files rfl,e,f,g,h,i,j⟩
def fK.take(q:fK Q c X ref)(E:X.S.Cl)(F:X.S.n=c.aD.toNat)(T:X.D.Ok)(H:∀b∈x,b.Ok/\Q b)(U:x.length<=20000000):
  ((dt c X x).1=0/\(dt c X x).2.S=X.S.ez x/\∀I,fK Q c (dt c X x).2 I)\/
  ((dt c X x).1≠0/\(dt c X x).2.S=X.S/\fK Q c (dt c X x).2 (ref||(dt c X x).1==15)):=by
 obtain⟨V,A,no,l,k,d,W,m,Y,r,h,J,s,o⟩:=q.log;have n:dt c X x=(if(aF V X.D x).1≠0 then((aF V X.D x).1,{X with log:=some (aF V X.D x).2.1,D:=(aF V X.D x).2.2})else
   if((aF V X.D x).2.2.sync (aF V X.D x).2.1.last).1≠0 then(((aF V X.D x).2.2.sync (aF V X.D x).2.1.last).1,{X with log:=some (aF V X.D x).2.1,D:=((aF V X.D x).2.2.sync (aF V X.D x).2.1.last).2})else
   (0,{X with log:=some (aF V X.D x).2.1,D:=((aF V X.D x).2.2.sync (aF V X.D x).2.1.last).2,S:=eW c X.S x})):=by
  unfold dt;rw[W]
 by_cases t:X.D.dead=true
 ·obtain⟨K,u,e3⟩:=Ja (V:=V) t x
  generalize aF V X.D x=P at*
  by_cases a:P.1≠0
  ·rw[Zx a]at n
   rw[n];exact .inr ⟨a,rfl,P.2.1,A,no,l,k,d,rfl,m.files K,.inl u,r,h,J,λf=>⟨u,by rw[(s f).2];rfl⟩,o⟩
  ·rw[Zq a]at n
   have Z:P.2.2.sync P.2.1.last=(15,P.2.2.gone):=vY u _;rw[Z,Zx sM]at n;rw[n];exact .inr ⟨sM,rfl,P.2.1,A,no,l,k,d,rfl,m.files K,.inl rfl,r,h,J,λf=>⟨rfl,by rw[(s f).2];rfl⟩,o⟩
 obtain⟨hv,L⟩:=Y.resolve_left t;have a0:(cd A l).length<=d:=Nat.le_of_not_lt λa1=>t (s a1).1;rw[Qz a0]at h;have M:(cd A l).length=Jd A k:=by
  have:=sr A l;have:=m.kl;unfold Jd at*;omega
 obtain⟨i,v,g,N,w,y,O,e,z,p,f7⟩:=Je (x:=x) m hv (λb B=>(H b B).1) U T (by rw[L];exact r);rw[L]at z p;generalize aF V X.D x=P at*
 by_cases a:P.1≠0
 ·rw[Zx a]at n
  rw[Zq a]at e;rw[n];exact .inr ⟨a,rfl,P.2.1,i,v,g,N,(cd i g).length,rfl,w,.inr ⟨y,z⟩,p,by rw[List.take_length,e];exact h,by rw[e,M];exact O,λf=>Zz f (Nat.lt_irrefl _),by rw[e];exact o⟩
 rw[Zq a]at n;have a:P.1=0:=Classical.not_not.1 a;rw[Zx a]at e;rw[cK.Ma y]at n;obtain⟨a2,s1,s2,s3⟩:=w.last;have R:∀b∈cd i g,Q b:=by rw[e];exact λb B=>(Q6.1 B).elim (o b) λq=>(H b q).2
 rcases EP w with⟨j,C⟩|⟨j,C⟩
 ·rw[Zq (by rw[j];simp)]at n
  rw[n];refine .inl ⟨rfl,vZ E F x,λI=>⟨P.2.1,i,v,g,g.length,(cd i g).length,rfl,C,.inr ⟨y,z⟩,p,?_,by rw[sr];exact Q4 _,λf=>Zz f (Nat.lt_irrefl _),R⟩⟩;rw[List.take_length,e,aw.AZ,<-h];exact vZ E F x
 ·obtain⟨z1,S⟩:=OY s1 j
  rw[Zx j]at n;rw[n];refine .inr ⟨j,rfl,P.2.1,i,v,g,N,(cd A l).length,rfl,C,.inl (by rw[S];rfl),p,?_,by rw[M];exact O,λ_=>⟨by rw[S];rfl,by rw[z1];simp⟩,R⟩;rw[e,List.take_left];exact h
def fK.sub(a:fK Q c X ref):∀n∈X.S.l,Q n:=λn P=>by
 obtain⟨V,A,no,l,k,d,f,g,h,i,b,j,m,e⟩:=a.log;rw[b]at P;exact e n (List.mem_of_mem_take ((aw.xV _ P).resolve_left sM))
def fK.ei(P:fK Q c X ref)(keep:Int):(gV c X keep).1=0/\(∀a∈X.S.l,a∈(gV c X keep).2.S.l)/\(ref=false->(gV c X keep).2.S=X.S)/\fK Q c (gV c X keep).2 false:=by
 obtain⟨V,A,no,l,k,d,C,g,E,h,e,i,j,m⟩:=P.log;obtain⟨n,F,o,p,q,r,s,t,H⟩:=L_ (size:=c.bh) (keep:=keep) g;have u:gV c X keep=(0,{X with D:=(aR (dq (X.D.ei keep)) c.bh).D,waits:=[],gC:=⟨X.gC.de,[],[]⟩,log:=some (aR (dq (X.D.ei keep)) c.bh).V,S:=(⟨c.aD.toNat,[]⟩:aw).ez (cd A (l.take n))}):=by
  unfold gV fz;dsimp only;rw[Zq (by rw[p];simp),q]
 have v:(cd A l).take d=(cd A (l.take n)).take d:=by
  have f:d<=((A.map (·.2)).flatten).length+n:=by unfold Jd at i;omega
  unfold cd;rw[List.take_append,List.take_append,List.take_take,X2 oM]
 have w:(⟨c.aD.toNat,[]⟩:aw).ez (cd A (l.take n))=X.S.ez ((cd A (l.take n)).drop d):=by
  rw[e,v,<-aw.AZ,ZX]
 rw[u];refine⟨rfl,λa b=>?_,λx=>?_,_,A,no,l.take n,n,(cd A (l.take n)).length,rfl,t,.inr ⟨r,s⟩,h,by rw[List.take_length],?_,λf=>Zz f (Nat.lt_irrefl _),λa b=>m a ?_⟩
 ·show a∈((⟨c.aD.toNat,[]⟩:aw).ez (cd A (l.take n))).l
  rw[w];exact aw.vX _ b
 ·show(⟨c.aD.toNat,[]⟩:aw).ez (cd A (l.take n))=X.S
  have y:(cd A l).length<=d:=Nat.le_of_not_lt λz=>by have:=(j z).2;rw[x]at this;cases this
  have:=sr A l;have B:n=l.length:=by unfold Jd at*;omega
  rw[B,List.take_length,e,Qz y]
 ·rw[sr];unfold Jd;rw[Qy,X2 o];exact Q4 _
 ·unfold cd at b⊢
  exact(Q6.1 b).elim (λP=>ZV _ P) λP=>ZW _ (List.mem_of_mem_take P)
def fK.Uf(y:fK Q c X ref)(f:X.S.Cl)(z:X.S.n=c.aD.toNat):(dL c X).2.S=X.S/\fK Q c (dL c X).2 ref:=by
 obtain⟨V,A,no,l,k,d,g,q,B,r,i,s,t,j⟩:=y.log;have P:dL c X=(if(aQ V X.D X.S.l c.bh).no≠0 then((aQ V X.D X.S.l c.bh).no,{X with D:=(aQ V X.D X.S.l c.bh).D})else(0,{X with D:=(aQ V X.D X.S.l c.bh).D,log:=some (aQ V X.D X.S.l c.bh).V})):=by
  unfold dL;rw[g]
 refine⟨by rw[P];split<;>rfl,?_⟩
 by_cases m:X.D.dead=true
 ·obtain⟨C,E,u⟩:=GY (V:=V) (x:=X.S.l) (size:=c.bh) m
  rw[Zx C]at P;rw[P];exact⟨V,A,no,l,k,d,g,q.files E,.inl u,r,i,s,λa=>⟨u,(t a).2⟩,j⟩
 obtain⟨v,F⟩:=B.resolve_left m;have L:(cd A l).length<=d:=Nat.le_of_not_lt λH=>m (t H).1;have I:∀n∈X.S.l,n.Ok/\n.aN.length<=64:=λn b=>⟨f.ok.ok n b,by
  obtain⟨-,-,-,-,-,-,M,-⟩:=nE (f.ok.XS n b);have:=f.ok.n;omega⟩
 have w:X.S=(⟨c.aD.toNat,[]⟩:aw).ez X.S.l:=by rw[<-z];exact f.Vy.symm
 have x:∀n∈cd [] X.S.l,Q n:=λn b=>by
  have b:n∈X.S.l:=b;rw[i]at b;exact j n (List.mem_of_mem_take ((aw.xV _ b).resolve_left sM))
 rcases q.RV v I (size:=c.bh)with⟨h,e⟩|⟨h,⟨e,o,J⟩|⟨e,o⟩⟩
 ·rw[Zx h]at P
  rw[P];exact⟨V,A,no,l,k,d,g,e,.inr ⟨v,F⟩,r,i,s,λa=>Zz a oM,j⟩
 ·rw[Zq (by rw[e];simp)]at P
  rw[P];exact⟨_,[],V.next,X.S.l,X.S.l.length,X.S.l.length,rfl,h,.inr ⟨o,J⟩,λK p=>by simp at p,by rw[show(cd [] X.S.l)=X.S.l from rfl,List.take_length];exact w,by unfold Jd;simp,λa=>Zz a (by rw[show(cd [] X.S.l)=X.S.l from rfl];exact Nat.lt_irrefl _),x⟩
 ·rw[Zx e]at P
  rw[P];exact⟨V,[],V.next,X.S.l,X.S.l.length,X.S.l.length,g,h,.inl o,λK p=>by simp at p,by rw[show(cd [] X.S.l)=X.S.l from rfl,List.take_length];exact w,by unfold Jd;simp,λa=>Zz a (by rw[show(cd [] X.S.l)=X.S.l from rfl];exact Nat.lt_irrefl _),x⟩
def Om{self:Int}(n:(cz c self).1=0):fK Q c (cz c self).2 false/\(cz c self).2.waits=[]:=by
 have b:cz c self=Cf c:=by
  unfold cz at n⊢;split
  ·rename_i P;rw[Zx P]at n;exact Zz n P
  rename_i P;rw[Zq P]at n;split
  ·rename_i d;rw[Zx d]at n;simp at n
  ·rfl
 rw[b]at n⊢;unfold Cf fz at n⊢;dsimp only at n⊢;rcases RW c.uJ.toNat c.bh with a|⟨a,e,f,g,h,l,m,o⟩
 ·rw[Zx oM]at n
  exact Zz n (by dsimp only;omega)
 ·rw[Zq (by rw[a];simp)]
  exact⟨⟨_,[],1,[],0,0,rfl,f,.inr ⟨g,h⟩,λp i=>by simp at i,by rw[e];rfl,Qj _,λj=>by simp[cd]at j,λq k=>by simp[cd]at k⟩,rfl⟩
def Mb{P x:ah}(n:x∈(eQ a I P).2):x=P\/x∈I:=by
 unfold eQ at n;split at n
 ·exact .inr n
 ·exact Q2.1 ((cN P I).mem_iff.1 n)
def v_(n:Nat)(Q:ah->Prop):∀(l:List ah) (f:aw) (P b:List ah),(∀e∈l,Q e)->(∀e∈P,Q e)->(∀e∈b,Q e)->(∀e∈(gN n l f P b).2.1,Q e)/\∀e∈(gN n l f P b).2.2,Q e
 |[],f,P,b,_,c,d=>⟨c,d⟩
 |e::l,f,P,b,h,c,d=>by
  have i:=h e (QV ..);have g:∀x∈l,Q x:=λx a=>h x (QJ _ a);unfold gN;split
  ·exact v_ n Q l _ _ _ g (λx a=>(Q6.1 a).elim (c x) λa=>by rw[List.mem_singleton.1 a];exact i) d
  split
  ·exact v_ n Q l _ _ _ g c d
  ·exact v_ n Q l _ _ _ g c λx a=>(Mb a).elim (λj=>by rw[j];exact i) (d x)
def rF(Q:ah->Prop):∀(l:List ah) (b:aw) (n:List ah),(∀e∈l,Q e)->(∀e∈n,Q e)->∀e∈(eC l b n).2,Q e
 |[],b,n,_,a=>a
 |e::l,b,n,c,a=>by
  have d:∀x∈l,Q x:=λx P=>c x (QJ _ P);unfold eC;split
  ·exact rF Q l _ _ d λx P=>(Q6.1 P).elim (a x) λP=>by rw[List.mem_singleton.1 P];exact c e (QV ..)
  ·exact rF Q l _ _ d a
def wh(Q:ah->Prop):∀(l:List ah) (P:aw) {a:ah×aw×List ah},dK P l=some a->(∀e∈l,Q e)->Q a.1/\∀e∈a.2.2,Q e
 |[],P,a,n,_=>by cases n
 |e::l,P,a,n,c=>by
  unfold dK at n;split at n
  ·cases n;exact⟨c e (QV ..),λx b=>c x (QJ _ b)⟩
  ·cases d:dK P l with
   |none=>rw[d]at n;cases n
   |some i=>
    rw[d]at n
    cases n
    obtain⟨f,g⟩:=wh Q l P d λx b=>c x (QJ _ b);exact⟨f,λx b=>(Q2.1 b).elim (λh=>by rw[h];exact c e (QV ..)) (g x)⟩
def wi(Q:ah->Prop):∀(k:Nat) (a:aw) (l n:List ah),(∀P∈l,Q P)->(∀P∈n,Q P)->(∀P∈(dj k a l n).1,Q P)/\∀P∈(dj k a l n).2,Q P
 |0,a,l,n,b,c=>⟨c,b⟩
 |k+1,a,l,n,b,c=>by
  unfold dj
  cases e:dK a l with
  |none=>exact⟨c,b⟩
  |some h=>
   obtain⟨f,g⟩:=wh Q l a e b;exact wi Q k _ _ _ g λx d=>(Q6.1 d).elim (c x) λd=>by rw[List.mem_singleton.1 d];exact f
def Jf(Q:ah->Prop):∀(k:Nat) (P:aw) (a b:List ah),(∀n∈a,Q n)->(∀n∈b,Q n)->(∀n∈(pK k P a b).1,Q n)/\∀n∈(pK k P a b).2,Q n
 |0,P,a,b,c,e=>⟨c,e⟩
 |k+1,P,a,b,c,e=>by
  unfold pK;have d:=wi Q ((b.filter λn=>(P.get (bd n)).isNone).length+1) P (b.filter λn=>(P.get (bd n)).isNone) [] (λx f=>e x (List.mem_filter.1 f).1) sM;have n:bG P b=dj ((b.filter λn=>(P.get (bd n)).isNone).length+1) P (b.filter λn=>(P.get (bd n)).isNone) []:=rfl;rw[<-n]at d;dsimp only;split
  ·exact⟨c,d.2⟩
  ·exact Jf Q k _ _ _ (rF Q _ _ _ d.1 c) d.2
def O_{c:bS}{X:bk}{l:List ah}(Q:ah->Prop)(P:∀n∈l,Q n)(a:∀n∈X.waits,Q n):(∀n∈(iV c X l).1,Q n)/\∀n∈(iV c X l).2,Q n:=by
 obtain⟨b,d⟩:=v_ c.buffer.toNat Q l (eW c X.S []) [] X.waits P sM a;exact Jf Q _ _ _ _ b d
def Cg(c:bS)(X:bk)(x:List ah):(dt c X x).2.waits=X.waits:=by
 unfold dt
 cases X.log with
 |none=>rfl
 |some V=>
  dsimp only;split
  ·rfl
  split<;>rfl
def Jg(ref:Bool)(kind no:Int):Bool:=ref&&kind !=4||(kind==0||kind==2)&&(no==15||no==12)
structure pL (Q:ah->Prop) (c:bS) (X:bk) (ref:Bool) (kind:Int) (r:Int×bk):Prop where
 XP:∀e∈X.S.l,e∈r.2.S.l
 Yp:fK Q c r.2 (Jg ref kind r.1)
 idle:kind≠0->kind≠2->kind≠4->r.2.S=X.S
 no:kind=0\/kind=2->r.1≠0->r.2.S=X.S
 cr:kind=4->ref=false->r.2.S=X.S
 wait:∀e∈r.2.waits,e.Ok/\Q e
def og{ref:Bool}{n no:Int}(P:n≠4)(a:ref=true):Jg ref n no=true:=by unfold Jg;rw[a];simp[P]
def pL.still{no:Int}(P:fK Q c X ref)(b:e≠4)(n:e3.S=X.S)(d:e3.D=X.D)(f:e3.log=X.log)(g:∀a∈e3.waits,a.Ok/\Q a):pL Q c X ref e (no,e3):=
 ⟨λa h=>by rw[n];exact h,P.same n d f (og b),λ_ _ _=>n,λ_ _=>n,λP=>Zz P b,g⟩
def Pa{P:bZ}(n:eX P a e=0)(c:P.kind=3)(d:e<=32):P.events.length<=32:=by
 rcases Nat.lt_or_ge 32 P.events.length with b|b
 ·exfalso
  unfold eX at n;rw[Zx c]at n;split at n
  ·cases n
  ·unfold eY at n
   split at n
   ·cases n
   ·rw[Zx (.inr oM)]at n;cases n
 ·exact b
def fK.call{a:TB}(b:fK Q c X ref)(f:∀P∈X.waits,P.Ok/\Q P)(v:X.S.Cl)(w:X.S.n=c.aD.toNat)(B:X.D.Ok)(E:a.cmd.Ok)(F:∀P∈a.m.events,P.Ok/\Q P)(H:a.kind=0->(fu c.decl X.S (bW c.decl X.S.l) e c.start a.cmd).2.1=true->Q (fu c.decl X.S (bW c.decl X.S.l) e c.start a.cmd).1)(I:aM e)(J:aM c.start)(K:X.S.l.length<=20000000)(W:X.waits.length<=256)(L:c.chunk<=32):
  pL Q c X ref a.kind (Re c e X a):=by
 unfold Re;split
 ·rename_i h
  have i:a.kind≠4:=oM
  obtain⟨V,A,no,l,k,d,t,-⟩:=b.log;unfold eK;rw[t];dsimp only;split
  ·exact pL.still b i rfl rfl rfl f
  split
  ·rename_i M
   have N:=Np (d:=c.decl) (V:=bW c.decl X.S.l) E v.ok I J K;have r:=b.take (x:=[(fu c.decl X.S (bW c.decl X.S.l) e c.start a.cmd).1]) v w B (λP g=>by rw[List.mem_singleton.1 g];exact⟨N,H h M⟩) sM;have o:=Cg c X [(fu c.decl X.S (bW c.decl X.S.l) e c.start a.cmd).1];generalize dt c X [(fu c.decl X.S (bW c.decl X.S.l) e c.start a.cmd).1]=x at r o;rcases r with⟨p,m,q⟩|⟨p,m,q⟩
   ·rw[Zq (by rw[p];simp)]
    exact⟨λP g=>by dsimp only;rw[m];exact aw.vX _ g,q _,λn=>Zz h n,λ_ n=>Zz rfl n,λn=>Zz n i,by dsimp only;rw[o];exact f⟩
   ·rw[Zx p]
    refine⟨λP g=>by dsimp only;rw[m];exact g,q.same rfl rfl rfl λj=>?_,λn=>Zz h n,λ_ _=>m,λn=>Zz n i,by dsimp only;rw[o];exact f⟩;rcases Bool.or_eq_true .. ▸j with j|j
    ·exact og i j
    ·unfold Jg;dsimp only;rw[j,h];simp
  ·exact pL.still b i rfl rfl rfl f
 split
 ·rename_i h
  unfold fk;split<;>exact pL.still b oM rfl rfl rfl f
 split
 ·rename_i h
  have i:a.kind≠4:=oM
  obtain⟨V,A,no,l,k,d,t,-⟩:=b.log;unfold cy;rw[t];dsimp only;split
  ·exact pL.still b i rfl rfl rfl f
  rename_i O;split
  ·exact pL.still b i rfl rfl rfl f
  split
  ·rename_i R
   have Y:=Pa (Classical.not_not.1 O) R L;unfold mK;obtain⟨C,y⟩:=O_ (c:=c) (X:=X) (λP=>P.Ok/\Q P) F f;have S:=Ch c X a.m.events;generalize iV c X a.m.events=s at C y S;dsimp only;split
   ·exact pL.still b i rfl rfl rfl y
   have r:=(b.same (Y:={X with waits:=s.2}) rfl rfl rfl id).take (x:=s.1) v w B C oM;have o:=Cg c {X with waits:=s.2} s.1;generalize dt c {X with waits:=s.2} s.1=x at r o;dsimp only at r o;rcases r with⟨p,m,q⟩|⟨p,m,q⟩
   ·rw[Zq (by rw[p];simp)]
    exact⟨λP g=>by dsimp only;rw[m];exact aw.vX _ g,q _,λ_ n=>Zz h n,λ_ n=>Zz rfl n,λn=>Zz n i,by dsimp only;rw[o];exact y⟩
   ·rw[Zx p]
    refine⟨λP g=>by dsimp only;rw[m];exact g,q.same (Y:={x.2 with waits:=[]}) (r2:=Jg ref a.kind x.1) rfl rfl rfl λj=>?_,λ_ n=>Zz h n,λ_ _=>m,λn=>Zz n i,sM⟩;rcases Bool.or_eq_true .. ▸j with j|j
    ·exact og i j
    ·unfold Jg;rw[j,h];simp
  split
  ·exact pL.still b i rfl rfl t.symm f
  split<;>exact pL.still b i rfl rfl t.symm f
 split
 ·exact pL.still b oM rfl rfl rfl f
 split
 ·rename_i h
  obtain⟨u,z,T,U⟩:=b.ei a.n;have P:Jg ref a.kind (gV c X a.n).1=false:=by unfold Jg;rw[h];simp
  refine⟨z,by rw[P];exact U,λ_ _ n=>Zz h n,λn=>oM,λ_ n=>T n,?_⟩;unfold gV fz;dsimp only;split<;>simp
 split
 ·rename_i h
  exact⟨λP g=>g,(b.Gn a.n).same rfl rfl rfl (og oM),λ_ _ _=>rfl,λ_ _=>rfl,λ_ _=>rfl,f⟩
 split
 ·rename_i h
  obtain⟨u,z⟩:=b.Uf v w;refine⟨λP g=>by rw[u];exact g,z.same rfl rfl rfl (og oM),λ_ _ _=>u,λ_ _=>u,λ_ _=>u,?_⟩;unfold dL
  cases X.log with
  |none=>exact f
  |some V=>
   dsimp only;split<;>exact f
 ·exact⟨λP g=>g,b.same rfl rfl rfl (og oM),λ_ _ _=>rfl,λ_ _=>rfl,λ_ _=>rfl,f⟩
end
structure Et (c:bS) (X:et):Prop where
 len:X.aD.length=c.aD.toNat
 cl:∀R∈X.aD,R.S.Cl/\R.S.n=c.aD.toNat/\R.D.Ok/\R.S.l.length<=20000000/\R.waits.length<=256
 evs:∀m∈X.ef,∀e∈m.events,e.Ok
 chunk:c.chunk<=32
 start:aM c.start
 aD:c.aD<=64
def Bf(P:ah->Prop)(c:bS)(a:bk):Prop:=(∃n,fK P c a n)/\∀b∈a.waits,b.Ok/\P b
def LC(a:Nat->ah->Prop)(b:bS)(c:et):Prop:=∀n P,c.aD[n]? =some P->Bf (a n) b P
section
variable {c:bS} {X:et} {k j:Nat} {i:Int} {R R':bk} {s:fP} {ms:List bZ} {m:bZ} {Q:Nat->ah->Prop} {P:ah->Prop} {f:List bZ} {now:Int} {n:Int}
def LC.set(d:LC Q c X)(e:Bf (Q j) c R'):LC Q c ⟨X.aD.set j R',f,now⟩:=λP a n=>by
 have n:(X.aD.set j R')[P]? =some a:=n
 by_cases b:j=P
 ·subst b
  by_cases g:j<X.aD.length
  ·rw[List.getElem?_set_self g]at n;injection n with n;exact n▸e
  ·rw[Q7 (by rw[List.length_set];omega)]at n;cases n
 ·rw[List.getElem?_set_ne b]at n;exact d P a n
def Bf.same(a:Bf P c R)(b:R'.S=R.S)(d:R'.D=R.D)(e:R'.log=R.log)(f:R'.waits=R.waits):Bf P c R':=by
 obtain⟨⟨n,g⟩,h⟩:=a;exact⟨⟨n,g.same b d e id⟩,by rw[f];exact h⟩
def Bf.call(e:Bf P c R)(n:Et c X)(f:R∈X.aD)(g:aM i){a:TB}(h:a.cmd.Ok)(j:∀b∈a.m.events,b.Ok/\P b)(k:a.kind=0->(fu c.decl R.S (bW c.decl R.S.l) i c.start a.cmd).2.1=true->P (fu c.decl R.S (bW c.decl R.S.l) i c.start a.cmd).1):Bf P c (Re c i R a).2:=by
 obtain⟨⟨l,m⟩,o⟩:=e;obtain⟨p,q,r,s,t⟩:=n.cl R f;have d:=m.call o p q r h j k g n.start s t n.chunk;exact⟨⟨_,d.Yp⟩,d.wait⟩
def It:TB:=⟨0,0,0,⟨0,0,0,0,0,0,0⟩,⟨0,0,0,[],[]⟩⟩
def Ao:kY.Ok ⟨0,0,0,0,0,0,0⟩:=by
 have:aM 0:=by unfold aM;omega
 exact⟨this,this,this,this,this,this⟩
def Bf.one(n:Bf P c R)(b:Et c X)(d:R∈X.aD)(e:aM i)(g:s.Ok)(h:(fu c.decl R.S (bW c.decl R.S.l) i c.start s.cmd).2.1=true->P (fu c.decl R.S (bW c.decl R.S.l) i c.start s.cmd).1):Bf P c (jD c i R s).2:=by
 have a:∀f∈([]:List ah),f.Ok/\P f:=λf a=>by cases a
 unfold jD;split
 ·exact n.call b d e (a:=⟨0,0,0,s.cmd,It.m⟩) g.cmd a λ_=>h
 split
 ·exact n.call b d e (a:=⟨4,s.m,0,It.cmd,It.m⟩) Ao a λn=>by cases n
 split
 ·exact n.call b d e (a:=⟨6,0,0,It.cmd,It.m⟩) Ao a λn=>by cases n
 split
 ·exact n
 split
 ·exact n
 split
 ·exact n
 ·exact n.call b d e (a:=⟨5,s.m,0,It.cmd,It.m⟩) Ao a λn=>by cases n
def On(c:bS)(i:Int)(R:bk)(n now:Int):(fk c i R n now).2.S=R.S/\(fk c i R n now).2.D=R.D/\(fk c i R n now).2.log=R.log/\(fk c i R n now).2.waits=R.waits:=by
 unfold fk;split<;>exact⟨rfl,rfl,rfl,rfl⟩
def La(n:LC Q c X):LC Q c (mg X j):=by
 unfold mg;split
 ·exact n
 ·rename_i R P
  exact n.set ((n j R P).same rfl rfl rfl rfl)
def Iu:∀(n:List Nat) {X:et},LC Q c X->LC Q c (n.foldl mg X)
 |[],_,P=>P
 |j::n,_,P=>Iu n (La P)
def Eu(P:dQ a6 n=some m):m∈a6:=by
 unfold dQ at P;split at P
 ·exact QZ P
 ·cases P
def WN(n:Et c X)(P:j<X.aD.length):aM (j:Int):=by
 have:=n.len;have:=n.aD;unfold aM;omega
def Iv(n:LC Q c X)(a:Et c X){b:Option bZ}(k:∀m,b=some m->m∈X.ef/\∀i:Nat,m.nj=i->∀P∈m.events,Q i P):LC Q c (jC c ⟨X.aD,f,X.now⟩ b).2:=by
 unfold jC
 cases b with
 |none=>exact n
 |some m=>
  dsimp only;split
  ·exact n
  ·rename_i R d
   obtain⟨j,g,d⟩:=gU d;have e:X.aD[j]? =some R:=d;obtain⟨l,o⟩:=k m rfl;have p:=(n j R e).call a (QZ e) (WN a (Qv.1 e).1) (a:=⟨2,0,0,It.cmd,m⟩) Ao (λP h=>⟨a.evs m l P h,o j g P h⟩) λn=>by cases n
   rw[g];exact LC.set (X:=X) n p
def Rf(P:LC Q c X)(b:Et c X)(f:s.Ok)(d:(s.kind=3\/s.kind=5)->∀m,dQ X.ef s.n=some m->∀i:Nat,m.nj=i->∀g∈m.events,Q i g)(h:∀(i:Nat) R,X.aD[i]? =some R->(fu c.decl R.S (bW c.decl R.S.l) i c.start s.cmd).2.1=true->Q i (fu c.decl R.S (bW c.decl R.S.l) i c.start s.cmd).1):LC Q c (cM c X s).2:=by
 unfold cM;split
 ·rename_i k
  exact Iv P b λm n=>⟨Eu n,d (.inl k) m n⟩
 split
 ·rename_i l
  exact Iv (f:=X.ef) P b λm n=>⟨Eu n,d (.inr l) m n⟩
 split
 ·exact P
 split
 ·exact Iu _ (X:=⟨X.aD,X.ef,X.now+1⟩) P
 split
 ·exact P
 split
 ·exact P
 ·rename_i R a
  obtain⟨j,o,a⟩:=gU a;have p:=(Qv.1 a).1;have e:=P j R a;rw[o];split
  ·split
   ·exact P
   ·obtain⟨q,r,t,u⟩:=On c j R s.m X.now
    exact LC.set (X:=X) P (e.same q r t u)
  ·exact LC.set (X:=X) P (e.one b (QZ a) (WN b p) f (h j R a))
end
section
variable {w w' w0 w1 w2 wb:World} {p q i k g:Nat} {F F1 F' G G' T D E:LL} {c:bS} {X Y:et} {s:fP} {x:iB} {v:Value}
def Rb(P:Row kq 96 w D d a I):∀n∈I,n.Ok:=λn b=>by
 obtain⟨i,c⟩:=List.mem_iff_getElem?.1 b;obtain⟨f,g,h,-,-,-,-,j,k,l,-,-,e⟩:=P.el i n c;exact e
def cD.facts(P:cD w0 w p F c X)(f:aM c.start):Et c X:=by
 have a:=P.len;obtain⟨r,g,s,b,t,h,u,i,v⟩:=P;refine⟨a.1,λx d=>?_,λy e=>?_,i.KN.2,f,a.2.2.1⟩
 ·rw[h]at d
  obtain⟨z,j,rfl⟩:=Xk.1 d;obtain⟨A,k⟩:=List.mem_iff_getElem?.1 j;have n:=cV.rep b k;exact⟨n.cl.1,n.cl.2,n.Zu,n.len,n.waits⟩
 ·obtain⟨B,C,E,H,D,I,J,l,m,-⟩:=b.Ww
  rw[<-l]at e;obtain⟨o,q,rfl⟩:=Xk.1 e;exact Rb (m o q).2
def TA{Q:Nat->ah->Prop}(P:(Be c).1=0):LC Q c (Be c).2:=λi a b=>by
 have n:=QZ b;have n:a∈List.replicate c.aD.toNat (cz c 0).2:=n;rw[(List.mem_replicate.1 n).2];obtain⟨d,e⟩:=Om (Q:=Q i) (c:=c) (self:=0) P;exact⟨⟨false,d⟩,by rw[e];intro g f;cases f⟩
end
def rb:gA:=⟨[(7,[(5,ZT 0)]),(11,[]),(15,[(6,ZT 0)]),(19,[(8,ZT 0)])],[],[],[],[]⟩
def qO{A B C E H I D J:Int}{K G L:ac}(W:PA b (.cells #[.ii A,.ii B,.ii C,.ii E,.ii H,.ii I,.ii D,.ii J,.slice K a c,.slice G i p,.slice L F b7] 30) λM=>(Ld 30 (ab_ b 0) M λX=>PC_ 7 #[X] M (kB λY u=>al Y (PC_ 8 #[] u (kB λZ a2=>rt s ((.bool Z)) a2) (pE s)) ((Ld 27 (ab_ b 0) u λa3=>PC_ 9 #[a3] u (λa4 v=>∃g k,a4= .tuple #[.pointer g,.ii k]/\al (k !=0) (al (k !=0) (PC_ 8 #[] v (kB λa5 a6=>rt s ((.bool a5)) a6) (pE s)) (rt s ((.bool false)) v)) (PR_ (eq_ .eql 33 (.tmp 21) (.const (.pointer none)) (.pointer g) (.pointer none)) v (kB λa7 h=>al a7 (al (k !=0) (PC_ 8 #[] h (kB λa8 a9=>rt s ((.bool a8)) a9) (pE s)) (rt s ((.bool false)) h)) ((rI h (ab_ b 0) λb0=>al (decide (b0>64)) (al (k !=0) (PC_ 8 #[] h (kB λb1 b2=>rt s ((.bool b1)) b2) (pE s)) (rt s ((.bool false)) h)) ((∃l:Nat->Int->UV,(∃j,l j 0 h)/\∀(j:Nat) (P:Int) (f5:Nat->Value) (n:World),l j P n->(rS n (ab_ b (0+10)) λf6 b3 f7=>al (decide (P<(b3:Int))) ((rS n (ab_ b (0+10)) λb4 b5 f8=>(ix_ b4 P b5 λb6 a0=>(rI n (ad b6 (a0+Int.toNat P*10)) λb8=>al (b8==3) ((∃d,d<j/\l d (ZU .i64 (P+1)) n)) ((rS n (ab_ b (0+10)) λb9 c0 f9=>(ix_ b9 P c0 λc1 c2=>(rI n (ad c1 (c2+Int.toNat P*10)) λc3=>al (c3==5) ((∃d,d<j/\l d (ZU .i64 (P+1)) n)) ((rS n (ab_ b (0+10)) λc4 c5 g0=>(ix_ c4 P c5 λc6 c7=>(Ld 40 (ad c6 (c7+Int.toNat P*10)) n λc8=>PC_ 13 #[.pointer g,c8] n (kX_ 53 λg1 c9=>(∃w:Nat->UV,(∃o,w o c9)/\∀(o:Nat) (g2:Nat->Value) (N:World),w o N->PC_ 12 #[.pointer g] N (kI_ λd0 O=>al (decide (d0>0)) (PC_ 13 #[.pointer g,.agg #[.ii 4,.ii 0,.ii 0,.ii 0,.ii 0,.ii 0,.ii 0,.ii 0,.ii 0,.ii 0]] O (λd1 Q=>∃R d2 d3 d4 d5 d6 d7 d8 d9 e0 e1 e2 e3 e4,d1= .agg #[.ii R,.ii d2,.ii d3,.ii d4,.slice d5 d6 d7,.slice d8 d9 e0,.slice e1 e2 e3,.bool e4]/\al (R !=0) (rt s ((.bool false)) Q) ((∃S,S<o/\w S Q))) (pE s)) ((∃d,d<j/\l d (ZU .i64 (P+1)) O))) (pE s))) (pE s))))))))))))) ((∃x:Nat->Int->UV,(∃q,x q 0 n)/\∀(q:Nat) (m:Int) (g3:Nat->Value) (r:World),x q m r->(rI r (ab_ b 0) λe5=>al (decide (m<e5)) (PC_ 18 #[.pointer g,.ii m] r (kS_ λT y g4 e6=>(∃z:Nat->Int->UV,(∃t,z t 0 e6)/\∀(t:Nat) (e:Int) (g5:Nat->Value) (f:World),z t e f->al (decide (e<(y:Int))) ((ix_ T e y λe7 e8=>(rI f (ad e7 (e8+Int.toNat e*10)) λe9=>al (e9 !=m) (rt s ((.bool false)) f) ((ix_ T e y λf0 f1=>(rI f (ad f0 (f1+Int.toNat e*10+1)) λf2=>al (f2 !=(ZU .i64 (e+1))) (rt s ((.bool false)) f) ((∃U,U<t/\z U (ZU .i64 (e+1)) f)))))))) ((∃V,V<q/\x V (ZU .i64 (m+1)) f)))) (pE s)) (PC_ 8 #[] r (kB λf3 f4=>rt s ((.bool f3)) f4) (pE s))))))))))) (pV s))) (pE s)))) (pE s))):am 5 #[.agg #[.ii A,.ii B,.ii C,.ii E,.ii H,.ii I,.ii D,.ii J,.slice K a c,.slice G i p,.slice L F b7]] b s:=DC rb Tryz.func5 rfl W
def aw.Cl.step(P:B.Cl){k:Nat}(a:k<B.l.length):aw.add ⟨B.n,B.l.take k⟩ B.l[k]=(0,⟨B.n,B.l.take (k+1)⟩):=by
 have b:=(P.take (k:=k) oM).1;have g:=(P.take (k:=k+1) oM).1;rw[Qw,Qq a,Option.toList_some,aw.ny,b]at g;rcases aw.eR ⟨B.n,B.l.take k⟩ B.l[k]with⟨-,n⟩|⟨n,-⟩
 ·rw[n]at g
  have:=Zj (λc:aw=>c.l.length) g;simp at this;omega
 ·rw[n]at g
  simp only at g;rw[n,g,Qw,Qq a,Option.toList_some]
def Rg(n:(fu R B d6 e l d1).2.1=true):(fu R B d6 e l d1).1.origin=e:=by
 have p:∀g h,(aX d1 e g h).1=0->(aX d1 e g h).2.origin=e:=λg h n=>by
  unfold aX at n⊢;dsimp only at n⊢;split
  ·rename_i i;rw[Zx i]at n;cases n
  rename_i i;rw[Zq i]at n;split
  ·rename_i q;rw[Zx q]at n;cases n
  ·rfl
 have r:∀(a b:Prop) [Decidable a] [Decidable b] (d f c:ah×Bool×Int),d.2.1=false->f.2.1=false->(c.2.1=true->c.1.origin=e)->(if a then d else if b then f else c).2.1=true->(if a then d else if b then f else c).1.origin=e:=λa b _ _ d f c s t u P=>by
  by_cases j:a
  ·rw[Zx j]at P;rw[s]at P;cases P
  ·rw[Zq j]at P⊢
   by_cases k:b
   ·rw[Zx k]at P;rw[t]at P;cases P
   ·rw[Zq k]at P⊢;exact u P
 unfold fu at n⊢;dsimp only at n⊢
 by_cases m:iN R d1≠0
 ·rw[Zx m]at n;cases n
 rw[Zq m]at n⊢
 cases o:B.keyed d1.key with
 |some v=>rw[o]at n;cases n
 |none=>
  rw[o]at n;exact r _ _ _ _ _ rfl rfl (λP=>p _ _ (XV P)) n
def TC(d:B.Cl){i:Nat}(e:i<B.n)(P:∀m∈B.l,m.origin=(i:Int))(f:B.l[a]? =some m):m.seq=(a:Int)+1:=by
 obtain⟨n,rfl⟩:=Qv.1 f;have g:=d.step n;rcases aw.eR ⟨B.n,B.l.take a⟩ B.l[a]with⟨b,-⟩|⟨-,-,-,c,-⟩
 ·rw[g]at b;exact Zz rfl b
 ·rw[P _ (XY n),Qx,aw.qL (S:=⟨B.n,B.l.take a⟩) e]at c
  rw[c]
  congr 1
  unfold aw.En;dsimp only;rw[List.countP_eq_length.2 λm h=>by rw[P m (List.mem_of_mem_take h)];simp,Qy,X2 (Nat.le_of_lt n)]
section
variable {w w' w0 w1 w2 wb:World} {p q i k g:Nat} {F F1 F' G G' T D E:LL} {c:bS} {X Y:et} {s:fP} {x:iB} {v:Value} {ta pa la:ac} {tn tc pn pc ln lc:Nat} {l:List fP}
def Own(i:Nat)(n:ah):Prop:=n.origin=(i:Int)
def TD:cM c X ⟨4,0,0,kZ⟩=(bL (if(dQ X.ef 0).isSome then 0 else 14),⟨X.aD,gy X.ef 0,X.now⟩):=by
 unfold cM;rw[Zq dC,Zq dC,Zx rfl]
set_option maxHeartbeats 4000000 in
def ve(A:fr w)(B:Laid w)(hd:bt w D c.decl ta tn pa pn)(hD:∀n,D n->n<w.heap.size)(M:Row Nb 80 w E la ln l)(hE:∀n,E n->n<w.heap.size)(hs:aM c.bh)(d3:aM c.every)(N:aM c.start):
  am 5 #[Na c ta tn tc pa pn pc la ln lc] w (Ok λv w'=>v= .bool true/\ai w w'):=by
 have g3:=M.len;refine qO (PA.mk λw1 O s1 g1=>au (VD c ta tn tc pa pn pc la ln lc) g1 (PC.ok (KZ (hd.af O) (M.af O)) ?_));rintro _ w3 ⟨⟨b4,rfl,d4⟩,Q⟩;have m:=O.then Q;have b7:=Q.get g1 id;refine⟨_,rfl,al.mk (λ_=>Ra A B m) (λd5=>?_)⟩;have d6:=d4 d5;refine Tz b7 (PC.ok (M_ A B m (hd.af m) (λn P=>by have:=hD n P;have:=m.size;omega) hs d3 N) ?_);rintro v5 C ⟨H,⟨b8,rfl⟩|⟨hz,p,F,rfl,R,hF,b9⟩⟩
 ·exact⟨_,_,rfl,al.eM (λ_=>al.eM (λ_=>Ra A B (m.then H)) (λh=>Zz h b8)) (λh=>Zz h b8)⟩
 have S:=m.then H;have c1:=H.get b7 id;obtain⟨-,g4,g5,-⟩:=R.len;have z1:w.heap.size<w1.heap.size:=oM
 have z3:=Q.size;have z5:=H.size;have g6:=S.size;refine⟨_,_,rfl,al.eM (λh=>Zz rfl h) (λ_=>gT Tryz.underlying33 ⟨_,rfl,al.ff rfl ⟨_,ae c1 rfl,al.dec (λh=>oM) (λ_=>?_)⟩⟩)⟩;have a4:=TA (Q:=Own) hz;generalize(Be c).2=X0 at R b9 a4;refine⟨λa j w'=>∃(d:Nat) (k:LL) (X:et),j=d/\d<=ln/\a=ln-d/\cD w w' p k c X/\gB d X/\LC Own c X/\aj (λn=>w1.heap.size<=n) C w'/\∀n,k n->w1.heap.size<=n,
  ⟨_,0,F,X0,rfl,Qj _,rfl,R,b9,a4,aj.refl _,λn P=>by have:=hF n P;omega⟩,?_⟩
 rintro a _ _ x ⟨d,k,X,rfl,hj,rfl,I,T,U,o,V⟩;have d7:ai w x:=S.new o λn P=>.inr (by have P:w1.heap.size<=n:=P;omega);have y:=o.get c1 oM;have g7:=o.size;refine⟨_,_,_,ae y rfl,al.dec (λd8=>?_) (λd9=>?_)⟩
 ·have kE:aj (λn=>w1.heap.size<=n) w x:=(ai.keep S).then o
  have e0:=M.keep kE λn P h=>by have:=hE n P;omega
  obtain⟨n,r,s,es,W,g8,g9,h2,c2,rfl,a5⟩:=e0.Ie (i:=d) oM;have c3:=c2 0 dC;have g:∃a,a<ln-d/\∃(J:Nat) (k:LL) (X:et),ZU .i64 ((d:Int)+1)=J/\J<=ln/\a=ln-J/\cD w x p k c X/\gB J X/\LC Own c X/\aj (λn=>w1.heap.size<=n) C x/\∀n,k n->w1.heap.size<=n:=⟨_,oM,d+1,k,X,an oM,oM,rfl,I,T.mono,U,o,V⟩
  refine⟨_,_,_,ae y rfl,n,r,W,oM,oM,_,by rw[Qx];exact c3,al.eL (λ_=>g) (λh3=>⟨_,_,_,ae y rfl,n,r,W,oM,oM,_,by rw[Qx];exact c3,al.eL (λ_=>g) (λh5=>⟨_,_,_,ae y rfl,n,r,W,oM,oM,?_⟩)⟩)⟩;rw[Qx];refine ck (es:=nG s) (k:=10) (KG s) rfl (λj ht=>c2 j ht) (PC.ok (Gp I T oM a5) ?_);rintro v9 w9 ⟨F9,c4,t,c5,Z⟩;have a6:LC Own c (cM c X s).2:=Rf U (I.facts N) a5 (λh=>by rcases h with h|h;exact Zz h h3;exact Zz h h5) λi f e he=>Rg he;generalize cM c X s=b2 at c4 t c5 a6;have z9:=Z.keep.size;have e1:∀n,F9 n->w1.heap.size<=n:=λn P=>(Z.new n P).elim (V n) λh=>by omega
  have e2:aj (λn=>w1.heap.size<=n) C w9:=o.then (Z.keep.mono λn _ P=>V n P);refine WM c4.at' ⟨λa w'=>∃(z:LL) (Y:et),a=Y.ef.length/\cD w w' p z c Y/\gB (d+1) Y/\LC Own c Y/\aj (λn=>w1.heap.size<=n) C w'/\∀n,z n->w1.heap.size<=n,⟨_,F9,b2.2,rfl,t,c5,a6,e2,e1⟩,?_⟩;rintro a _ c6 ⟨z,Y,rfl,a0,a1,a7,a2,K⟩;refine PC.ok (Bd a0) ?_;rintro _ _ ⟨rfl,rfl⟩;refine⟨_,rfl,al.dec (λf3=>?_) (λe3=>⟨_,oM,d+1,z,Y,an oM,oM,rfl,a0,a1,a7,a2,K⟩)⟩;refine PC.ok (Gp (s:=⟨4,0,0,kZ⟩) a0 a1 oM (jW rfl)) ?_;rintro h4 h6 ⟨e4,⟨sa,sn,sc,ea,en,ec,ra,rn,rc,G,rfl,-⟩,a8,-,a3⟩;have c7:(dQ Y.ef 0).isSome=true:=Rh dC oM;have e5:(gy Y.ef 0).length=Y.ef.length-1:=by
   unfold gy;rw[Zx c7,List.length_eraseIdx,Zx (by show 0<_;omega)]
  rw[TD,c7]at a8⊢;have h7:=a3.keep.size;have f4:=a2.size;exact⟨_,_,_,_,_,_,_,_,_,_,_,_,_,_,rfl,al.eM (λh=>Zz rfl h) (λ_=>⟨_,by rw[e5];omega,e4,_,rfl,a8,a1.ef,a7,a2.then (a3.keep.mono λn _ P=>K n P),λn P=>(a3.new n P).elim (K n) λh=>oM⟩)⟩
 ·refine⟨λa j w'=>∃b:Nat,j=b/\b<=c.aD.toNat/\a=c.aD.toNat-b/\ai x w',⟨_,0,rfl,Qj _,rfl,aj.refl _⟩,?_⟩
  rintro a _ _ w9 ⟨b,rfl,he,rfl,L⟩;have e6:=L.get y id;have t:=I.af L;obtain⟨f6,-⟩:=t.len;have a9:∀f∈X.aD,f.S.l.length<=17000000:=λf e=>by have:=(T.aD f e).evs;omega
  refine⟨_,ae e6 rfl,al.dec (λd8=>?_) (λd9=>Ra A B (d7.then L))⟩;have e:X.aD[b]? =some X.aD[b]:=Qq oM;have e7:=a9 X.aD[b] (XY oM);generalize X.aD[b]=f at e e7;obtain⟨⟨b3,c8⟩,-⟩:=U b f e;obtain⟨e8,hn,-⟩:=(t.facts N).cl f (QZ e);have b0:=c8.sub;refine PC.ok (KT t λf e=>by have:=a9 f e;omega) ?_;rintro _ c6 (⟨h,-⟩|⟨R1,u,h8,c9,h9,z,rfl,b1,e9,K⟩)
  ·rw[xf,e]at h;cases h
  rw[xf,e]at u;injection u with u;subst u;have f8:=b1.len dC;have d0:=b1.row (bytes:=96) dC (by unfold aT;omega);refine⟨_,_,_,rfl,λa j w'=>∃q:Nat,j=q/\q<=c9/\a=c9-q/\c6=w',⟨_,0,rfl,Qj _,rfl,rfl⟩,?_⟩;rintro a _ _ _ ⟨q,rfl,hq,rfl,rfl⟩;refine al.dec (λg0=>?_) (λg2=>⟨_,oM,b+1,an oM,oM,rfl,L.then e9⟩);obtain⟨n,r,ev,es,d1,P,-,hx,d2,a',n',c',rfl,-,-⟩:=d0.Ie (i:=q) oM;have h0:=d2 0 dC;have u:=d2 1 dC;have ho:ev.origin=(b:Int):=b0 ev (QZ hx);have f2:ev.seq=(q:Int)+1:=TC e8 (i:=b) oM b0 hx;have hw:ZU .i64 ((q:Int)+1)=(q:Int)+1:=by rw[an oM];omega
  refine⟨n,r,d1,oM,oM,_,by rw[Qx];exact h0,al.eM (λh=>Zz ho h) (λ_=>⟨n,r,d1,oM,oM,_,by rw[Qx];exact u,al.eM (λh=>Zz (by rw[hw];exact f2) h) (λ_=>⟨_,oM,q+1,an oM,oM,rfl,rfl⟩)⟩)⟩
end
end Go.Proofs.YtjgjkeponbeekaaGreatDoor
namespace Go.aq
open Go Go.WideShapes
variable{J:Bool}{g2:List MemPlace}{a:Nat}{h:Program}{L j:Type}{g:TypeId}{x:Value}{b:World}
def Rj{n:TypeId×Value->j}{f:Reach}{d:DataW j}{e:kr L}{i:Array Field}(k:h.underlying g=some (.struct i))(l:Reads h e g)(m:Value.okWide h b f a g x)(o:DataW.Trod n h b 0 (λ_=>true) J g x d g2)(p:mu h g d):∃c cs,x= .agg cs/\e.rep b (In b) c cs.toList:=by
 obtain⟨cs,rfl,-⟩:=okWide_struct k m;obtain⟨P,q⟩:=o;obtain⟨c,r⟩:=l j n b J P cs.toList _ q p;exact⟨c,cs,rfl,r⟩
end Go.aq
namespace Go.Proofs.YtjgjkeponbeekaaGreatDoor
section
open Go.aq
structure Xb (c:bS):Prop where
 aD:aM c.aD
 uJ:aM c.uJ
 bh:aM c.bh
 chunk:aM c.chunk
 buffer:aM c.buffer
 de:aM c.de
 every:aM c.every
 start:aM c.start
def Xc:kr aS where
 k:=2
 rep:=λh D i cs=>∃n tn b P a c,cs=[.slice n tn b,.slice P a c]/\bt h D i n tn P a
 keep:=λ⟨n,tn,b,P,a,c,d,e⟩ j f=>⟨n,tn,b,P,a,c,d,e.keep j f⟩
 mono:=λ⟨n,tn,b,P,a,c,d,e⟩ f=>⟨n,tn,b,P,a,c,d,e.mono f⟩
 len:=λ⟨n,tn,b,P,a,c,d,_⟩=>by rw[d];rfl
 one:=λ⟨n,tn,b,P,a,c,d,_⟩ k g=>by rw[d]at g;simp at g;rcases g with rfl|rfl<;>rfl
def YV:kr bS where
 k:=10
 rep:=λj D e cs=>∃n tn b P a c,cs=eT e n tn b P a c/\bt j D e.decl n tn P a/\Xb e
 keep:=λ⟨n,tn,b,P,a,c,d,f,g⟩ k h=>⟨n,tn,b,P,a,c,d,f.keep k h,g⟩
 mono:=λ⟨n,tn,b,P,a,c,d,f,g⟩ h=>⟨n,tn,b,P,a,c,d,f.mono h,g⟩
 len:=λ⟨n,tn,b,P,a,c,d,_,_⟩=>by rw[d];rfl
 one:=λ⟨n,tn,b,P,a,c,d,_,_⟩ l i=>by rw[d]at i;simp[eT]at i;rcases i with rfl|rfl|rfl|rfl|rfl|rfl|rfl|rfl|rfl|rfl<;>rfl
def YW:kr kY:=flat 7 iM kY.Ok (λ_=>rfl) (λP a n=>by simp[iM]at n;rcases n with rfl|rfl|rfl|rfl|rfl|rfl|rfl<;>rfl)
def LV:Reads WP jq 188:=λz f A P a cs B g C=>by
 obtain⟨h,E,_,rfl,i,j,n⟩:=DataW.trod_struct (Tryz.underlying188) g;have k:Tryz.prog.cellsOf 188=4:=kR
 have l:cs.length=4:=i.trans k;have m:Tryz.prog.cellsOf 3=1:=kR
 match cs,l with
 |[F,H,I,J],_=>
 match h,j with
 |[K,L,M,N],_=>
  have b:=n 0 _ rfl;have c:=n 1 _ rfl;have d:=n 2 _ rfl;have e:=n 3 _ rfl;simp only[m,List.drop_zero,List.drop_succ_cons,Zw,List.take_zero,List.take_nil,ZJ,ZZ]at b c d e;obtain⟨o,p,-,q⟩:=DataW.trod_int Tryz.underlying3 b;obtain⟨z1,r,-,s⟩:=DataW.trod_int Tryz.underlying3 c;obtain⟨t,u,-,v⟩:=DataW.trod_int Tryz.underlying3 d;obtain⟨w,x,-,y⟩:=DataW.trod_int Tryz.underlying3 e
  cases p;cases r;cases u;cases x
  exact⟨⟨o,z1,t,w⟩,rfl,bq q,bq s,bq v,bq y⟩
def OQ:Reads WP sF 121:=λL f M P a cs N g h=>by
 obtain⟨i,O,_,rfl,j,k,n⟩:=DataW.trod_struct (Tryz.underlying121) g;have l:Tryz.prog.cellsOf 121=4:=kR
 have m:cs.length=4:=j.trans l;have o:Tryz.prog.cellsOf 3=1:=kR
 have p:Tryz.prog.cellsOf 4=1:=kR
 have q:Tryz.prog.cellsOf 119=1:=kR
 match cs,m with
 |[Q,R,S,T],_=>
 match i,k with
 |[U,V,W,r],_=>
  have b:=n 0 _ rfl;have c:=n 1 _ rfl;have d:=n 2 _ rfl;have e:=n 3 _ rfl;simp only[o,p,q,List.drop_zero,List.drop_succ_cons,Zw,List.take_zero,List.take_nil,ZJ,ZZ]at b c d e;obtain⟨s,t,-,u⟩:=DataW.trod_int Tryz.underlying3 b;obtain⟨z1,v,-,w⟩:=DataW.trod_int Tryz.underlying3 c;obtain⟨x,y,-⟩:=DataW.trod_bool Tryz.underlying4 d;have z:mu WP 119 r.1:=by
   intro A B;refine h A ?_;have C:Tryz.prog.underlying 121=_:=Tryz.underlying121;simp only[DataW.weights,C,QY,List.map_nil,DataW.weightsEach,Q6];right;right;right;left;exact B
  obtain⟨E,F,H,I,J,-,-,K⟩:=open_row (bytes:=32) Tryz.underlying119 kR dC kR (LV) e z
  cases t;cases v;cases y;cases J
  exact⟨⟨s,z1,x,I⟩,E,F,H,rfl,K,bq u,bq w⟩
def OR:Reads WP nq 118:=λx b y n P cs z c d=>by
 obtain⟨e,A,_,rfl,f,g,h⟩:=DataW.trod_struct (Tryz.underlying118) c;have i:Tryz.prog.cellsOf 118=1:=kR
 have j:cs.length=1:=f.trans i;have k:Tryz.prog.cellsOf 116=1:=kR
 match cs,j with
 |[B],_=>
 match e,g with
 |[l],_=>
  have a:=h 0 _ rfl;simp only[k,List.drop_zero,List.drop_succ_cons,Zw,List.take_zero,List.take_nil,ZJ,ZZ]at a;have m:mu WP 116 l.1:=by
   intro o p;refine d o ?_;have q:Tryz.prog.underlying 118=_:=Tryz.underlying118;simp only[DataW.weights,q,QY,List.map_nil,DataW.weightsEach,Q6];left;exact p
  obtain⟨r,s,t,u,v,-,-,w⟩:=open_row (bytes:=48) Tryz.underlying116 kR dC kR (OQ) a m
  cases v
  exact⟨u,r,s,t,rfl,w⟩
def LW:Reads WP BX 138:=λE g F P a cs H h I=>by
 obtain⟨i,J,_,rfl,j,k,n⟩:=DataW.trod_struct (Tryz.underlying138) h;have l:Tryz.prog.cellsOf 138=5:=kR
 have m:cs.length=5:=j.trans l;have o:Tryz.prog.cellsOf 3=1:=kR
 match cs,m with
 |[K,L,M,N,O],_=>
 match i,k with
 |[Q,R,S,T,U],_=>
  have b:=n 0 _ rfl;have c:=n 1 _ rfl;have d:=n 2 _ rfl;have e:=n 3 _ rfl;have f:=n 4 _ rfl;simp only[o,List.drop_zero,List.drop_succ_cons,Zw,List.take_zero,List.take_nil,ZJ,ZZ]at b c d e f;obtain⟨p,q,-,r⟩:=DataW.trod_int Tryz.underlying3 b;obtain⟨z1,s,-,t⟩:=DataW.trod_int Tryz.underlying3 c;obtain⟨u,v,-,w⟩:=DataW.trod_int Tryz.underlying3 d;obtain⟨x,y,-,z⟩:=DataW.trod_int Tryz.underlying3 e;obtain⟨A,B,-,C⟩:=DataW.trod_int Tryz.underlying3 f
  cases q;cases s;cases v;cases y;cases B
  exact⟨⟨p,z1,u,x,A⟩,rfl,bq r,bq t,bq w,bq z,bq C⟩
def LX:Reads WP Xc 25:=λI h J b c cs K i d=>by
 obtain⟨j,L,_,rfl,k,l,e⟩:=DataW.trod_struct (Tryz.underlying25) i;have m:Tryz.prog.cellsOf 25=2:=kR
 have o:cs.length=2:=k.trans m;have p:Tryz.prog.cellsOf 22=1:=kR
 have q:Tryz.prog.cellsOf 23=1:=kR
 match cs,o with
 |[M,N],_=>
 match j,l with
 |[r,s],_=>
  have f:=e 0 _ rfl;have g:=e 1 _ rfl;simp only[p,q,List.drop_zero,List.drop_succ_cons,Zw,List.take_zero,List.take_nil,ZJ,ZZ]at f g;have t:mu WP 22 r.1:=by
   intro n P;refine d n ?_;have a:Tryz.prog.underlying 25=_:=Tryz.underlying25;simp only[DataW.weights,a,QY,List.map_nil,DataW.weightsEach,Q6];left;exact P
  obtain⟨u,v,w,x,y,-,-,z⟩:=open_row (bytes:=24) Tryz.underlying22 kR dC kR (OR) f t;have A:mu WP 23 s.1:=by
   intro n P;refine d n ?_;have a:Tryz.prog.underlying 25=_:=Tryz.underlying25;simp only[DataW.weights,a,QY,List.map_nil,DataW.weightsEach,Q6];right;left;exact P
  obtain⟨B,C,E,z1,F,-,-,H⟩:=open_row (bytes:=40) Tryz.underlying23 kR dC kR (LW) g A
  cases y;cases F
  exact⟨⟨x,z1⟩,u,v,w,B,C,E,rfl,⟨z,H⟩⟩
def OS:Reads WP YV 27:=λl a m P b cs a0 o p=>by
 obtain⟨q,n2,_,rfl,r,s,n⟩:=DataW.trod_struct (Tryz.underlying27) o;have t:Tryz.prog.cellsOf 27=10:=kR
 have u:cs.length=10:=r.trans t;have v:Tryz.prog.cellsOf 3=1:=kR
 have w:Tryz.prog.cellsOf 25=2:=kR
 match cs,u with
 |[v0,v1,v2,v3,v4,v5,v6,v7,v8,v9],_=>
 match q,s with
 |[y0,y1,y2,y3,y4,y5,y6,y7,x],_=>
  have c:=n 0 _ rfl;have d:=n 1 _ rfl;have e:=n 2 _ rfl;have f:=n 3 _ rfl;have g:=n 4 _ rfl;have h:=n 5 _ rfl;have i:=n 6 _ rfl;have j:=n 7 _ rfl;have k:=n 8 _ rfl;simp only[v,w,List.drop_zero,List.drop_succ_cons,Zw,List.take_zero,List.take_nil,ZJ,ZZ]at c d e f g h i j k;obtain⟨y,z,-,A⟩:=DataW.trod_int Tryz.underlying3 c;obtain⟨z1,B,-,C⟩:=DataW.trod_int Tryz.underlying3 d;obtain⟨E,F,-,H⟩:=DataW.trod_int Tryz.underlying3 e;obtain⟨I,J,-,K⟩:=DataW.trod_int Tryz.underlying3 f;obtain⟨L,M,-,N⟩:=DataW.trod_int Tryz.underlying3 g;obtain⟨O,Q,-,R⟩:=DataW.trod_int Tryz.underlying3 h;obtain⟨S,T,-,U⟩:=DataW.trod_int Tryz.underlying3 i;obtain⟨V,W,-,X⟩:=DataW.trod_int Tryz.underlying3 j;have Y:mu WP 25 x.1:=by
   intro Z hq;refine p Z ?_;have hu:Tryz.prog.underlying 27=_:=Tryz.underlying27;simp only[DataW.weights,hu,QY,List.map_nil,DataW.weightsEach,Q6];right;right;right;right;right;right;right;right;left;exact hq
  obtain⟨z8,r8⟩:=LX l a m P _ _ _ k Y
  cases z;cases B;cases F;cases J;cases M;cases Q;cases T;cases W
  obtain⟨ta,tn,tc,pa,pn,pc,he,hd⟩:=r8
  cases he
  exact⟨⟨y,z1,E,I,L,O,S,V,z8⟩,ta,tn,tc,pa,pn,pc,rfl,hd,bq A,bq C,bq H,bq K,bq N,bq R,bq U,bq X⟩
def OT:Reads WP YW 38:=λM i N P a cs O j Q=>by
 obtain⟨k,R,_,rfl,l,m,n⟩:=DataW.trod_struct (Tryz.underlying38) j;have o:Tryz.prog.cellsOf 38=7:=kR
 have p:cs.length=7:=l.trans o;have q:Tryz.prog.cellsOf 3=1:=kR
 match cs,p with
 |[S,T,U,V,W,X,Y],_=>
 match k,m with
 |[Z,y1,y2,y3,y4,y5,y6],_=>
  have b:=n 0 _ rfl;have c:=n 1 _ rfl;have d:=n 2 _ rfl;have e:=n 3 _ rfl;have f:=n 4 _ rfl;have g:=n 5 _ rfl;have h:=n 6 _ rfl;simp only[q,List.drop_zero,List.drop_succ_cons,Zw,List.take_zero,List.take_nil,ZJ,ZZ]at b c d e f g h;obtain⟨r,s,-,t⟩:=DataW.trod_int Tryz.underlying3 b;obtain⟨z1,u,-,v⟩:=DataW.trod_int Tryz.underlying3 c;obtain⟨w,x,-,y⟩:=DataW.trod_int Tryz.underlying3 d;obtain⟨z,A,-,B⟩:=DataW.trod_int Tryz.underlying3 e;obtain⟨C,E,-,F⟩:=DataW.trod_int Tryz.underlying3 f;obtain⟨H,I,-,w5⟩:=DataW.trod_int Tryz.underlying3 g;obtain⟨J,K,-,L⟩:=DataW.trod_int Tryz.underlying3 h
  cases s;cases u;cases x;cases A;cases E;cases I;cases K
  exact⟨⟨r,z1,w,z,C,H,J⟩,rfl,bq t,bq v,bq y,bq B,bq F,bq L⟩
end
section
open Go.aq
def Xd:kr (bS×List fP) where
 k:=11
 rep:=λo D i cs=>∃n tn d P a e b c f,cs=ll i.1 n tn d P a e b c f/\bt o D i.1.decl n tn P a/\Xb i.1/\Row Nb 80 o D b c i.2
 keep:=λ⟨n,tn,d,P,a,e,b,c,f,g,j,k,l⟩ p h=>⟨n,tn,d,P,a,e,b,c,f,g,j.keep p h,k,l.keep p h⟩
 mono:=λ⟨n,tn,d,P,a,e,b,c,f,g,j,k,l⟩ h=>⟨n,tn,d,P,a,e,b,c,f,g,j.mono h,k,l.mono h⟩
 len:=λ⟨n,tn,d,P,a,e,b,c,f,g,_⟩=>by rw[g];rfl
 one:=λ⟨n,tn,d,P,a,e,b,c,f,g,_⟩ q m=>by rw[g]at m;simp[ll,eT]at m;rcases m with rfl|rfl|rfl|rfl|rfl|rfl|rfl|rfl|rfl|rfl|rfl<;>rfl
def LY:Reads WP Nb 40:=λh a i n b cs L j k=>by
 obtain⟨l,M,_,rfl,m,o,P⟩:=DataW.trod_struct (Tryz.underlying40) j;have p:Tryz.prog.cellsOf 40=10:=kR
 have q:cs.length=10:=m.trans p;have r:Tryz.prog.cellsOf 3=1:=kR
 have s:Tryz.prog.cellsOf 38=7:=kR
 match cs,q with
 |[N,O,Q,R,S,T,U,V,W,X],_=>
 match l,o with
 |[Y,Z,y2,t],_=>
  have c:=P 0 _ rfl;have d:=P 1 _ rfl;have e:=P 2 _ rfl;have f:=P 3 _ rfl;simp only[r,s,List.drop_zero,List.drop_succ_cons,Zw,List.take_zero,List.take_nil,ZJ,ZZ]at c d e f;obtain⟨u,v,-,w⟩:=DataW.trod_int Tryz.underlying3 c;obtain⟨z1,x,-,y⟩:=DataW.trod_int Tryz.underlying3 d;obtain⟨z,A,-,B⟩:=DataW.trod_int Tryz.underlying3 e;have C:mu WP 38 t.1:=by
   intro E F;refine k E ?_;have H:Tryz.prog.underlying 40=_:=Tryz.underlying40;simp only[DataW.weights,H,QY,List.map_nil,DataW.weightsEach,Q6];right;right;right;left;exact F
  obtain⟨I,J⟩:=OT h a i n _ _ _ f C
  cases v;cases x;cases A
  obtain⟨g,K⟩:=J;simp only[iM,List.cons.injEq,and_true]at g;obtain⟨rfl,rfl,rfl,rfl,rfl,rfl,rfl⟩:=g;exact⟨⟨u,z1,z,I⟩,rfl,bq w,bq y,bq B,K⟩
def Lb:Reads WP Xd 30:=λj P k n d cs O l e=>by
 obtain⟨m,Q,_,rfl,o,p,f⟩:=DataW.trod_struct (Tryz.underlying30) l;have q:Tryz.prog.cellsOf 30=11:=kR
 have r:cs.length=11:=o.trans q;have s:Tryz.prog.cellsOf 27=10:=kR
 have t:Tryz.prog.cellsOf 28=1:=kR
 match cs,r with
 |[R,S,T,U,V,W,X,Y,Z,v9,a0],_=>
 match m,p with
 |[u,v],_=>
  have g:=f 0 _ rfl;have h:=f 1 _ rfl;simp only[s,t,List.drop_zero,List.drop_succ_cons,Zw,List.take_zero,List.take_nil,ZJ,ZZ]at g h;have w:mu WP 27 u.1:=by
   intro a b;refine e a ?_;have c:Tryz.prog.underlying 30=_:=Tryz.underlying30;simp only[DataW.weights,c,QY,List.map_nil,DataW.weightsEach,Q6];left;exact b
  obtain⟨x,y⟩:=OS j P k n _ _ _ g w;have z:mu WP 28 v.1:=by
   intro a b;refine e a ?_;have c:Tryz.prog.underlying 30=_:=Tryz.underlying30;simp only[DataW.weights,c,QY,List.map_nil,DataW.weightsEach,Q6];right;left;exact b
  obtain⟨A,B,C,z1,E,-,-,F⟩:=open_row (bytes:=80) Tryz.underlying28 kR dC kR (LY) h z
  cases E
  obtain⟨H,tn,I,J,K,L,i,M,N⟩:=y;simp only[eT,List.cons.injEq,and_true]at i;obtain⟨rfl,rfl,rfl,rfl,rfl,rfl,rfl,rfl,rfl,rfl⟩:=i;exact⟨(x,z1),H,tn,I,J,K,L,A,B,C,rfl,M,N,F⟩

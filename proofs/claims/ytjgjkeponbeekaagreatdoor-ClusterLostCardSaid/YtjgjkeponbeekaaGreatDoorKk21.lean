import Derived.Test.YtjgjkeponbeekaaGreatDoorKk19
import Derived.Test.YtjgjkeponbeekaaGreatDoorYkQue
set_option maxHeartbeats 4000000
set_option linter.all false
set_option maxRecDepth 100000
open Go.IntKind renaming wrap→ZG
namespace Go.Proofs.YtjgjkeponbeekaaGreatDoor
open Go.aw
def Kc:aS:=⟨[[⟨1,1,true,[]⟩,⟨2,3,false,[]⟩,⟨3,2,false,[]⟩,⟨4,2,false,[⟨0,1,0,2⟩,⟨1,0,-1,0⟩,⟨0,2,-1,0⟩]⟩,⟨2,2,false,[]⟩,⟨1,1,false,[]⟩]],[⟨0,0,1,0,2⟩,⟨0,2,2,0,1⟩,⟨0,5,3,4,4⟩]⟩
def gG(n:Int):bR:=⟨n,131072,400,3,20,5,4,0,Kc⟩
variable{m:Array Value}{K:Bool}{w:ByteArray}{A:ZT}{R e q:Int}{a6:List PanicEntry->ZU}{u:List UInt8}{H:List ah}{a5:List bY}{d9:List bk}{F a c c3 i r:Nat}{f:ZN}{E:Nat×Nat}{d x:WP}{j:Type}{g:TypeId}{M:Value->Prop}{o:ZR}{b:World}{g4:World->(ZN)->ey->Prop}{h4:World->ZU}{Q:aS}{N l:ah}{B:au}{d2:bf}{d8:bk}{c6:lb}
def Row.Av{c:ky j}{bytes n:Nat}{D:ZN}(d:b.heap[n]? =some (.cells m g E)){xs:List j}(k:bV c b D xs m.toList)(q:0<c.k)(P:xs.length*bytes<=aT):Row c bytes b (λa=>a=n\/D a) (ZM n) xs.length xs:=
 ⟨rfl,P,λr s l=>by
  obtain⟨e,o,f⟩:=k.at l;have t:=c.len f;refine⟨n,0,e,rfl,aA d,.inl rfl,λh p=>?_,c.mono f λa P=>.inr P⟩;have i:=o h p;rw[Qq (show h<e.length by omega)]at i⊢;rw[Xz];exact ae d (by simpa using i)⟩
def i10(n:(decide (-1000000<=e)&&decide (e<=1000000))=true):aM e:=by
 simp only[QK,Zk]at n;unfold aM;omega
section
variable {w w' w0:World}
def MC:PP 60 #[] w (Ok λu w'=>∃m tn v o p x G,u= .agg #[.slice m tn v,.slice o p x]/\bt w' G Kc m tn o p/\(∀n,G n->w.heap.size<=n/\n<w'.heap.size)/\ai w w'):=by
 refine Gn (PA.mk λb y V z=>PA.mk λd A W B=>PA.mk λf q X C=>PA.mk λg k Y E=>PA.mk λr h Z F=>?_);have s:=((A.then q).then k).then h;refine PS.mk (s.get z id) sM λw6 H s6 I=>PS.mk I sM λc J s7 t=>⟨_,_,_,_,_,_,ae t rfl,ae t rfl,?_⟩
 have e:aj (λn=>n=w.heap.size) r c:=H.then J;have K:=e.get (h.get (k.get (q.get B id) id) id) (λP=>by have P:b.heap.size=w.heap.size:=P;omega);have L:=e.get (h.get (k.get C id) id) (λP=>by have P:d.heap.size=w.heap.size:=P;omega);have M:=e.get (h.get E id) (λP=>by have P:f.heap.size=w.heap.size:=P;omega);have N:=e.get F (λP=>by have P:g.heap.size=w.heap.size:=P;omega);have O:Row jr 32 c (λn=>n=b.heap.size\/False) (ZM b.heap.size) 3 [⟨0,1,0,2⟩,⟨1,0,-1,0⟩,⟨0,2,-1,0⟩]:=
  Row.Av (c:=jr) (xs:=[⟨0,1,0,2⟩,⟨1,0,-1,0⟩,⟨0,2,-1,0⟩]) (D:=λ_=>False) K ⟨_,_,rfl,⟨rfl,i10 rfl,i10 rfl,i10 rfl,i10 rfl⟩,_,_,rfl,⟨rfl,i10 rfl,i10 rfl,i10 rfl,i10 rfl⟩,_,_,rfl,⟨rfl,i10 rfl,i10 rfl,i10 rfl,i10 rfl⟩,rfl⟩ dC dC
 have Q:Row sG 48 c (λn=>n=d.heap.size\/n=b.heap.size\/False) (ZM d.heap.size) 6 [⟨1,1,true,[]⟩,⟨2,3,false,[]⟩,⟨3,2,false,[]⟩,⟨4,2,false,[⟨0,1,0,2⟩,⟨1,0,-1,0⟩,⟨0,2,-1,0⟩]⟩,⟨2,2,false,[]⟩,⟨1,1,false,[]⟩]:=by
  have no:∀(i j:Int) (l:Bool),aM i->aM j->sG.rep c (λn=>n=b.heap.size\/False) ⟨i,j,l,[]⟩ [ZH i,ZH j,.bool l,.slice none 0 0]:=λi j l R S=>⟨none,0,0,rfl,dx _ _,R,S⟩
  exact Row.Av (c:=sG) (xs:=[⟨1,1,true,[]⟩,⟨2,3,false,[]⟩,⟨3,2,false,[]⟩,⟨4,2,false,[⟨0,1,0,2⟩,⟨1,0,-1,0⟩,⟨0,2,-1,0⟩]⟩,⟨2,2,false,[]⟩,⟨1,1,false,[]⟩]) (D:=λn=>n=b.heap.size\/False) L ⟨_,_,rfl,no 1 1 true (i10 rfl) (i10 rfl),_,_,rfl,no 2 3 false (i10 rfl) (i10 rfl),_,_,rfl,no 3 2 false (i10 rfl) (i10 rfl),_,_,rfl,⟨_,_,_,rfl,O,i10 rfl,i10 rfl⟩,_,_,rfl,no 2 2 false (i10 rfl) (i10 rfl),_,_,rfl,no 1 1 false (i10 rfl) (i10 rfl),rfl⟩ dC dC
 have T:Row BO 40 c (λn=>n=f.heap.size\/False) (ZM f.heap.size) 3 Kc.projs:=
  Row.Av (c:=BO) (xs:=[⟨0,0,1,0,2⟩,⟨0,2,2,0,1⟩,⟨0,5,3,4,4⟩]) (D:=λ_=>False) M ⟨_,_,rfl,⟨rfl,i10 rfl,i10 rfl,i10 rfl,i10 rfl,i10 rfl⟩,_,_,rfl,⟨rfl,i10 rfl,i10 rfl,i10 rfl,i10 rfl,i10 rfl⟩,_,_,rfl,⟨rfl,i10 rfl,i10 rfl,i10 rfl,i10 rfl,i10 rfl⟩,rfl⟩ dC dC
 have U:Row nB 24 c (λn=>n=g.heap.size\/n=d.heap.size\/n=b.heap.size\/False) (ZM g.heap.size) 1 Kc.types:=
  Row.Av (c:=nB) (xs:=[[⟨1,1,true,[]⟩,⟨2,3,false,[]⟩,⟨3,2,false,[]⟩,⟨4,2,false,[⟨0,1,0,2⟩,⟨1,0,-1,0⟩,⟨0,2,-1,0⟩]⟩,⟨2,2,false,[]⟩,⟨1,1,false,[]⟩]]) (D:=λn=>n=d.heap.size\/n=b.heap.size\/False) N ⟨_,_,rfl,⟨_,_,_,rfl,Q⟩,rfl⟩ dC dC
 refine Ok.mk ⟨_,_,_,_,_,_,λn=>(n=g.heap.size\/n=d.heap.size\/n=b.heap.size\/False)\/n=f.heap.size\/False,rfl,⟨U.mono λn a=>.inl a,T.mono λn a=>.inr a⟩,λn a=>?_,?_⟩
 ·have z7:c.heap.size=r.heap.size:=oM
  rcases a with(rfl|rfl|rfl|a)|rfl|a<;>first|omega|exact a.elim
 ·exact(y.then s).new e λn a=>.inr (by have a:n=w.heap.size:=a;omega)
def Kd:PP 24 #[ZH e] w (Ok λk w'=>∃P tn d a b f G,k=wZ (gG e) P tn d a b f/\bt w' G Kc P tn a b/\(∀n,G n->w.heap.size<=n/\n<w'.heap.size)/\ai w w'):=by
 refine Dp (PA.mk λq l r m=>PC.ok MC ?_);rintro _ s ⟨P,tn,d,a,b,f,G,rfl,o,g,h⟩;refine⟨_,_,_,_,_,_,rfl,aC (Ie (gG e) P tn d a b f) (h.get m id) rfl λt i u p=>ar (Ie (gG e) P tn d a b f) p (Ok.mk ⟨P,tn,d,a,b,f,G,rfl,o.keep i λn c j=>by have j:n=w.heap.size:=j;have:=g n c;omega,λn c=>by have:=g n c;omega,(l.then h).new i λn c=>.inr (by have c:n=w.heap.size:=c;omega)⟩)⟩
end
section
variable {w w' w0:World} {p q:Nat} {F G D E:ZN} {c e:bR} {self other:Int} {X Y:bk}
def KQ(c:bR)(self:Int):(cA c self).2.gE.asked=[]:=by
 have n:(BX c).2.gE.asked=[]:=by unfold BX;rw[yl]
 unfold cA;split
 ·exact n
 split<;>exact n
def bU.cl(n:bU w p F c self X):X.S.Cl/\X.S.n=c.aD.toNat:=by
 obtain⟨b,d,P,a⟩:=n;exact(a.at' 3).2
def bU.len(a:bU w p F c self X):X.S.l.length<=20000000:=by
 obtain⟨f,b,n,d⟩:=a;have e:c_ w b.bp (λP=>F P/\n P=4) c.decl c.every.toNat X.S.l:=d.at' 4;exact e.1.2.2.2
def bU.Ze(b:bU w p F c self X):X.D.Ok:=by
 obtain⟨f,P,n,d⟩:=b;obtain⟨Fd,e,-⟩:=(show DL w (λa=>F a/\n a=2) P.dp P.lp X.D X.log from d.at' 2)
 exact e.ok
end
section
variable {w w' w0 w1 w2 wb:World} {p i k g:Nat} {F F1 F' G G' T D:ZN} {cls cls':Nat->Nat} {h:Kz} {c:bR} {X:ey} {s:fS} {x:iF} {v:Value} {r:iF×ey} {now:Int} {rs:List (Nat×bk)} {ef:List bY} {y:Nat×bk} {R R':bk} {aD:List bk}
def kC.base(b:kC w1 f x v w2)(r:w.heap.size<=w1.heap.size):kC w f x v w2:=by
 obtain⟨c,d,e,g,h,i,j,k,l,G,m,o,p,q,n⟩:=b;exact⟨c,d,e,g,h,i,j,k,l,G,m,o,p,q,λP a=>⟨by have:=(n P a).1;omega,(n P a).2⟩⟩
def kC.at'(b:kC w f x v w2):fU w x v w2:=by
 obtain⟨c,d,e,g,h,i,j,k,l,G,m,o,p,q,n⟩:=b;exact⟨c,d,e,g,h,i,j,k,l,G,m,o,p,q,λP a=>⟨(n P a).1,(n P a).2.1⟩⟩
def kC.new(b:fU w x v w2)(c:∀n,f n->n<w.heap.size):kC w f x v w2:=by
 obtain⟨d,e,g,h,i,j,k,l,m,G,o,p,q,r,P⟩:=b;exact⟨d,e,g,h,i,j,k,l,m,G,o,p,q,r,λn a=>⟨(P n a).1,(P n a).2,λs=>by have:=c n s;have:=P n a;omega⟩⟩
def AV{n:ky j}{bytes:Nat}(h:Row n bytes w D d a []):Row n bytes w (λ_=>False) d a []:=by
 have:=h.len;simp at this;subst this;exact⟨rfl,by unfold aT;omega,λi y P=>by simp at P⟩
def kC.flat(e:fU w x v w2)(n:x.st.cells=[])(P:x.KC=[])(a:x.rows=[]):kC w f x v w2:=by
 obtain⟨g,h,i,j,k,l,m,o,p,G,q,b,c,d,s⟩:=e;rw[n]at b;rw[P]at c;rw[a]at d;exact⟨g,h,i,j,k,l,m,o,p,λ_=>False,q,by rw[n];exact AV b,by rw[P];exact AV c,by rw[a];exact AV d,λt r=>r.elim⟩
def Vr(s:kC wb f x v w1)(t:w1.heap[g]? =some (.cells m 53 (0,0)))(u:8=m.size)(E:g<wb.heap.size)(w:∀w2,aj (·=g) w1 w2->kC wb f x v w2->o v w2):
  uX (ej ZP 53) λy=>v=y/\oG ZP 53 (ZL g) y w1 λw2=>jZ ZP 53 (ZL g) w2 λr=>Ok o (.returned r) w2:=by
 obtain⟨a,b,c,d,e,h,i,j,k,G,rfl,z,A,B,l⟩:=s;have q:∀n,G n->¬n=g:=λn P F=>by have:=l n P;omega
 exact cx (MM x a b c d e h i j k) ⟨rfl,aC (iO x a b c d e h i j k) t u λw2 p H C=>ar (iO x a b c d e h i j k) C (Ok.mk (w w2 p ⟨a,b,c,d,e,h,i,j,k,G,rfl,z.keep p q,A.keep p q,B.keep p q,λn P=>⟨(l n P).1,by have:=(l n P).2.1;omega,(l n P).2.2⟩⟩))⟩
def Tj(i:QB g4 a)(j:ML g4 wb F1 k r v w1)(c:cu F w F1 wb)(A:a<=w.heap.size)(d:wb.heap[g]? =some (.cells m 53 (0,0)))(l:8=m.size)(B:w.heap.size<=g)(e:¬F1 g):
  uX (ej ZP 53) λy=>v=y/\oG ZP 53 (ZL g) y w1 λw2=>jZ ZP 53 (ZL g) w2 λo=>Ok (ML g4 w F k r) (.returned o) w2:=by
 obtain⟨p,q,s,t,b⟩:=j;have u:=aA d;exact Vr q (b.keep.get d e) l u λw2 f x=>⟨p,x.base c.keep.size,i _ _ _ _ _ s f (λP z n=>by have n:P=g:=n;subst n;exact(b.new P z).elim e λh=>oM) (λP n=>by have n:P=g:=n;omega),t,(c.trans b).last f λP n=>by have n:P=g:=n;omega⟩
def Vs(c:QB g4 a){no:Int}(d:g4 w1 F1 X)(e:gD k X)(f:cu F w F1 w1)(q:a<=w.heap.size)(h:w1.heap[g]? =some (.cells m 53 (0,0)))(i:8=m.size)(r:w.heap.size<=g)(j:¬F1 g):
  oG ZP 53 (ZL g) (.agg #[ZH no,ZH 0,ZH 0,ZH 0,.slice none 0 0,.slice none 0 0,.slice none 0 0,.bool false]) w1 λw2=>jZ ZP 53 (ZL g) w2 λl=>Ok (ML g4 w F k (bK no,X)) (.returned l) w2:=
 aC (iO (bK no) none 0 0 none 0 0 none 0 0) h i λw2 b s o=>ar (iO (bK no) none 0 0 none 0 0 none 0 0) o (Ok.mk ⟨F1,.flat (fU.plain rfl rfl rfl) rfl rfl rfl,c _ _ _ _ _ d b (λP p n=>by have n:P=g:=n;subst n;exact j p) (λP n=>by have n:P=g:=n;omega),e,f.last b λP n=>by have n:P=g:=n;omega⟩)
def qL(n:jj w0 wb p F1 c k r v w1)(P:cu F w F1 wb)(a:w0.heap.size<=w.heap.size)(b:wb.heap[g]? =some (.cells m 53 (0,0)))(d:8=m.size)(e:w.heap.size<=g)(f:¬F1 g):
  uX (ej ZP 53) λy=>v=y/\oG ZP 53 (ZL g) y w1 λw2=>jZ ZP 53 (ZL g) w2 λh=>Ok (jj w0 w p F c k r) (.returned h) w2:=Tj Eg n P a b d e f
def FY(n:cD w0 w1 p F1 c X)(P:gD k X)(a:cu F w F1 w1)(b:w0.heap.size<=w.heap.size)(d:w1.heap[g]? =some (.cells m 53 (0,0)))(e:8=m.size)(f:w.heap.size<=g)(h:¬F1 g):
  oG ZP 53 (ZL g) (.agg #[ZH 0,ZH 0,ZH 0,ZH 0,.slice none 0 0,.slice none 0 0,.slice none 0 0,.bool false]) w1 λw2=>jZ ZP 53 (ZL g) w2 λi=>Ok (jj w0 w p F c k (bK 0,X)) (.returned i) w2:=Vs Eg n P a b d e f h
def QC{no:Int}:PP 35 #[ZH no] w (Ok λv w'=>fU w (bK no) v w'/\ai w w'):=
 AW (PA.mk λw2 P e a=>aC (iO (bK no) none 0 0 none 0 0 none 0 0) a rfl λf b g c=>ar (iO (bK no) none 0 0 none 0 0 none 0 0) c (Ok.mk ⟨fU.plain rfl rfl rfl,P.new b λd n=>.inr (by have n:d=w.heap.size:=n;omega)⟩))
def iw{no:Int}(P:cD w0 w p F c X)(a:gD k X):PP 35 #[ZH no] w (Ok (jj w0 w p F c k (bK no,X))):=
 Calls.ok QC λv w' ⟨b,n⟩=>⟨F,.flat b rfl rfl rfl,P.af n,a,cu.of n⟩
def FZ:(fM d9 e).isSome=decide (0<=e/\e<d9.length):=by
 by_cases h:0<=e/\e<d9.length
 ·rw[Zy h];unfold fM
  rw[Zx h.1,Qq oM];rfl
 ·rw[Xv h,KD.2 oM];rfl
def cV.n(n:cV w F cls p h now c rs ef)(P:h.ps=rs.map (·.1)):h.n=rs.length:=by
 have:=n.nx.len dC;rw[P,Q8]at this;exact this
def sj(b:cD w0 w p F c X):PP 27 #[ZL p,ZH e] w (Ok λv w'=>v= .bool (fM X.aD e).isSome/\w=w'):=by
 obtain⟨h,cls,rs,a,d,f,i,j,k⟩:=b;have g:=a.n d;rw[FZ,f,Q8];refine nR (al.dec (λP=>⟨p,0,rfl,_,_,_,ae a.cell rfl,Ok.mk ⟨?_,rfl⟩⟩) (λP=>Ok.mk ⟨?_,rfl⟩))
 ·rw[g];congr 1;exact decide_eq_decide.2 ⟨λn=>⟨P,n⟩,λn=>n.2⟩
 ·congr 1;exact(Xv λn=>P n.1).symm
def cV.ptr(b:cV w F cls p h now c rs ef)(d:h.ps=rs.map (·.1))(f:rs[i]? =some y)(q:rs.length<=1000):∃n P,h.a=some ⟨n,P,none⟩/\i<h.n/\w.cell? ⟨n,P+i,none⟩=some (ZL y.1)/\F n/\cls n=0:=by
 have r:=b.n d;have s:=(Qv.1 f).1;obtain⟨n,P,g,t,j,-,k,a,e,l⟩:=(b.nx.row (bytes:=8) dC (by rw[d,Q8];unfold aT;omega)).HU (i:=i) oM;have m:g=y.1:=by rw[d,Q9,f]at a;injection a with a;exact a.symm
 obtain⟨rfl,-⟩:=l;have e:=e 0 dC;subst m;have o:=b.c0.2.2.2 n k;exact⟨n,P,j,oM,by simpa[show XF.k=1 from rfl]using e,o.1⟩
def cV.self(n:cV w F cls p h now c rs ef):F p/\cls p=0:=n.c0.1
def mT{c g:Type}{f:c->g}:∀{n:List c} {d:Nat} {a b:c},n[d]? =some a->f b=f a->(n.set d b).map f=n.map f
 |x::n,0,a,b,P,e=>by simp at P;subst P;simp[e]
 |x::n,d+1,a,b,P,e=>by simp at P;simp[mT P e]
def cD.KE(n:cV w F cls p h now c (rs.set i (y.1,R')) ef)(P:rs[i]? =some y)(a:h.ps=rs.map (·.1))(b:aD=rs.map (·.2))(d:rs.length=c.aD.toNat)(e:jY c 0)(f:Env w0 w F):cD w0 w p F c ⟨aD.set (i:Int).toNat R',ef,now⟩:=
 ⟨h,cls,_,n,by rw[a];exact(mT (f:=(·.1)) (b:=(y.1,R')) P rfl).symm,by dsimp only;rw[b,List.map_set,Qx],by rw[List.length_set];exact d,e,f⟩
def jj.rep{R':bk}(e:cV w F cls p h X.now c rs X.ef)(f:h.ps=rs.map (·.1))(g:X.aD=rs.map (·.2))(j:rs.length=c.aD.toNat)(l:jY c 0)(m:Env w0 w F)(a:rs[i]? =some y)(o:fU w x v w')(q:x.st.cells=[])(r:x.KC=[])(s:x.rows=[])(t:bU w' y.1 G' c i R')(u:cu (λb=>F b/\cls b=i+2) w G' w')(n:gD k X)(z:Fit (k+1) R'):
  jj w0 w p F c (k+1) (x,⟨X.aD.set (i:Int).toNat R',X.ef,X.now⟩) v w':=by
 obtain⟨F1,E,P,d,H,-⟩:=Ef e fE a t u;refine⟨F1,.flat o q r s,cD.KE P a f g j l (m.iE d),?_,d⟩;exact⟨λA B=>(List.mem_or_eq_of_mem_set B).elim (λP=>(n.aD A P).mono) λC=>C▸z,n.NY,by have h:=n.now;show X.now<=_;omega⟩
def HV(a:au)(n:Int)(P:bY)(b:Int):(my a n P b).length<=2:=by
 have d:∀(c:Prop) [Decidable c] (e:bY),(if c then [e]else([]:List bY)).length<=1:=λc _ e=>by split<;>simp
 unfold my
 by_cases f:P.kind≠1/\P.kind≠2
 ·rw[Zx f];simp
 rw[Zq f];have h:=d (0<(a.missing P.vec (max 1 (min b 32))).length) ⟨3,n,P.bM,[],a.missing P.vec (max 1 (min b 32))⟩;have i:=d (P.kind=1/\(mU P.vec a.vec=2\/mU P.vec a.vec=3)) ⟨2,n,P.bM,a.vec,[]⟩;dsimp only;generalize(if 0<(a.missing P.vec (max 1 (min b 32))).length then [(⟨3,n,P.bM,[],a.missing P.vec (max 1 (min b 32))⟩:bY)]else [])=j at h;generalize(if P.kind=1/\(mU P.vec a.vec=2\/mU P.vec a.vec=3)then [(⟨2,n,P.bM,a.vec,[]⟩:bY)]else [])=k at i
 by_cases g:(j++k).isEmpty=true
 ·rw[Zx g];simp
 ·rw[Zq g,QX];omega
def HW(c:bR)(n:Int)(X:bk)(P:bY):(cz c n X P).1.length<=2:=by
 unfold cz
 cases X.log with
 |none=>simp
 |some a=>
  dsimp only;split
  ·simp
  split
  ·simp
  split
  ·unfold mV
   dsimp only;split
   ·simp
   split<;>simp
  split
  ·exact HV _ _ _ _
  split<;>simp
def wX(n:cV w F cls p h now c rs ef)(P:rs[i]? =some y)(b:F a/\cls a=0):¬(F a/\cls a=i+2):=λd=>by omega
def Eh(m:cD w0 w p F c X)(o:gD k X)(hk:k<=1000)(b:Option bY){x z:WP}{A M B N:Nat}(hv:Row aP 8 w D x A (b.getD uY).vec)(b1:Row ku 96 w D z B (b.getD uY).events)(q:∀P,D P->P<w.heap.size/\¬F P):
  PP 61 #[ZL p,iP (b.getD uY) x A M z B N,.bool b.isSome] w (Ok (jj w0 w p F c (k+1) (jE c X b))):=by
 have a1:=m.aE;have C:=m.env.gr.size;refine nT (PA.mk λw1 k1 s1 O=>PA.mk λw2 E s2 H=>?_);have g:=k1.then E;have I:=m.af g;have z2:=g.size;have r:¬F w1.heap.size:=λa=>by have:=a1 _ a;omega
 cases b with
 |none=>exact al.tt rfl (PC.ok (iw I o.mono) λv w' i=>qL i (cu.of g) C H rfl oM r)
 |some n=>
  refine al.ff rfl ⟨_,ae (E.get O id) rfl,PC.ok (sj I) ?_⟩;rintro _ _ ⟨rfl,rfl⟩;refine⟨_,rfl,?_⟩;show al (!(fM X.aD n.mR).isSome) _ _
  cases J:fM X.aD n.mR with
  |none=>
   have a:jE c X (some n)=(bK 1,X):=by unfold jE;dsimp only;rw[J]
   rw[a];exact al.tt rfl (PC.ok (iw I o.mono) λv w' i=>qL i (cu.of g) C H rfl oM r)
  |some R=>
   obtain⟨d,Q,S⟩:=gX J;have a:jE c X (some n)=(bK (cz c d R n).2.1,X.put d (cz c d R n).2.2 (cz c d R n).1):=by unfold jE;dsimp only;rw[J];dsimp only;rw[Q]
   rw[a];refine al.ff rfl λT d3=>?_;have s:ai w2 T:=d3.keep;have j:=g.then s;obtain⟨h,cls,rs,e,U,K,a5,L,V⟩:=m.af j;obtain⟨a6,b8,b9⟩:=L.aD;rw[K,Q9]at S;obtain⟨y,f,rfl⟩:=Option.map_eq_some_iff.1 S;obtain⟨P,b,b2,c0,a2,c1⟩:=e.ptr U f oM;have W:=s.get (E.get O id) id;have Y:=cV.rep e f;have a7:y.2∈X.aD:=by rw[K];exact Xk.2 ⟨y,QZ f,rfl⟩
   have Z:=o.aD _ a7;have b3:=Y.waits;have b4:=L.KF;have z3:=j.size;have c2:=s.size;refine⟨p,0,rfl,_,_,_,ae e.cell rfl,_,ae W rfl,P,b,b2,by show(0:Int)<=n.mR;omega,by show n.mR<_;omega,_,by show T.cell? ⟨P,b+Int.toNat n.mR,none⟩=_;rw[Q,Qx];exact a2,ar (eU n x A M z B N) W ?_⟩;refine PC.ok (HX Y V.part (hv.af j) (λP l=>⟨by have:=(q P l).1;omega,λa=>(q P l).2 a.1⟩) (b1.af j) (λP l=>⟨by have:=(q P l).1;omega,λa=>(q P l).2 a.1⟩) (by have:=Z.evs;omega)) ?_;rintro _ w4 ⟨v1,G',rfl,t,a8,a0⟩;have a9:=Da c d y.2 n b3 b4.2;have b0:=HW c d y.2 n;generalize cz c d y.2 n=dl at t a8 a9 b0;obtain⟨oa,on,oc,a3,Do,rfl,t⟩:=t;have np:=wX e f e.self;refine⟨oa,on,oc,_,rfl,p,0,rfl,_,ae (a0.keep.get e.cell np) rfl,?_⟩;refine PC.ok (AU e f a8 a0 ⟨oa,on,oc,a3,Do,rfl,t⟩ oM) ?_;rintro _ w5 ⟨a4,F5,c3,rfl,b5,u,-⟩;have b6:¬F5 w1.heap.size:=λa=>(u.new _ a).elim r λh=>by omega
   have b7:cD w0 w5 p F5 c (X.put d dl.2.2 dl.1):=cD.KE b5 f U K a5 L (V.iE u);exact⟨a4,rfl,PC.ok (iw b7 (o.put (Z.HY a9))) λv w' i=>qL i (cu.after j u) C (u.keep.get (s.get H id) r) rfl oM b6⟩
def cV.take(P:cV w F cls p h now c rs ef)(d:aM e):PP 62 #[ZL h.q,ZH e] w (Ok λv w'=>AX w (dK ef e) v w'/\cV w' F cls p h now c rs (gC ef e)/\aj (λa=>F a/\cls a=1) w w'):=by
 refine Calls.ok (HZ P.Wl d) λv w' ⟨f,g,b⟩=>⟨f,?_,b⟩
 refine bb.same P fE b g λi G j n=>?_
 match i,j,n with
 |0,_,n=>exact n
 |k+2,_,n=>exact n
def H_(b:cD w0 w p F c X)(q:gD k X)(r:k<=1000)(t:s.Ok):
  PP 29 #[ZL p,mz s] w (Ok (jj w0 w p F c (k+1) (jE c ⟨X.aD,gC X.ef s.n,X.now⟩ (dK X.ef s.n)))):=by
 have d:=b.aE;have u:=b.env.gr.size;refine l_ (PA.mk λw1 x O y=>PA.mk λw2 e Q z=>λi A=>?_);have f:ai w2 i:=A.keep;have g:=(x.then e).then f;have R:=g.size;have S:=e.size;obtain⟨h,cls,rs,j,B,C,E,H,I⟩:=b.af g;refine⟨p,0,rfl,_,ae j.cell rfl,_,ae (f.get (e.get y id) id) rfl,PC.ok (j.take t.n) ?_⟩;rintro _ J ⟨⟨T,U,V,W,Y,Z,G,rfl,K,L,l⟩,M,m⟩;have o:cu F i F J:=⟨m.mono λP _ n=>n.1,λP n=>.inl n⟩
 refine cx (Ei _ _ _ _ _ _ _) ⟨_,rfl,PC.ok (Eh (X:=⟨X.aD,gC X.ef s.n,X.now⟩) ⟨h,cls,rs,M,B,C,E,H,I.iE o⟩ q.ef r _ K L λP n=>⟨(l P n).2,λa=>by have:=d P a;have:=l P n;omega⟩) λv w' N=>qL N (cu.after g o) u (m.get (f.get z id) λa=>by have:=d _ a.1;omega) rfl oM λa=>by have:=d _ a;omega⟩
def KG(n:cD w0 w p F c X)(m:gD k X)(o:k<=1000)(C:s.Ok):
  PP 30 #[ZL p,mz s] w (Ok (jj w0 w p F c (k+1) (jE c X (dK X.ef s.n)))):=by
 have g:=n.aE;have q:=n.env.gr.size;refine mW (PA.mk λw1 r E t=>PA.mk λw2 a H u=>λx y=>?_);have b:ai w2 x:=y.keep;have P:=(r.then a).then b;have I:=P.size;have J:=a.size;obtain⟨h,cls,rs,i,-⟩:=n.af P;refine⟨p,0,rfl,_,ae i.cell rfl,_,ae (b.get (a.get t id) id) rfl,PC.ok (yj i.Wl) ?_⟩;rintro _ K ⟨⟨L,M,N,O,Q,R,G,rfl,z,A,j⟩,d⟩;refine cx (Ei _ _ _ _ _ _ _) ⟨_,rfl,PC.ok (Eh (n.af (P.then d)) m o _ z A λe l=>⟨(j e l).2,λf=>by have:=g e f;have:=j e l;omega⟩) λv w' B=>qL B (cu.of (P.then d)) q (d.get (b.get u id) id) rfl oM λf=>by have:=g _ f;omega⟩
def QD(u:cD w0 w p F c X)(B:gD k X)(C:s.Ok):
  PP 31 #[ZL p,mz s] w (Ok (jj w0 w p F c k (bK (if(dK X.ef s.n).isSome then 0 else 14),⟨X.aD,gC X.ef s.n,X.now⟩))):=by
 have i:=u.aE;have E:=u.env.gr.size;refine oL (PA.mk λw1 O s1 Q=>PA.mk λw2 x s2 R=>λe S=>?_);have m:ai w2 e:=S.keep;have j:=(O.then x).then m;have z3:=j.size;have z2:=x.size;have b0:=m.size;obtain⟨h,cls,rs,o,T,U,V,W,Y⟩:=u.af j;have Z:=m.get (x.get Q id) id;have H:=m.get R id;have I:=o.self;have l:∀{b:World} (n:Bool),cV b F cls p h X.now c rs (gC X.ef s.n)->cu F e F b->b.heap[w1.heap.size]? =some (.cells (fT (bK 0) none 0 0 none 0 0 none 0 0).toArray 53 (0,0))->al (!n) (PC ZP 35 #[ZH 14] b (λa4 a5=>uX (ej ZP 53) λJ=>a4=J/\oG ZP 53 (ZL w1.heap.size) J a5 λK=>jZ ZP 53 (ZL w1.heap.size) K λa6=>Ok (jj w0 w p F c k (bK (if n then 0 else 14),⟨X.aD,gC X.ef s.n,X.now⟩)) (.returned a6) K) (λch a0=>Ok (jj w0 w p F c k (bK (if n then 0 else 14),⟨X.aD,gC X.ef s.n,X.now⟩)) (.panicked ch) a0))
   (oG ZP 53 (ZL w1.heap.size) (.agg #[ZH 0,ZH 0,ZH 0,ZH 0,.slice none 0 0,.slice none 0 0,.slice none 0 0,.bool false]) b λL=>jZ ZP 53 (ZL w1.heap.size) L λa7=>Ok (jj w0 w p F c k (bK (if n then 0 else 14),⟨X.aD,gC X.ef s.n,X.now⟩)) (.returned a7) L):=λ{b} n y z q=>by
  have M:cD w0 b p F c ⟨X.aD,gC X.ef s.n,X.now⟩:=⟨h,cls,rs,y,T,U,V,W,Y.iE z⟩
  cases n with
  |false=>exact al.tt rfl (PC.ok (iw M B.ef) λv w' hq=>qL hq (cu.after j z) E q rfl oM λP=>by have:=i _ P;omega)
  |true=>exact al.ff rfl (FY M B.ef (cu.after j z) E q rfl oM λP=>by have:=i _ P;omega)
 have r:∀n,w.heap.size<=n->¬(F n/\cls n=1):=λn a P=>by have:=i _ P.1;omega
 have a8:=i p I.1;refine⟨λn=>(F n/\cls n=1)\/e.heap.size<=n,p,0,rfl,λP=>P.elim (λh=>by have:=h.2;have:=I.2;omega) (λh=>Nat.lt_irrefl _ (Qk a8 (Xx j.size h))),_,ae o.cell rfl,λP=>P.elim (r _ oM) (λh=>by have h:e.heap.size<=w.heap.size:=h;omega),_,ae Z rfl,PC.ok (o.take C.n) ?_,PA.mk λt d s4 g4=>⟨ai.keep d,PC.ok (cV.take (cV.af o d) C.n) ?_⟩⟩
 ·rintro _ t ⟨⟨va,vn,vc,ea,en,ec,G,rfl,-⟩,a9,d⟩
  have z4:=d.size;refine cx (Ei _ _ _ _ _ _ _) ⟨_,rfl,d.mono λn _ a=>.inl a,PA.mk λb f s5 q=>⟨ai.keep f,aC (eU _ _ _ _ _ _ _) q rfl λN g s6 g6=>⟨g.mono λn a P=>.inr (by have P:n=t.heap.size:=P;omega),?_⟩⟩⟩;have A:ai t N:=f.new g λn a=>.inr (by have a:n=t.heap.size:=a;omega);exact l (dK X.ef s.n).isSome (cV.af a9 A) ⟨(d.mono λn _ a=>a.1).then (ai.keep A),λn a=>.inl a⟩ (A.get (d.get H (r _ oM)) id)
 ·rintro _ b ⟨⟨va,vn,vc,ea,en,ec,G,rfl,-⟩,y,f⟩
  have z5:=f.size;refine cx (Ei _ _ _ _ _ _ _) ⟨_,rfl,f.mono λn _ a=>.inl a,aC (eU _ _ _ _ _ _ _) (f.get g4 (r _ oM)) rfl λN g s6 g6=>⟨g.mono λn a P=>.inr (by have P:n=e.heap.size:=P;omega),?_⟩⟩;refine l (dK X.ef s.n).isSome (bb.keep y fE g λn a P=>by have P:n=e.heap.size:=P;have:=i _ a;omega) ⟨?_,λn a=>.inl a⟩ (g.get (f.get (d.get H id) (r _ oM)) λP=>by have P:w1.heap.size=e.heap.size:=P;omega);exact((ai.keep d).then (f.mono λn _ a=>a.1)).new g λn P=>.inr (by have P:n=e.heap.size:=P;omega)
end
section
variable {w w' w0 w1 w2 wb:World} {p i k g:Nat} {F F1 F' G G' T D:ZN} {cls cls':Nat->Nat} {h:Kz} {c:bR} {X:ey} {s:fS} {x:iF} {v:Value} {r:iF×ey} {now:Int} {rs:List (Nat×bk)} {ef:List bY} {y:Nat×bk} {R R':bk} {aD:List bk}
def QE(c:bR)(n:Int)(X:bk)(P now:Int):(fq c n X P now).1.length<=1:=by
 unfold fq;split<;>simp
def KH(j:cD w0 w p F c X)(b:fM X.aD i=some R):∃h cls rs y,cV w F cls p h X.now c rs X.ef/\h.ps=rs.map (·.1)/\X.aD=rs.map (·.2)/\rs.length=c.aD.toNat/\jY c 0/\Env w0 w F/\rs[i]? =some y/\y.2=R/\(∃n d,h.a=some ⟨n,d,none⟩/\i<h.n/\w.cell? ⟨n,d+i,none⟩=some (ZL y.1)/\F n/\cls n=0)/\R∈X.aD:=by
 obtain⟨h,cls,rs,e,f,P,k,g,l⟩:=j;obtain⟨m,o,q⟩:=g.aD;rw[wY,P,Q9]at b;obtain⟨y,a,rfl⟩:=Option.map_eq_some_iff.1 b;exact⟨h,cls,rs,y,e,f,P,k,g,l,a,rfl,e.ptr f a oM,by rw[P];exact Xk.2 ⟨y,QZ a,rfl⟩⟩
def QF(b:cD w0 w p F c X)(t:gD k X)(Q:s.Ok)(u:fM X.aD s.n=some R):
  PP 33 #[ZL p,mz s] w (Ok (jj w0 w p F c (k+1) (if(fM X.aD s.m).isNone\/s.m=s.n then(bK 1,X)else(bK 0,X.put s.n (fq c s.n R s.m X.now).2 (fq c s.n R s.m X.now).1)))):=by
 have S:=b.aE;have C:=b.env.gr.size;refine oN (PA.mk λw1 T s1 U=>PA.mk λw2 E s2 H=>?_);have d:=T.then E;have z2:=d.size;have x:∀n,w.heap.size<=n->¬F n:=λn f a=>by have:=S _ a;omega
 have g:=E.get U id;have no:∀{r},r=(bK 1,X)->PC ZP 35 #[ZH 1] w2 (λv w'=>uX (ej ZP 53) λy=>v=y/\oG ZP 53 (ZL w1.heap.size) y w' λw2=>jZ ZP 53 (ZL w1.heap.size) w2 λV=>Ok (jj w0 w p F c (k+1) r) (.returned V) w2) (λW w'=>Ok (jj w0 w p F c (k+1) r) (.panicked W) w'):=λa=>by
  rw[a];exact PC.ok (iw (b.af d) t.mono) λv w' Y=>qL Y (cu.of d) C H rfl oM (x _ oM)
 refine⟨_,ae g rfl,PC.ok (sj (b.af d)) ?_⟩;rintro _ _ ⟨rfl,rfl⟩;refine⟨_,rfl,al.mk (λe=>no (Zx (.inl (by simpa using e)))) (λe=>⟨_,ae g rfl,_,ae g rfl,al.eN (λz=>no (Zx (.inr z))) (λz=>?_)⟩)⟩;rw[Zq (by
         rintro(i|i);·simp at e;rw[Option.isNone_iff_eq_none]at i;rw[i]at e;simp at e
         ·exact z i)]
 intro Z d3;have j:ai w2 Z:=d3.keep;have A:=d.then j;have z3:=A.size;have b3:=j.size;have I:=j.get g id;obtain⟨B,l,-⟩:=gX u;rw[l]at u⊢;obtain⟨h,cls,rs,y,P,a4,hX,a0,a5,he,m,rfl,⟨n,a1,a6,b4,a2,b5⟩,a3⟩:=KH (b.af A) u;have hr:=cV.rep P m;have np:=wX P m P.self;have a7:=P.self;refine⟨λn=>F n/\cls n≠0,p,0,rfl,λa=>a.2 a7.2,_,ae P.cell rfl,p,0,rfl,_,_,_,ae P.cell rfl,_,ae I rfl,n,a1,a6,by rw[l];omega,by rw[l];omega,_,by rw[l,Qx];exact a2,_,ae I rfl,p,0,rfl,_,ae P.cell rfl,PC.ok (F_ hr Q.m) ?_⟩;rintro _ w4 ⟨G',o,J,K⟩;have L:=KI c B y.2 s.m X.now;have a8:=QE c B y.2 s.m X.now;generalize fq c B y.2 s.m X.now=dl at o J L a8;obtain⟨M,N,O,a9,Do,rfl,o⟩:=o;refine⟨M,N,O,rfl,K.keep.mono λn _ f=>⟨f.1,oM⟩,PC.ok (AU P m J K ⟨M,N,O,a9,Do,rfl,o⟩ oM) ?_⟩;rintro _ w5 ⟨b0,F5,b6,rfl,b1,q,b2⟩;exact⟨b0,rfl,b2.mono λn _ f=>⟨f.1,oM⟩,FY (cD.KE b1 m a4 hX a0 a5 (he.iE q)) (t.put ((t.aD _ a3).HY L)) (cu.after A q) C (q.keep.get (j.get H id) (x _ oM)) rfl oM λa=>(q.new _ a).elim (x _ oM) λh=>oM⟩
def Tk(N:cD w0 w p F c X)(J:gD k X)(hk:k<=1000)(O:s.Ok)(K:fM X.aD s.n=some R):
  PP 34 #[ZL p,mz s] w (Ok (jj w0 w p F c (k+1) ((jF c s.n R s).1,⟨X.aD.set s.n.toNat (jF c s.n R s).2,X.ef,X.now⟩))):=by
 have Q:=N.aE;have S:=N.env.gr.size;obtain⟨n,z,-⟩:=gX K;rw[z]at K⊢;refine qg (PA.mk λw1 k1 s1 g1=>PA.mk λw2 k2 s2 g2=>λe d3=>?_);have T:ai w2 e:=d3.keep;have a3:=(k1.then k2).then T;have z3:=a3.size;have z2:=k2.size;have b9:=T.size;have a4:=T.get (k2.get g1 id) id;obtain⟨h,cls,rs,y,a5,a6,hX,a1,a7,b3,U,V,⟨P,b4,b5,c0,b6,b7⟩,b1⟩:=KH (N.af a3) K;have c1:=Q p a5.self.1;have c2:=Q P b7.1;have n1:¬e.heap.size<=p:=oM
 have n2:¬e.heap.size<=w.heap.size:=oM
 have n3:¬e.heap.size<=P:=oM
 refine⟨λP=>e.heap.size<=P,p,0,rfl,n1,_,_,_,ae a5.cell rfl,n2,_,ae a4 rfl,P,b4,b5,by rw[z];omega,by rw[z];omega,n3,_,by rw[z,Qx];exact b6,n2,?_⟩;refine MN (es:=iQ s.cmd) (yk s.cmd) a4 (λn z=>by rcases n with _|_|_|_|_|_|_|n<;>first|rfl|exact Zz z (by simp[iQ])) (PA.mk λw4 k4 s4 g4=>⟨ai.keep k4,aC (yk s.cmd) g4 rfl λi k5 s5 A=>⟨k5.mono λP _ a=>by have a:P=e.heap.size:=a;omega,?_⟩⟩);have B:ai e i:=k4.new k5 λP W=>.inr (by have W:P=e.heap.size:=W;omega);have a9:=a3.then B;have z5:=a9.size;have c3:=B.size;have L:=B.get a4 id;have Y:=B.get (T.get g2 id) id;have C:¬F w1.heap.size:=λa=>by have:=Q _ a;omega
 have Z:cu F w F i:=cu.of a9;have hp:=cV.af a5 B;have E:=b3.af B;rw[<-V];rw[<-V]at b1;have j:=cV.rep hp U;have a0:=J.aD _ b1;have hl:=a0.evs;have a2:∀{x:iF} {R':bk} {v:Value} {w':World} {G':ZN},jF c n y.2 s=(x,R')->fU i x v w'->x.st.cells=[]/\x.KC=[]/\x.rows=[]->bU w' y.1 G' c n R'->cu (λP=>F P/\cls P=n+2) i G' w'->j_ y.2 R'->uX (ej ZP 53) λb=>v=b/\oG ZP 53 (ZL w1.heap.size) b w' λw2=>jZ ZP 53 (ZL w1.heap.size) w2 λb=>Ok (jj w0 w p F c (k+1) ((jF c n y.2 s).1,⟨X.aD.set (n:Int).toNat (jF c n y.2 s).2,X.ef,X.now⟩)) (.returned b) w2:=λ{x R' v w' G'} a d ⟨e1,e2,e3⟩ l b0 hg=>by
  rw[a];exact qL (jj.rep hp a6 hX a1 a7 E U d e1 e2 e3 l b0 J (a0.HY hg)) Z S Y rfl oM C
 have b2:∀{no:Int} {R':bk} {w':World} {G':ZN},jF c n y.2 s=(bK no,R')->bU w' y.1 G' c n R'->cu (λP=>F P/\cls P=n+2) i G' w'->j_ y.2 R'->PC ZP 35 #[ZH no] w' (λv w'=>uX (ej ZP 53) λb=>v=b/\oG ZP 53 (ZL w1.heap.size) b w' λw2=>jZ ZP 53 (ZL w1.heap.size) w2 λb=>Ok (jj w0 w p F c (k+1) ((jF c n y.2 s).1,⟨X.aD.set (n:Int).toNat (jF c n y.2 s).2,X.ef,X.now⟩)) (.returned b) w2) (λch w'=>Ok (jj w0 w p F c (k+1) ((jF c n y.2 s).1,⟨X.aD.set (n:Int).toNat (jF c n y.2 s).2,X.ef,X.now⟩)) (.panicked ch) w'):=λ{no R' w' G'} a l b0 hg=>by
  obtain⟨F',-,m,o,q⟩:=jj.rep (x:=bK no) (v:=.agg (fT (bK no) none 0 0 none 0 0 none 0 0).toArray) hp a6 hX a1 a7 E U (fU.plain rfl rfl rfl) rfl rfl rfl l b0 J (a0.HY hg);rw[a];exact PC.ok (iw m o) λv w2 hq=>qL hq (Z.trans q) S (q.keep.get Y C) rfl oM λa=>(q.new _ a).elim C λh=>by omega
 have a8:∀{x:iF} {v:Value} {w':World},jF c n y.2 s=(x,y.2)->fU i x v w'->ai i w'->uX (ej ZP 53) λb=>v=b/\oG ZP 53 (ZL w1.heap.size) b w' λw2=>jZ ZP 53 (ZL w1.heap.size) w2 λb=>Ok (jj w0 w p F c (k+1) ((jF c n y.2 s).1,⟨X.aD.set (n:Int).toNat (jF c n y.2 s).2,X.ef,X.now⟩)) (.returned b) w2:=λ{x v w'} a d f=>by
  rw[a];refine qL ⟨F,.new d λP W=>by have:=Q P W;omega,?_,?_,cu.of f⟩ Z S Y rfl oM C
  ·show cD w0 w' p F c ⟨X.aD.set (n:Int).toNat y.2,X.ef,X.now⟩
   rw[V,MO K];exact N.af (a9.then f)
  ·show gD (k+1) ⟨X.aD.set (n:Int).toNat y.2,X.ef,X.now⟩
   rw[V,MO K];exact J.mono
 refine⟨_,ae L rfl,al.eN (λg=>?_) (λg=>?_)⟩
 ·refine ar (yk s.cmd) A (PC.ok (Ia j E.part O.cmd oM) ?_)
  rintro _ H ⟨G',d,r,t⟩;exact a2 (by unfold jF;rw[Zx g]) d (by split<;>exact⟨rfl,rfl,rfl⟩) r t (KJ c n y.2 s.cmd)
 refine al.eN (λu=>?_) (λu=>?_)
 ·refine⟨_,ae L rfl,PC.ok (NZ j E.part O.m) ?_⟩
  rintro _ H ⟨G',rfl,r,t,b8⟩;exact⟨_,rfl,b2 (by unfold jF;rw[Zq g,Zx u]) r t ⟨.inr b8,by unfold gY;rw[yl];exact Qj _⟩⟩
 refine al.eN (λI=>?_) (λI=>?_)
 ·refine PC.ok (Ib j E.part oM) ?_
  rintro _ H ⟨G',rfl,r,t⟩;exact⟨_,rfl,b2 (by unfold jF;rw[Zq g,Zq u,Zx I]) r t (Dd c y.2)⟩
 refine al.eN (λM=>?_) (λM=>?_)
 ·refine⟨_,ae A rfl,_,ae A rfl,_,ae L rfl,PC.ok (KK j O.m) ?_⟩
  rintro _ H ⟨d,f⟩;exact a8 (by unfold jF;rw[Zq g,Zq u,Zq I,Zx M]) d f
 refine al.eN (λh4=>?_) (λh4=>?_)
 ·refine⟨_,ae A rfl,_,ae A rfl,PC.ok (Tl j) ?_⟩
  rintro _ H ⟨d,f⟩;exact a8 (by unfold jF;rw[Zq g,Zq u,Zq I,Zq M,Zx h4]) d f
 refine al.eN (λh5=>?_) (λh5=>?_)
 ·refine⟨_,ae A rfl,_,ae L rfl,PC.ok (N_ j) ?_⟩
  rintro _ H ⟨d,f⟩;exact a8 (by unfold jF;rw[Zq g,Zq u,Zq I,Zq M,Zq h4,Zx h5]) d f
 ·refine⟨_,ae L rfl,PC.ok (QG j O.m) ?_⟩
  rintro _ H ⟨G',rfl,r,t⟩;have a:jF c n y.2 s=(bK 0,{y.2 with D:=y.2.D.Gb s.m}):=by unfold jF;rw[Zq g,Zq u,Zq I,Zq M,Zq h4,Zq h5]
  obtain⟨F',-,m,o,q⟩:=jj.rep (x:=bK 0) (v:=.agg (fT (bK 0) none 0 0 none 0 0 none 0 0).toArray) hp a6 hX a1 a7 E U (fU.plain rfl rfl rfl) rfl rfl rfl r t J (a0.HY ⟨.inl bn,by dsimp only;omega⟩);rw[a];exact⟨rfl,FY m o (Z.trans q) S (q.keep.get Y C) rfl oM λa=>(q.new _ a).elim C λh=>oM⟩
def QH(q:cD w0 w p F c X)(r:gD k X)(hk:k<=999):
  PP 32 #[ZL p,mz s] w (Ok (jj w0 w p F c (k+1) (bK 0,Ic X))):=by
 have a6:=q.aE;have b7:=q.env.gr.size;refine oO (PA.mk λw1 k1 s1 g1=>PA.mk λw2 k2 s2 g2=>?_);have t:=k1.then k2;have z2:=t.size;obtain⟨h,cls,rs,j,C,u,c6,E,H⟩:=q.af t;obtain⟨a4,a7,a8⟩:=E.aD;have I:∀P,w.heap.size<=P->¬F P:=λP f d=>by have:=a6 _ d;omega
 have c8:=r.NY;have c9:=r.now;have b8:ZG .i64 (X.now+1)=X.now+1:=wrap_i64 bc;have d0:=j.self;refine⟨p,0,rfl,_,ae j.cell rfl,p,0,rfl,PS.mk j.cell sM λw3 k3 s3 J=>?_⟩;rw[b8]at J;obtain⟨l,K⟩:=cV.Yc (now':=X.now+1) j k3 (by rw[J];rfl);have c7:=l.nx;have hn:=cV.n l C;refine⟨p,0,rfl,_,_,_,ae l.cell rfl,λL a0 w'=>∃(n:Nat) (F1:ZN) (m:Nat->Nat) (a:List (Nat×bk)) (g:List bY),a0=n/\n<=h.n/\L=h.n-n/\cV w' F1 m p h (X.now+1) c a g/\h.ps=a.map (·.1)/\a.length=rs.length/\
  (List.range n).foldl mB ⟨X.aD,X.ef,X.now+1⟩=⟨a.map (·.2),g,X.now+1⟩/\cu F w3 F1 w'/\gD (k+1) ⟨a.map (·.2),g,X.now+1⟩,
  ⟨_,0,F,cls,rs,X.ef,rfl,Qj _,rfl,l,C,rfl,by rw[u];rfl,cu.refl _ _,?_⟩,?_⟩
 ·rw[<-u];exact⟨λR hR=>(r.aD R hR).mono,by show 0<=X.now+1;omega,by show X.now+1<=_;omega⟩
 rintro L _ _ w4 ⟨n,F1,m,a,g,rfl,hj,rfl,v,x,b9,M,N,z⟩;have z3:=K.keep.size;have i:=K.trans N;have c1:∀P,w.heap.size<=P->P<w2.heap.size->¬F1 P:=λP f d1 d=>(i.new P d).elim (I P f) λh=>by omega
 refine al.dec (λd2=>?_) (λd3=>?_)
 ·have b:a[n]? =some a[n]:=Qq oM
  generalize a[n]=y at b;obtain⟨P,a1,c2,d4,a5,d6⟩:=cV.ptr v x b oM;refine⟨P,a1,c2,oM,oM,_,by rw[Qx];exact a5,λO d5=>?_⟩;have A:ai w4 O:=d5.keep;have e:=cV.af v A;have hr:=cV.rep e b;have d7:Env w0 O F1:=(H.iE i).af A;have np:=wX e b e.self;have c3:=e.self;have b1:y.2∈a.map (·.2):=Xk.2 ⟨y,QZ b,rfl⟩;have B:=z.aD _ b1;refine⟨λP=>F1 P/\m P≠0,p,0,rfl,λd=>d.2 c3.2,_,ae e.cell rfl,p,0,rfl,_,ae e.cell rfl,PC.ok (QI hr (by have:=B.asked;omega)) ?_⟩;rintro _ w6 ⟨G',o,Q,S⟩;have T:=B.tick n (X.now+1);have b4:(pP n y.2 (X.now+1)).1.length<=1001:=by unfold pP;dsimp only;rw[Q8];have:=MP y.2.gE (X.now+1);have:=B.asked;omega
  have U:(List.range (n+1)).foldl mB ⟨X.aD,X.ef,X.now+1⟩=(⟨a.map (·.2),g,X.now+1⟩:ey).put n (pP n y.2 (X.now+1)).2 (pP n y.2 (X.now+1)).1:=by
   rw[List.range_succ,List.foldl_append,M];show mB _ n=_;unfold mB;dsimp only;rw[Q9,b];rfl
  generalize pP n y.2 (X.now+1)=V at o Q T b4 U;obtain⟨W,Y,Z,a2,Do,rfl,o⟩:=o;refine⟨W,Y,Z,rfl,S.keep.mono λP _ f=>⟨f.1,oM⟩,PC.ok (AU e b Q S ⟨W,Y,Z,a2,Do,rfl,o⟩ oM) ?_⟩;rintro _ w7 ⟨a3,F7,b5,rfl,c4,b6,c5⟩;refine⟨a3,rfl,c5.mono λP _ f=>⟨f.1,oM⟩,_,oM,n+1,F7,b5,_,_,an oM,oM,rfl,c4,by rw[x];exact(mT (f:=(·.1)) (b:=(y.1,V.2)) b rfl).symm,by rw[List.length_set];exact b9,?_,N.trans (cu.after A b6),?_⟩
  ·rw[U,List.map_set];rfl
  ·have:=z.stay (j:=n) (ms:=V.1) T
   unfold ey.put at this;dsimp only at this;rw[Qx]at this;rw[List.map_set];exact this
 ·have d:Ic X=⟨a.map (·.2),g,X.now+1⟩:=by
   unfold Ic;rw[<-M,u,Q8,show rs.length=n by omega]
  rw[d];exact FY ⟨h,m,a,v,x,rfl,oM,E,H.iE i⟩ z (cu.after t i) b7 (i.keep.get g2 (I _ oM)) rfl oM (c1 _ oM oM)
def KL(n:cD w0 w p F c X)(b:∀R∈X.aD,R.S.l.length<=20000000):PP 18 #[ZL p,ZH e] w (Ok λv w'=>(fM X.aD e=none/\v= .slice none 0 0/\w=w')\/∃R,fM X.aD e=some R/\qC ku 63 w R.S.l v w'):=by
 refine mX (PC.ok (sj n) ?_);rintro _ _ ⟨rfl,rfl⟩;refine⟨_,rfl,?_⟩
 cases P:fM X.aD e with
 |none=>exact al.tt rfl (Ok.mk (.inl ⟨rfl,rfl,rfl⟩))
 |some R=>
  obtain⟨q,rfl,-⟩:=gX P;obtain⟨h,cls,rs,y,a,r,s,t,u,x,d,rfl,⟨f,g,i,z,j,A⟩,k⟩:=KH n P;refine al.ff rfl ⟨p,0,rfl,_,_,_,ae a.cell rfl,f,g,i,oM,oM,_,by rw[Qx];exact j,PC.ok (KM (cV.rep a d) (b _ k)) ?_⟩;rintro _ B ⟨l,e,m,G,rfl,o⟩;exact⟨_,_,_,rfl,Ok.mk (.inr ⟨_,rfl,l,e,m,G,rfl,o⟩)⟩
def AY(P:cD w0 w p F c X):PP 12 #[ZL p] w (Ok λv w'=>v= ZH (X.ef.length:Int)/\w=w'):=by
 obtain⟨h,cls,rs,n,-⟩:=P;refine mY ⟨p,0,rfl,_,ae n.cell rfl,PC.ok (KN n.Wl) ?_⟩;rintro _ _ ⟨rfl,rfl⟩;exact⟨_,rfl,Ok.mk ⟨rfl,rfl⟩⟩
def Tm(n:cD w0 w p F c X):PP 11 #[ZL p] w (Ok λv w'=>v= ZH X.now/\w=w'):=by
 obtain⟨h,cls,rs,P,-⟩:=n;exact qh ⟨p,0,rfl,_,ae P.cell rfl,Ok.mk ⟨rfl,rfl⟩⟩
end
def mC:mQ ZP 84 3 54 .nilFunc:=⟨kR,kR⟩
abbrev KO(n:Int):Nat:=if n=3 then 29 else if n=5 then 30 else if n=4 then 31 else 32
abbrev zh(n:Int):Nat:=if n=2 then 33 else 34
abbrev bound(n P:Nat):Value:=.func (.func n) #[ZL P] #[]
abbrev WA(n:Nat):List (Int×Value):=[(3,bound (KO 3) n),(5,bound (KO 5) n),(4,bound (KO 4) n),(6,bound (KO 6) n)]
abbrev UF(n:Nat):List (Int×Value):=[(2,bound (zh 2) n),(1,bound (zh 1) n),(7,bound (zh 7) n),(8,bound (zh 8) n),(9,bound (zh 9) n),(10,bound (zh 10) n),(11,bound (zh 11) n),(12,bound (zh 12) n)]
def QL(a:Nat)(n:Int):aq (WA a) n=if n=3\/n=5\/n=4\/n=6 then some (bound (KO n) a)else none:=by
 by_cases P:n=3\/n=5\/n=4\/n=6
 ·rw[Zx P];rcases P with rfl|rfl|rfl|rfl<;>rfl
 ·rw[Zq P];exact jG.2 be
def Oa(P:Nat)(n:Int):aq (UF P) n=if n=2\/n=1\/7<=n/\n<=12 then some (bound (zh n) P)else none:=by
 by_cases a:n=2\/n=1\/7<=n/\n<=12
 ·rw[Zx a]
  have:n=2\/n=1\/n=7\/n=8\/n=9\/n=10\/n=11\/n=12:=oM
  rcases this with rfl|rfl|rfl|rfl|rfl|rfl|rfl|rfl<;>rfl
 ·rw[Zq a];exact jG.2 be
def Zd(n:Int):enters ZP (KO n)=true:=by unfold KO;split;rfl;split;rfl;split<;>rfl
def YW(n:Int):enters ZP (zh n)=true:=by unfold zh;split<;>rfl
section
variable {w w' w0 w1 w2 wb:World} {p i k g:Nat} {F F1 F' G G' T D:ZN} {c:bR} {X:ey} {s:fS} {R:bk}
def Gc(r:cD w0 w p F c X)(g:gD k X)(hk:k<=999)(i:s.Ok):
  PP 13 #[ZL p,mz s] w (Ok (jj w0 w p F c (k+1) (cJ c X s))):=by
 have b2:=r.aE;have b3:=r.env.gr.size;refine qM (PA.mk λw1 k1 s1 g1=>PA.mk λw2 t s2 g2=>PA.mk λw3 k3 s3 C=>?_);have m:∀{w:World} b,b=w2.heap.size->False\/w2.heap.size<=b:=λb n=>.inr (Nat.le_of_eq n.symm);refine dy (k:=(3:Int)) mC lD (bQ.new C) λw4 E H s4=>dy (k:=(5:Int)) mC lD E λw5 I J s5=>dy (k:=(4:Int)) mC lD I λw6 K L s6=>dy (k:=(6:Int)) mC lD K λu M N s7=>PA.mk λw8 k8 s8 O=>?_;have b4:ai w2 u:=(((k3.new H λb d=>.inr oM).new J λb d=>.inr oM).new L λb d=>.inr oM).new N λb d=>.inr oM;refine dy (k:=(2:Int)) mC lD (bQ.new O) λw9 Q S s9=>dy (k:=(1:Int)) mC lD Q λb8 T U b9=>dy (k:=(7:Int)) mC lD T λc0 V W c1=>dy (k:=(8:Int)) mC lD V λc2 Y Z c3=>dy (k:=(9:Int)) mC lD Y λc4 a1 a2 c5=>dy (k:=(10:Int)) mC lD a1 λc6 a3 a4 c7=>dy (k:=(11:Int)) mC lD a3 λc8 a5 a6 c9=>dy (k:=(12:Int)) mC lD a5 λo a7 a8 d0=>?_;have a0:ai u o:=(((((((k8.new S λb d=>.inr oM).new U λb d=>.inr oM).new W λb d=>.inr oM).new Z λb d=>.inr oM).new a2 λb d=>.inr oM).new a4 λb d=>.inr oM).new a6 λb d=>.inr oM).new a8 λb d=>.inr oM;have mA:bQ o w2.heap.size (Value.int .i64) (WA p):=M.af a0;have mO:bQ o u.heap.size (Value.int .i64) (UF p):=a7;have v:=b4.then a0;have a9:=(k1.then t).then v;have j:=v.get (t.get g1 id) id;have b5:=v.get g2 id;have f:=r.af a9;have z2:=t.size;have b6:¬F w1.heap.size:=λn=>by have:=b2 _ n;omega
 have P:∀{b0:iF×ey} {e:Value} {w':World},jj w0 o p F c (k+1) b0 e w'->uX (ej ZP 53) λb1=>e=b1/\oG ZP 53 (ZL w1.heap.size) b1 w' λw2=>jZ ZP 53 (ZL w1.heap.size) w2 λb7=>Ok (jj w0 w p F c (k+1) b0) (.returned b7) w2:=λa=>qL a (cu.of a9) b3 b5 rfl oM b6
 clear E I K M Q T V Y a1 a3 a5 a7 H J L N S U W Z a2 a4 a6 a8 C O
 refine⟨_,ae j rfl,jC mC lD mA ?_⟩;rw[QL]
 by_cases x:s.kind=3\/s.kind=5\/s.kind=4\/s.kind=6
 ·rw[Zx x]
  refine⟨_,_,rfl,al.tt rfl (ar (Ky s) j ⟨_,_,_,rfl,Zd _,?_⟩)⟩;rcases x with h|h|h|h
  ·rw[h]
   have n:cJ c X s=jE c ⟨X.aD,gC X.ef s.n,X.now⟩ (dK X.ef s.n):=by unfold cJ;rw[Zx h]
   rw[n];exact PC.ok (H_ f g oM i) λe w' a=>P a
  ·rw[h]
   have n:cJ c X s=jE c X (dK X.ef s.n):=by unfold cJ;rw[Zq oM,Zx h]
   rw[n];exact PC.ok (KG f g oM i) λe w' a=>P a
  ·rw[h]
   have n:cJ c X s=(bK (if(dK X.ef s.n).isSome then 0 else 14),⟨X.aD,gC X.ef s.n,X.now⟩):=by unfold cJ;rw[Zq oM,Zq oM,Zx h]
   rw[n];exact PC.ok (QD f g.mono i) λe w' a=>P a
  ·rw[h]
   have n:cJ c X s=(bK 0,Ic X):=by unfold cJ;rw[Zq oM,Zq oM,Zq oM,Zx h]
   rw[n];exact PC.ok (QH f g hk) λe w' a=>P a
 rw[Zq x];refine⟨_,_,rfl,al.ff rfl ⟨_,ae j rfl,jC mC lD mO ?_⟩⟩;rw[Oa]
 by_cases hO:s.kind=2\/s.kind=1\/7<=s.kind/\s.kind<=12
 ·rw[Zx hO]
  refine⟨_,_,rfl,al.ff rfl ⟨_,ae j rfl,PC.ok (sj f) ?_⟩⟩;rintro _ _ ⟨rfl,rfl⟩;refine⟨_,rfl,?_⟩;have e0:¬s.kind=3/\¬s.kind=5/\¬s.kind=4/\¬s.kind=6/\¬(s.kind<1\/12<s.kind):=oM
  obtain⟨y,z,m,A,B⟩:=e0
  cases l:fM X.aD s.n with
  |none=>
   have n:cJ c X s=(bK 1,X):=by unfold cJ;rw[Zq y,Zq z,Zq m,Zq A,Zq B,l]
   rw[n];exact al.tt rfl (PC.ok (iw f g.mono) λe w' a=>P a)
  |some R=>
   refine al.ff rfl (ar (Ky s) j ⟨_,_,_,rfl,YW _,?_⟩)
   by_cases q:s.kind=2
   ·have n:cJ c X s=(if(fM X.aD s.m).isNone\/s.m=s.n then(bK 1,X)else(bK 0,X.put s.n (fq c s.n R s.m X.now).2 (fq c s.n R s.m X.now).1)):=by unfold cJ;rw[Zq y,Zq z,Zq m,Zq A,Zq B,l];exact Zx q
    rw[n,q];exact PC.ok (QF f g i l) λe w' a=>P a
   ·have n:cJ c X s=((jF c s.n R s).1,⟨X.aD.set s.n.toNat (jF c s.n R s).2,X.ef,X.now⟩):=by unfold cJ;rw[Zq y,Zq z,Zq m,Zq A,Zq B,l];exact Zq q
    rw[n];have:zh s.kind=34:=Zq q
    rw[this];exact PC.ok (Tk f g oM i l) λe w' a=>P a
 ·rw[Zq hO]
  have n:cJ c X s=(bK 2,X):=by unfold cJ;rw[Zq oM,Zq oM,Zq oM,Zq oM,Zx oM]
  rw[n];exact⟨_,_,rfl,al.tt rfl (PC.ok (iw f g.mono) λe w' a=>P a)⟩
end
section
variable {w w' w0 w1 w2 wb:World} {p q i k g:Nat} {F F1 F' G G' T D:ZN} {cls:Nat->Nat} {h:Kz} {c:bR} {X:ey} {s:fS} {R:bk} {now:Int} {rs:List (Nat×bk)} {ef:List bY}
def cV.more(i:cV w F cls p h now c rs ef)(j:ai w w')(e:bU w' q G' c rs.length R)(l:∀d,G' d->w.heap.size<=d):
  ∃F' a,cV w' F' a p h now c (rs++[(q,R)]) ef/\cu F w F' w':=by
 obtain⟨m,b,o,r,-⟩:=bb.iE i fE (k:=rs.length+2) (G':=G') (C2:=js (FX p h now) (λw G=>ei w h.q G ef) c (rs++[(q,R)])) ⟨ai.keep j,λd s=>.inr (l d s)⟩ e.aE (λf n=>by
  rw[X8 (Q4 _),Nat.sub_self]at n
  injection n with n;subst n;exact e) λt G g P=>by
  match t,g,P with
  |0,_,P=>exact P
  |1,_,P=>exact P
  |k+2,g,P=>
   intro f n;refine P f ?_;rcases Nat.lt_trichotomy k rs.length with h|h|h
   ·rwa [XW h]at n
   ·omega
   ·rw[Q7 be]at n;cases n
 exact⟨m,b,o,r⟩
def QM(w0 w:World)(c:bR)(n:Value)(w':World):Prop:=ai w w'/\
 (((AZ c).1≠0/\n= .tuple #[.pointer none,ZH (AZ c).1])\/
  ((AZ c).1=0/\∃p F,n= .tuple #[ZL p,ZH 0]/\cD w0 w' p F c (AZ c).2/\(∀P,F P->w.heap.size<=P)/\gD 0 (AZ c).2))
def MQ(V:fw w0)(W:Laid w0)(C:ai w0 w){tn X E Y:Nat}(hd:bt w D c.decl d tn x E)(hD:∀n,D n->n<w.heap.size)(hs:aM c.bh)(a9:aM c.every)(b0:aM c.start):
  PP 9 #[wZ c d tn X x E Y] w (Ok (QM w0 w c)):=by
 refine Df (PA.mk λw1 Z s1 g1=>PC.ok KP ?_);rintro _ w2 ⟨q,Fq,rfl,H,b1,v⟩;have z2:=v.size;refine⟨_,rfl,PA.mk λw3 l s3 g3=>?_⟩;have c4:=(Z.then v).then l;have z3:=l.size;have z0:=C.size;have b2:=l.get (v.get g1 id) id;obtain⟨j,hB⟩:∃j:Nat,(if(if(64:Int)<c.aD then 64 else c.aD)>1 then(if(64:Int)<c.aD then 64 else c.aD)else 1)=(j:Int):=⟨(if(if(64:Int)<c.aD then 64 else c.aD)>1 then(if(64:Int)<c.aD then 64 else c.aD)else 1).toNat,by repeat' split<;>omega⟩
 have c5:(j:Int)=max 1 (min c.aD 64):=by rw[<-hB];repeat' split<;>omega
 obtain⟨m,I⟩:=bb.join (w:=w3) (C:=js (FX w2.heap.size ⟨q,none,0,0,[]⟩ 0) (λw G=>ei w q G []) c []) (G:=λa n=>match a with|0=>n=w2.heap.size|1=>Fq n|_=>False)
  (λa=>by
   match a with
   |0=>exact⟨rfl,g3,(aV.nil w3).mono (λn P=>P.elim) (λn P=>(by cases P)),λn P=>(by cases P)⟩
   |1=>exact H.af l
   |a+2=>exact λc6 J=>by simp at J)
  (λi a n b g=>by
   have hq:=H.aE n
   match i,a,b,g with
   |0,0,_,_=>rfl
   |1,1,_,_=>rfl
   |0,1,b,g=>have b:n=w2.heap.size:=b;have:=hq g;omega
   |1,0,b,g=>have g:n=w2.heap.size:=g;have:=hq b;omega)
  (λa n P=>by
   match a,P with
   |0,P=>have P:n=w2.heap.size:=P;omega
   |1,P=>have:=H.aE n P;omega)
 refine⟨_,ae b2 rfl,λa0 b3 w'=>∃(a:Nat) (h:Kz) (F:ZN) (cls:Nat->Nat) (rs:List (Nat×bk)),b3=a/\a<=j/\a0=j-a/\(a=0\/(cA c 0).1=0/\(cA c 0).2.S.l.length<=16777216)/\cV w' F cls w2.heap.size h 0 c rs []/\h.ps=rs.map (·.1)/\rs.length=a/\rs.map (·.2)=List.replicate a (cA c 0).2/\(∀n,F n->w1.heap.size<=n)/\ai w1 w',
  ⟨_,0,⟨q,none,0,0,[]⟩,_,m,[],rfl,Qj _,rfl,.inl rfl,I,rfl,rfl,rfl,λn ⟨a,P⟩=>?_,v.then l⟩,?_⟩
 ·match a,P with
  |0,P=>have P:n=w2.heap.size:=P;omega
  |1,P=>exact b1 n P
 rintro a0 _ _ w4 ⟨a,h,F,cls,rs,rfl,g,rfl,b4,K,o,a1,a2,y,z⟩;have k:=Z.then z;have b5:=z.get g1 id;rw[hB];refine al.dec (λb6=>?_) (λc7=>?_)
 ·have b6:a<j:=oM
  obtain⟨L,e2⟩:=Ob (c:=c) (i:=(a:Int)) oM oM;refine ar (Ie c d tn X x E Y) b5 (PC.ok (Tn (self:=(a:Int)) V W (C.then k) (hd.af k) (λn P=>by have:=hD n P;have:=k.size;omega) hs a9 b0) ?_);rintro v5 M ⟨N,⟨a3,rfl⟩|⟨p,A,G',rfl,hA,hG,a4⟩⟩
  ·refine⟨_,_,rfl,al.eO (λ_=>Ok.mk ⟨k.then N,.inl ⟨?_,?_⟩⟩) (λh=>Zz h a3)⟩
   ·show(cA c 0).1≠0
    rw[<-L];exact a3
   ·show _=Value.tuple #[.pointer none,ZH (cA c 0).1]
    rw[<-L]
  refine⟨_,_,rfl,al.eO (λh=>Zz rfl h) (λ_=>?_)⟩;rw[L]at p;rw[e2]at hA a4;have z4:=z.size;obtain⟨F2,a5,a6,b7⟩:=cV.more (R:=(cA c 0).2) K N (by rw[a1];exact hA) hG;have b8:FX w2.heap.size h 0 M (λn=>F2 n/\a5 n=0):=a6.at' 0;obtain⟨c1,O,c3,B⟩:=b8;have hn:=c3.len dC;rw[o,Q8]at hn;refine⟨_,0,rfl,_,_,_,ae O rfl,NM (x:=A) (D:=λ_=>False) c3 Yb ⟨rfl,trivial⟩ (λn P=>P.elim) (by rw[o,Q8];unfold aT;omega) (by rw[o,Q8];unfold maxLen;omega) λr e w7 F7 Q S c8 b9=>⟨_,_,_,rfl,_,0,rfl,PS.mk (S.get O λf=>(B _ f).2 rfl) sM λw8 k8 s8 g8=>?_⟩⟩;have z5:=N.size;have z7:=S.size;have c9:=aA O;have T:∀n,aG r=some n->(aG h.a=some n\/M.heap.size<=n)/\n<w7.heap.size:=λn P=>⟨b9 n P,Q.aE n (Q.self n P)⟩
  have a7:∀n,aG r=some n->n≠w2.heap.size:=λn P f=>by rcases(T n P).1 with h|h;exact(B n h).2 f;omega
  have kk:aj (λn=>F2 n/\a5 n=0) M w8:=(S.mono λn _ P=>(B n P).1).then (k8.mono λn _ P=>by have P:n=w2.heap.size:=P;rw[P];exact c1);obtain⟨F8,s,U,t,-⟩:=bb.iE a6 fE (k:=0) (G':=λn=>n=w2.heap.size\/aG r=some n) (C2:=js (FX w2.heap.size ⟨h.q,r,h.n+1,e,h.ps++[A]⟩ 0) (λw G=>ei w h.q G []) c (rs++[(A,(cA c 0).2)]))
   ⟨kk,λn P=>P.elim (λf=>.inl (f▸c1)) λP=>(T n P).1.imp (λh=>(B n h).1) id⟩ (λn P=>P.elim (λf=>oM) λP=>by have:=(T n P).2;omega)
   ⟨.inl rfl,g8,Q.alone.keep k8 λn P f=>a7 n P f,λn P=>⟨.inr P,a7 n P⟩⟩ λi G b u=>by
    match i,b,u with
    |1,_,u=>exact u
    |i+2,_,u=>exact u
  have a8:=b7.trans t;refine⟨_,oM,a+1,⟨h.q,r,h.n+1,e,h.ps++[A]⟩,F8,s,_,an oM,oM,rfl,.inr ⟨p,a4⟩,U,by rw[o,Q3];rfl,by rw[QX,a1];rfl,by rw[Q3,a2,List.replicate_succ'];rfl,λn P=>(a8.new n P).elim (y n) λh=>oM,z.new a8.keep λn P=>.inr (y n P)⟩
 ·have c0:a≠0:=oM
  obtain⟨p,d0⟩:=b4.resolve_left c0;obtain⟨r1,r2,-,-⟩:=Ig p;have c2:a=c.aD.toNat:=oM
  have J:rs[0]? =some rs[0]:=Qq oM;refine Ok.mk ⟨k,.inr ⟨p,_,F,rfl,⟨h,cls,rs,K,o,?_,oM,(cV.rep K J).ok,⟨V,W,C.then k,λn P=>by have:=y n P;omega⟩⟩,λn P=>by have:=y n P;omega,⟨λR hR=>?_,Int.le_refl 0,Int.le_refl 0⟩⟩⟩
  ·rw[a2,c2];rfl
  ·have:=(List.mem_replicate.1 hR).2
   subst this;exact⟨oM,by rw[KQ];exact Qj _⟩
end
def Bv:lx:=⟨[],[],[],[],[]⟩
def Bw(x:PC_ 24 #[.ii 2] b (kX_ 27 λy z=>PC_ 9 #[y] z (λB j=>∃P k,B= .tuple #[.pointer P,.ii k]/\al (k !=0) (rt A ((.bool false)) j) (PR_ (eq_ .eql 33 (.tmp 18) (.const (.pointer none)) (.pointer P) (.pointer none)) j (kB λC l=>al C (rt A ((.bool false)) l) (PC_ 25 #[.ii 0,.ii 3] l (λD E=>∃m o p q r s t,D= .agg #[.ii m,.ii o,.ii p,.ii q,.ii r,.ii s,.ii t]/\PC_ 13 #[.pointer P,.agg #[.ii 1,.ii 0,.ii 0,.ii m,.ii o,.ii p,.ii q,.ii r,.ii s,.ii t]] E (kX_ 53 λF a=>PA a (.cells #[.ii 0,.ii 0,.ii 0,.ii 0,.slice none 0 0,.slice none 0 0,.slice none 0 0,.bool false] 53) λG=>St 53 (ab_ a 0) F G λH=>PC_ 13 #[.pointer P,.agg #[.ii 2,.ii 1,.ii 0,.ii 0,.ii 0,.ii 0,.ii 0,.ii 0,.ii 0,.ii 0]] H (kX_ 53 λI d=>PA d (.cells #[.ii 0,.ii 0,.ii 0,.ii 0,.slice none 0 0,.slice none 0 0,.slice none 0 0,.bool false] 53) λJ=>St 53 (ab_ d 0) I J λK=>PC_ 13 #[.pointer P,.agg #[.ii 3,.ii 0,.ii 0,.ii 0,.ii 0,.ii 0,.ii 0,.ii 0,.ii 0,.ii 0]] K (kX_ 53 λL e=>PA e (.cells #[.ii 0,.ii 0,.ii 0,.ii 0,.slice none 0 0,.slice none 0 0,.slice none 0 0,.bool false] 53) λM=>St 53 (ab_ e 0) L M λN=>PC_ 13 #[.pointer P,.agg #[.ii 3,.ii 0,.ii 0,.ii 0,.ii 0,.ii 0,.ii 0,.ii 0,.ii 0,.ii 0]] N (kX_ 53 λO f=>PA f (.cells #[.ii 0,.ii 0,.ii 0,.ii 0,.slice none 0 0,.slice none 0 0,.slice none 0 0,.bool false] 53) λQ=>St 53 (ab_ f 0) O Q λR=>PC_ 13 #[.pointer P,.agg #[.ii 10,.ii 1,.ii 0,.ii 0,.ii 0,.ii 0,.ii 0,.ii 0,.ii 0,.ii 0]] R (kX_ 53 λS c=>PA c (.cells #[.ii 0,.ii 0,.ii 0,.ii 0,.slice none 0 0,.slice none 0 0,.slice none 0 0,.bool false] 53) λT=>St 53 (ab_ c 0) S T λU=>PC_ 13 #[.pointer P,.agg #[.ii 3,.ii 9,.ii 0,.ii 0,.ii 0,.ii 0,.ii 0,.ii 0,.ii 0,.ii 0]] U (kX_ 53 λV g=>PA g (.cells #[.ii 0,.ii 0,.ii 0,.ii 0,.slice none 0 0,.slice none 0 0,.slice none 0 0,.bool false] 53) λW=>St 53 (ab_ g 0) V W λX=>PC_ 13 #[.pointer P,.agg #[.ii 2,.ii 1,.ii 1,.ii 0,.ii 0,.ii 0,.ii 0,.ii 0,.ii 0,.ii 0]] X (kX_ 53 λY h=>PA h (.cells #[.ii 0,.ii 0,.ii 0,.ii 0,.slice none 0 0,.slice none 0 0,.slice none 0 0,.bool false] 53) λZ=>St 53 (ab_ h 0) Y Z λa1=>PC_ 13 #[.pointer P,.agg #[.ii 6,.ii 0,.ii 0,.ii 0,.ii 0,.ii 0,.ii 0,.ii 0,.ii 0,.ii 0]] a1 (kX_ 53 λb8 i=>(∃u v,i.cell? (ab_ a (0+1))=some (.ii u)/\i.cell? (ab_ a (0+1+1))=some (.ii v)/\PR_ (eq_ .eql 46 (.tmp 47) (.tmp 48) (.agg #[.ii u,.ii v]) (.agg #[.ii 0,.ii 1])) i (kB λa2 n=>al a2 ((rI n (ab_ a 0) λa3=>al (a3==0) ((rI n (ab_ d 0) λa4=>al (a4==0) ((rI n (ab_ e 0) λa5=>al (a5==0) ((rI n (ab_ f 0) λa6=>al (a6==0) ((rS n (ab_ c (0+3+1)) λb9 a7 c0=>al ((a7:Int)==6) ((rS n (ab_ c (0+3+1)) λa8 a9 c1=>(ix_ a8 0 a9 λb0 b1=>(rI n (ad b0 (b1+Int.toNat 0*2)) λb2=>al (b2==3) ((rI n (ab_ g 0) λb3=>al (b3==14) ((rI n (ab_ h 0) λb4=>al (b4==1) (PC_ 11 #[.pointer P] n (kI_ λb5 w=>al (b5==1) (PC_ 12 #[.pointer P] w (kI_ λb6 b7=>rt A ((.bool (b6==1))) b7) (pE A)) (rt A ((.bool false)) w)) (pE A)) (rt A ((.bool false)) n))) (rt A ((.bool false)) n))) (rt A ((.bool false)) n))))) (rt A ((.bool false)) n))) (rt A ((.bool false)) n))) (rt A ((.bool false)) n))) (rt A ((.bool false)) n))) (rt A ((.bool false)) n))) (rt A ((.bool false)) n)) (pV A))) (pE A)) (pE A)) (pE A)) (pE A)) (pE A)) (pE A)) (pE A)) (pE A)) (pE A))) (pV A))) (pE A)) (pE A)):PP 8 #[] b A:=DC Bv Tryz.func8 rfl x
def lf:lb:=⟨0,0,0,0,0,0,0⟩
def wP:Bool:=
 let n:=gG 2
 let P:=cJ n (AZ n).2 ⟨1,0,0,⟨0,0,0,1,3,-1,0⟩⟩
 let b:=cJ n P.2 ⟨2,1,0,lf⟩
 let c:=cJ n b.2 ⟨3,0,0,lf⟩
 let d:=cJ n c.2 ⟨3,0,0,lf⟩
 let a:=cJ n d.2 ⟨10,1,0,lf⟩
 let e:=cJ n a.2 ⟨3,9,0,lf⟩
 let f:=cJ n e.2 ⟨2,1,1,lf⟩
 let g:=cJ n f.2 ⟨6,0,0,lf⟩
 (AZ n).1==0&&(P.1.id.1==(0:Int)&&(P.1.id.2==(1:Int)&&(P.1.code==0&&(b.1.code==0&&(c.1.code==0&&(d.1.code==0&&(a.1.st.cells.length==6&&((a.1.st.cells.getD 0 ⟨0,[]⟩).n==3&&(e.1.code==14&&(f.1.code==1&&(g.2.now==1&&g.2.ef.length==1)))))))))))
def SQ:wP=true:=by decide+kernel
def PO:∃(h:ey) (n a b c P d e f:iF×ey),AZ (gG 2)=(0,h)/\cJ (gG 2) h ⟨1,0,0,⟨0,0,0,1,3,-1,0⟩⟩=n/\cJ (gG 2) n.2 ⟨2,1,0,lf⟩=a/\cJ (gG 2) a.2 ⟨3,0,0,lf⟩=b/\cJ (gG 2) b.2 ⟨3,0,0,lf⟩=c/\cJ (gG 2) c.2 ⟨10,1,0,lf⟩=P/\cJ (gG 2) P.2 ⟨3,9,0,lf⟩=d/\cJ (gG 2) d.2 ⟨2,1,1,lf⟩=e/\cJ (gG 2) e.2 ⟨6,0,0,lf⟩=f/\
  n.1.id.1=0/\n.1.id.2=1/\n.1.code=0/\a.1.code=0/\b.1.code=0/\c.1.code=0/\P.1.st.cells.length=6/\(P.1.st.cells.getD 0 ⟨0,[]⟩).n=3/\d.1.code=14/\e.1.code=1/\f.2.now=1/\f.2.ef.length=1:=by
 have g:=SQ;unfold wP at g;simp only[QK,beq_iff_eq]at g;obtain⟨i,j⟩:=g;exact⟨_,_,_,_,_,_,_,_,_,Prod.ext i rfl,rfl,rfl,rfl,rfl,rfl,rfl,rfl,rfl,j⟩
section
variable {w w' w0 w1 w2 wb:World} {p i k g:Nat} {F F1 F' G G' T D:ZN} {c:bR} {X:ey} {s:fS} {x:iF} {v:Value}
def FD(w:World)(g:Nat)(F:ZN)(x:iF):Prop:=∃(P:WP) (a b:Nat) (c:WP) (d e:Nat) (f:WP) (h i:Nat) (G:ZN),w.heap[g]? =some (.cells (fT x P a b c d e f h i).toArray 53 (0,0))/\Row gB 32 w G P a x.st.cells/\(∀n,G n->n<w.heap.size/\¬F n)/\¬F g
def FD.iE(c:FD w g F x)(P:cu F w F' w'):FD w' g F' x:=by
 obtain⟨h,i,j,k,l,m,o,p,q,G,e,r,b,f⟩:=c;have s:=P.keep.size;have t:=aA e;exact⟨h,i,j,k,l,m,o,p,q,G,P.keep.get e f,r.keep P.keep λn a=>(b n a).2,λn a=>⟨by have:=(b n a).1;omega,λd=>(P.new n d).elim (b n a).2 λc=>by have:=(b n a).1;omega⟩,λd=>(P.new g d).elim f λc=>oM⟩
def FD.get(n:FD w g F x):∃cs:Array Value,w.heap[g]? =some (.cells cs 53 (0,0))/\cs[0]? =some (ZH x.code)/\cs[1]? =some (ZH x.id.1)/\cs[2]? =some (ZH x.id.2):=by
 obtain⟨a,b,c,d,e,f,h,i,j,G,P,k,l,m⟩:=n;exact⟨_,P,rfl,rfl,rfl⟩
def uP(A:cD w0 w p F c X)(E:gD k X)(H:k<=999)(I:s.Ok)(f:∀n b F',w.heap.size<=n.heap.size->cD w0 b p F' c (cJ c X s).2->gD (k+1) (cJ c X s).2->cu F w F' b->FD b n.heap.size F' (cJ c X s).1->h4 n b):
  PC ZP 13 #[ZL p,mz s] w (λv n=>uX (ej ZP 53) λx=>v=x/\PA n (.cells #[ZH 0,ZH 0,ZH 0,ZH 0,.slice none 0 0,.slice none 0 0,.slice none 0 0,.bool false] 53) λw2=>oG ZP 53 (ZL n.heap.size) x w2 λb=>h4 n b) a6:=by
 have N:=A.env.gr.size;refine PC.ok (Gc A E H I) ?_;rintro _ n ⟨F',⟨g,h,i,j,l,m,o,q,r,G,rfl,J,O,Q,t⟩,e,u,B⟩;have C:=e.aE;have K:=B.keep.size;refine cx (MM _ g h i j l m o q r) ⟨rfl,PA.mk λw2 y R L=>aC (iO _ g h i j l m o q r) L rfl λb z S M=>f n b F' K ?_ u ?_ ?_⟩
 ·exact(e.af y).keep z (λa d P=>by have P:a=n.heap.size:=P;have:=C a d;omega) λa P=>by have P:a=n.heap.size:=P;omega
 ·exact(B.af y).last z λa P=>by have P:a=n.heap.size:=P;omega
 ·exact⟨g,h,i,j,l,m,o,q,r,G,M,(J.af y).keep z λa d P=>by have P:a=n.heap.size:=P;have:=(t a d).2.1;omega,λa d=>⟨by have:=(t a d).2.1;omega,(t a d).2.2⟩,λP=>by have:=C _ P;omega⟩
def ke(n:(decide (-1000000<=e)&&decide (e<=1000000)&&(decide (-1000000<=q)&&decide (q<=1000000))&&(decide (-1000000<=R)&&decide (R<=1000000)))=true):fS.Ok ⟨e,q,R,lf⟩:=by
 simp only[QK,Zk]at n;exact⟨by show aM e;unfold aM;omega,by show aM q;unfold aM;omega,by show aM R;unfold aM;omega,i10 rfl,i10 rfl,i10 rfl,i10 rfl,i10 rfl,i10 rfl⟩
def PQ{n arg:Int}:PP 25 #[ZH n,ZH arg] w (Ok λv w'=>v=w_ ⟨0,n,0,1,arg,-1,0⟩/\ai w w'):=
 Iy (PA.mk λw1 a f b=>aC (yk ⟨0,n,0,1,arg,-1,0⟩) b rfl λw2 c g d=>ar (yk ⟨0,n,0,1,arg,-1,0⟩) d (Ok.mk ⟨rfl,a.new c λe P=>.inr (by have P:e=w.heap.size:=P;omega)⟩))
set_option maxHeartbeats 2000000 in
def Ih(Y:fw w0)(Z:Laid w0)(h0:ai w0 w):PP 8 #[] w (Ok λv w'=>v= .bool true/\ai w w'):=by
 obtain⟨X,a0,f,a1,a2,g,a3,s,a4,e0,e1,e2,e3,e4,e5,e6,e7,e8,q1,q2,q3,q4,q5,q6,q7,q8,q9,a6,a7,a8⟩:=PO;refine Bw (PC.ok Kd ?_);rintro _ w2 ⟨ta,tn,tc,pa,pn,pc,G2,rfl,a9,b0,r⟩;refine cx (WV (gG 2) ta tn tc pa pn pc) ⟨rfl,PC.ok (MQ (c:=gG 2) Y Z (h0.then r) a9 (λf l=>(b0 f l).2) (i10 rfl) (i10 rfl) (i10 rfl)) ?_⟩;rintro v5 w5 t;unfold QM at t;rw[e0]at t;obtain⟨k5,⟨b1,-⟩|⟨-,p,F,rfl,z,hF,A⟩⟩:=t
 ·exact Zz rfl b1
 dsimp only at z A;generalize gG 2=c2 at*;have b2:=r.then k5;have b3:∀f,F f->w.heap.size<=f:=λf l=>by have:=hF f l;have:=r.size;omega
 refine⟨_,_,rfl,al.eO (λa=>Zz rfl a) (λ_=>gW Tryz.underlying33 ⟨_,rfl,al.ff rfl (PC.ok PQ ?_)⟩)⟩;rintro _ w7 ⟨rfl,B⟩;refine⟨_,_,_,_,_,_,_,rfl,?_⟩;have b4:=b2.then B;refine uP (k:=0) (s:=⟨1,0,0,⟨0,0,0,1,3,-1,0⟩⟩) (z.af B) A oM ⟨i10 rfl,i10 rfl,i10 rfl,i10 rfl,i10 rfl,i10 rfl,i10 rfl,i10 rfl,i10 rfl⟩ λwa w8 Fa za C E c b=>?_;rw[e1]at C E b;refine uP (s:=⟨2,1,0,lf⟩) C E oM (ke rfl) λwb w9 Fb zb H I J d=>?_;rw[e2]at H I d;have b:=b.iE J;have c:=c.trans J;refine uP (s:=⟨3,0,0,lf⟩) H I oM (ke rfl) λwd c8 Fd zd K L u P=>?_;rw[e3]at K L P;have b:=b.iE u;have d:=d.iE u;have c:=c.trans u;refine uP (s:=⟨3,0,0,lf⟩) K L oM (ke rfl) λwf c9 Ff zf M N q n=>?_;rw[e4]at M N n;have b:=b.iE q;have d:=d.iE q;have P:=P.iE q;have c:=c.trans q;refine uP (s:=⟨10,1,0,lf⟩) M N oM (ke rfl) λwg d0 Fg zg O Q m h=>?_;rw[e5]at O Q h;have b:=b.iE m;have d:=d.iE m;have P:=P.iE m;have n:=n.iE m;have c:=c.trans m;refine uP (s:=⟨3,9,0,lf⟩) O Q oM (ke rfl) λwn d1 Fn zn R S k e=>?_;rw[e6]at R S e;have b:=b.iE k;have d:=d.iE k;have P:=P.iE k;have n:=n.iE k;have h:=h.iE k;have c:=c.trans k;refine uP (s:=⟨2,1,1,lf⟩) R S oM (ke rfl) λws d2 Fs zs T U j is=>?_;rw[e7]at T U is;have b:=b.iE j;have d:=d.iE j;have P:=P.iE j;have n:=n.iE j;have h:=h.iE j;have e:=e.iE j;have c:=c.trans j;refine PC.ok (Gc (s:=⟨6,0,0,lf⟩) T U oM (ke rfl)) ?_;rintro _ b5 ⟨Ft,⟨sa,sn,sc,ea,en,ec,ra,rn,rc,-,rfl,-⟩,x,b6,i⟩;rw[e8]at x b6;have b:=b.iE i;have d:=d.iE i;have P:=P.iE i;have n:=n.iE i;have h:=h.iE i;have e:=e.iE i;have is:=is.iE i;have c:=c.trans i;refine cx (MM _ sa sn sc ea en ec ra rn rc) ⟨rfl,?_⟩;obtain⟨za,y,b7,b8,c1⟩:=b.get;obtain⟨zb,yb,c3,-⟩:=d.get;obtain⟨zd,yd,c4,-⟩:=P.get;obtain⟨zf,yf,c5,-⟩:=n.get;obtain⟨zn,yn,c6,-⟩:=e.get;obtain⟨zs,ys,c7,-⟩:=is.get;obtain⟨d3,d4,d5,d6,YW,d7,d8,d9,e9,Gg,V,W,-,-⟩:=h;have f2:=W.len;obtain⟨b9,o9,f3,f4,f6,rfl,f8,-,a5,-⟩:=nz (i:=0) W oM;have o:ai w b5:=b4.new c.keep λf l=>.inr (b3 f l);refine⟨_,_,ae y b8,ae y c1,aJ.mk VK ⟨_,rfl,al.tt (by rw[q1,q2];rfl) ⟨_,ae y b7,al.eN (λ_=>⟨_,ae yb c3,al.eN (λ_=>⟨_,ae yd c4,al.eN (λ_=>⟨_,ae yf c5,al.eN (λ_=>⟨_,_,_,ae V rfl,al.eN (λ_=>⟨_,_,_,ae V rfl,b9,o9,rfl,oM,oM,_,a5,al.eN (λ_=>⟨_,ae yn c6,al.eN (λ_=>⟨_,ae ys c7,al.eN (λ_=>?_) (λa=>Zz a6 a)⟩) (λa=>Zz q9 a)⟩) (λa=>Zz q8 a)⟩) (λa=>Zz oM a)⟩) (λa=>Zz q6 a)⟩) (λa=>Zz q5 a)⟩) (λa=>Zz q4 a)⟩) (λa=>Zz q3 a)⟩⟩⟩;refine PC.ok (Tm x) ?_;rintro _ _ ⟨rfl,rfl⟩;refine⟨_,rfl,al.eN (λ_=>PC.ok (AY x) ?_) (λa=>Zz a7 a)⟩;rintro _ _ ⟨rfl,rfl⟩;refine⟨_,rfl,Ok.mk ⟨?_,o⟩⟩;rw[a8];rfl
end
def lu(n:bR)(P:WP)(tn a:Nat)(b:WP)(c d:Nat)(e:WP)(f g:Nat):List Value:=eV n P tn a b c d++[.slice e f g]
abbrev MR(n:bR)(P:WP)(tn a:Nat)(b:WP)(c d:Nat)(e:WP)(f g:Nat):Value:=.agg (lu n P tn a b c d e f g).toArray
def Vt(n:bR)(P:WP)(tn a:Nat)(b:WP)(c d:Nat)(e:WP)(f g:Nat):iL ZP 30 (lu n P tn a b c d e f g)=true:=kR
def MS:ky fS:=flat 10 nQ fS.Ok (λ_=>rfl) (λP a n=>by simp[nQ,iQ]at n;rcases n with rfl|rfl|rfl|rfl|rfl|rfl|rfl|rfl|rfl|rfl<;>rfl)
section
variable {w w' w0 w1 w2 wb:World} {p q i k g:Nat} {F F1 F' G G' T D E:ZN} {c:bR} {X Y:ey} {s:fS} {x:iF} {v:Value} {ta pa la:WP} {tn tc pn pc ln lc:Nat} {l:List fS}
def KR(f:bt w D c.decl ta tn pa pn)(g:Row MS 80 w E la ln l):
  PP 7 #[MR c ta tn tc pa pn pc la ln lc] w (Ok λv w'=>(∃P:Bool,v= .bool P/\(P=false->l.length<=300))/\ai w w'):=by
 have h:=g.len;refine Gf (PA.mk λw1 d i a=>⟨_,_,_,_,_,_,ae a rfl,ae a rfl,PC.ok (KS (f.af d)) ?_⟩);rintro _ w2 ⟨⟨P,rfl⟩,e⟩;have n:=d.then e;have b:=e.get a id;exact⟨_,rfl,al.mk (λ_=>Ok.mk ⟨⟨_,rfl,sM⟩,n⟩) (λ_=>⟨_,_,_,ae b rfl,al.dec (λ_=>Ok.mk ⟨⟨_,rfl,sM⟩,n⟩) (λj=>⟨_,ae b rfl,al.dec (λ_=>⟨_,ae b rfl,Ok.mk ⟨⟨_,rfl,λ_=>oM⟩,n⟩⟩) (λ_=>Ok.mk ⟨⟨_,rfl,λ_=>oM⟩,n⟩)⟩)⟩)⟩
def QN(a:fw w0)(b:Laid w0)(n:ai w0 w):PC ZP 8 #[] w (λv w2=>∃P:Bool,v= .bool P/\Ok (λv w'=>v= .bool true/\ai w0 w') (.returned (.bool P)) w2) a6:=by
 refine PC.ok (Ih a b n) ?_;rintro _ w' ⟨rfl,k⟩;exact⟨_,rfl,Ok.mk ⟨rfl,n.then k⟩⟩
def To(P:w.heap[g]? =some (.cells (lu c ta tn tc pa pn pc la ln lc).toArray 30 (0,0)))(a:M (wZ c ta tn tc pa pn pc)):jZ ZP 27 (ZL g) w M:=
 MN (es:=eV c ta tn tc pa pn pc) (Ie c ta tn tc pa pn pc) P (λn b=>by rcases n with _|_|_|_|_|_|_|_|_|_|n<;>first|rfl|exact Zz b (by simp[eV])) a
def WB(P:fU w1 x v w)(a:M v):uX (ej ZP 53) λn=>v=n/\M n:=by
 obtain⟨b,c,d,e,f,g,h,i,j,G,rfl,-⟩:=P;exact cx (MM x b c d e f g h i j) ⟨rfl,a⟩
end
def au.TW(n:N∈B.l):N∈(B.add l).2.l:=by
 rcases B.eT l with⟨-,P⟩|⟨a,-⟩
 ·rw[P];exact n
 ·rw[a];exact(cN l B.l).mem_iff.2 (QJ _ n)
def au.vW:∀(P:List ah) {S:au} {n:ah},n∈S.l->n∈(S.eB P).l
 |[],S,n,a=>a
 |e::P,S,n,a=>au.vW P (S:=(S.add e).2) (au.TW a)
def au.xL:∀(a:List ah) {S:au} {P:ah},P∈(S.eB a).l->P∈S.l\/P∈a
 |[],S,P,b=>.inl b
 |e::a,S,P,b=>by
  rcases au.xL a (S:=(S.add e).2) b with n|n
  ·rcases S.eT e with⟨-,c⟩|⟨c,-⟩
   ·rw[c]at n;exact .inl n
   ·rw[c]at n
    rcases Q2.1 ((cN e S.l).mem_iff.1 n)with d|d
    ·exact .inr (d▸QV ..)
    ·exact .inl d
  ·exact .inr (QJ _ n)
section
variable {D E:ak} {A:qe} {no:Int} {l x:List ah} {k d:Nat} {V:dv} {c:bR} {X:bk} {ref:Bool} {Q:ah->Prop}
def vX(P:D.dead=true)(n:ak->Int×ak):D.op n=(15,D.gone):=by
 unfold ak.op ak.dies;rw[P];rfl
def IQ(n:D.dead=true):Go.Proofs.YtjgjkeponbeekaaGreatDoor.bz V D=(15,V,D.gone):=by
 unfold bz;have:D.create (cF (ax V.next))=(15,D.gone):=vX n _;dsimp only;rw[this,Zx sM]
def BW(n:D.dead=true):aK V D=(15,V,D.gone):=by
 unfold aK;split
 ·exact IQ n
 ·have:D.sync V.last=(15,D.gone):=vX n _
  dsimp only;rw[this,Zx sM]
def IS(n:D.dead=true)(x:List ah):(aF V D x).2.2.files=D.files/\(aF V D x).2.2.dead=true/\(x≠[]->(aF V D x).1≠0):=by
 unfold aF;split
 ·exact⟨rfl,n,λ_=>sM⟩
 split
 ·rename_i a;exact⟨rfl,n,λb=>Zz a b⟩
 dsimp only
 by_cases P:V.size<=V.bytes
 ·rw[Zx P,BW n,Zx sM]
  exact⟨rfl,rfl,λ_=>sM⟩
 ·rw[Zq P,Zq sM]
  have:D.append V.last (az x)=(15,D.gone):=vX n _;rw[this,Zx sM];exact⟨rfl,rfl,λ_=>sM⟩
def GM(n:D.dead=true){size:Int}:(aQ V D x size).no≠0/\(aQ V D x size).D.files=D.files/\(aQ V D x size).D.dead=true:=by
 unfold aQ;split
 ·rename_i P;exact⟨P,rfl,n⟩
 have:bC V.next (bI x).1 D=(15,D.gone):=by
  unfold bC;have:D.create (cF (ax V.next))=(15,D.gone):=vX n _;dsimp only;rw[this,Zx sM]
 rw[this,Zx sM];exact⟨sM,rfl,rfl⟩
def OQ(b:aq D.files w=some ⟨u,a,K⟩)(n:(D.sync w).1≠0):(D.sync w).1=15/\(D.sync w).2=D.gone:=by
 unfold ak.sync at n⊢;rcases BE D (ak.BF w λD P=>(0,D.fG w (P.cut P.bytes.length)))with e|e
 ·rw[e];exact⟨rfl,rfl⟩
 ·rw[e]at n
  unfold ak.BF at n;rw[eC,b]at n;exact Zz rfl n
def cM.RN(g:cM D A no l k)(b:Hu V A no l)(i:∀n∈x,n.Ok/\n.aN.length<=64){size:Int}:
  ((aQ V D x size).no≠0/\cM (aQ V D x size).D A no l k)\/
  (cM (aQ V D x size).D [] V.next x x.length/\((aQ V D x size).no=0/\Hu (aQ V D x size).V [] V.next x/\(aQ V D x size).V.size=size\/(aQ V D x size).no≠0/\(aQ V D x size).D.dead=true)):=by
 have r:bI x=(az x,0):=by
  unfold bI;rw[Zq];intro s;obtain⟨n,t,j⟩:=List.any_eq_true.1 s;have:=(i n t).2;unfold eP at j;simp at j;omega
 unfold aQ;rw[r,Zq sM];rcases g.bC b i with⟨c,m⟩|⟨c,m,h⟩
 ·dsimp only
  rw[Zx c];exact .inl ⟨c,m⟩
 dsimp only;rw[Zq (by simpa using c)];generalize(Go.Proofs.YtjgjkeponbeekaaGreatDoor.bC V.next (az x) D).2=o at h;have u:=g.ne_next b;obtain⟨v,p⟩:=Bf V.a_ h.tidy;have P:cM (jJ V.a_ o) [] V.next x x.length:=by
  refine h.same v (λd e=>?_) (p _ λd e n=>?_)
  ·obtain rfl:d=V.next:=by simpa[cW]using e
   exact p _ λw q n=>u w (by rw[b.a_]at q;exact q) n.symm
  ·rw[b.a_]at e
   exact(fy (n:=d) (.inr (by have:=g.Ad d e;omega))).1 n.symm
 generalize jJ V.a_ o=a at P
 cases f:a.dead with
 |false=>
  have y:V.next<ix a:=by
   obtain⟨F,z,-⟩:=P.last;have:=P.tZ;exact IT oM (by rw[z];rfl)
  have:=ss a.list;rw[KX P f];exact .inr ⟨P,.inl ⟨rfl,⟨rfl,rfl,y,this.2⟩,rfl⟩⟩
 |true=>
  obtain⟨B,C⟩:=Ol (size:=size) f;refine .inr ⟨P.files C,.inr ⟨by rw[B];simp,?_⟩⟩;have E:told a=[]:=by
   have:a.read bW=([],15):=by unfold ak.read;rw[f];rfl
   unfold told dz;rw[this];rfl
  unfold aR;rw[E];unfold cO gj;rw[Zq sM,Zx (show(dN a size).a_=[]from rfl),show aK _ _=_ from BW f]
  rfl
def IU(P:cM D A no l k)(n:Int):bZ (dq (D.ep n))/\Tidy (dq (D.ep n)).files/\(∀a∈cW A++[no],aq (dq (D.ep n)).files (ay a)=aq (D.ep n).files (ay a))/\aq (dq (D.ep n)).files bW=aq (D.ep n).files bW:=by
 have g:=IG D n;have j:=Lu P.tidy n;have m:∀x∈cW A++[no],aM x:=λx p=>by have:=P.Ad x p;unfold aM;omega
 have q:(cW A++[no]).length<=64:=by have:=P.many;simpa[cW]using this
 have r:dz (D.ep n)=some (cW A++[no]):=by
  unfold dz;rw[g.read (uC P.tidy n P.Wm),Zq sM,show(dQ (bN (cW A++[no]))).bytes=bN (cW A++[no])from rfl,oU m q]
 have o:∀c∈Gi (D.ep n),(∀a∈cW A++[no],ay a≠c)/\bW≠c:=λc d=>by
  have b:=(List.mem_filter.1 d).2;unfold jH at b;rw[r]at b;refine⟨λa h e=>?_,λe=>?_⟩
  ·have m:=P.Ad a h
   subst e;rw[xM oM,Xv (fy (n:=a) (.inr oM)).2]at b;simp only[Option.getD_some,Zy h]at b;simp at b
  ·subst e
   rw[Xv Kx,Rg]at b;simp at b
 have f:∀(i:List ByteArray) {D:ak},Tidy D.files->Tidy (Kw D i).files:=by
  intro i
  induction i with
  |nil=>intro D P;exact P
  |cons c i s=>
   intro D P;refine s (D:=(D.delete c).2) ?_;rcases jD D c with e|e
   ·rw[e];exact P
   ·rw[e];exact P.bL _
 refine⟨AQ _ g,f _ j,λa h=>?_,?_⟩
 ·unfold dq
  rw[AR _ g j,Zq λd=>(o _ d).1 a h rfl]
 ·unfold dq
  rw[AR _ g j,Zq λd=>(o _ d).2 rfl]
def LS{size keep:Int}(n:cM D A no l k):∃P,k<=P/\P<=l.length/\(aR (dq (D.ep keep)) size).no=0/\(aR (dq (D.ep keep)) size).out=b_ A (l.take P)/\Hu (aR (dq (D.ep keep)) size).V A no (l.take P)/\(aR (dq (D.ep keep)) size).V.size=size/\
  cM (aR (dq (D.ep keep)) size).D A no (l.take P) P/\bZ (aR (dq (D.ep keep)) size).D:=by
 obtain⟨g,h,d,i⟩:=IU n keep;obtain⟨j,m,z,o⟩:=n.last;obtain⟨a,B,C,p⟩:=Es keep (az l) o;have e:aq (D.ep keep).files (ay no)=some ⟨(az l).take a,((az l).take a).length,true⟩:=by
  rw[Er n.tidy,m];show(if true then some (te keep ⟨az l,j,true⟩)else none)=_;rw[p];rfl
 have q:((az l).take a).length=a:=by simp;omega
 rw[q]at e;obtain⟨P,r,s,E,t,u,v,w,F,H,b,c,y⟩:=OR (size:=size) (n:=a) g h n (λx f=>by rw[d x.1 (ZV _ (Xk.2 ⟨x,f,rfl⟩))];exact uC n.tidy keep (n.full x f)) (by rw[i];exact uC n.tidy keep n.Wm) (by rw[d no sM];exact e) oM oM;exact⟨P,r,s,t,u,v,w,c oM,b⟩
structure fN (Q:ah->Prop) (c:bR) (X:bk) (ref:Bool):Prop where
 log:∃V A no l k d,X.log=some V/\cM X.D A no l k/\(X.D.dead=true\/Hu V A no l/\V.size=c.bh)/\WW c.bh A/\X.S=(⟨c.aD.toNat,[]⟩:au).eB ((b_ A l).take d)/\d<=IV A k/\(d<(b_ A l).length->X.D.dead=true/\ref=true)/\∀e∈b_ A l,Q e
def su(A:qe)(l:List ah):(b_ A l).length=IV A l.length:=by unfold b_ IV;simp
def fN.same{Y:bk}(b:fN Q c X ref)(e:Y.S=X.S)(n:Y.D=X.D)(f:Y.log=X.log){r2:Bool}(g:ref=true->r2=true):fN Q c Y r2:=by
 obtain⟨V,A,no,l,k,d,h,i,j,m,o,p,P,q⟩:=b.log;exact⟨V,A,no,l,k,d,by rw[f];exact h,by rw[n];exact i,by rw[n];exact j,m,by rw[e];exact o,p,λa=>⟨by rw[n];exact(P a).1,g (P a).2⟩,q⟩
def fN.Gb(n:fN Q c X ref)(P:Int):fN Q c {X with D:=X.D.Gb P} ref:=by
 obtain⟨V,A,no,l,k,d,a,b,e,f,g,h,i,j⟩:=n.log;exact⟨V,A,no,l,k,d,a,b.files rfl,e,f,g,h,i,j⟩
def fN.take(q:fN Q c X ref)(E:X.S.Cl)(F:X.S.n=c.aD.toNat)(T:X.D.Ok)(H:∀b∈x,b.Ok/\Q b)(U:x.length<=20000000):
  ((dt c X x).1=0/\(dt c X x).2.S=X.S.eB x/\∀I,fN Q c (dt c X x).2 I)\/
  ((dt c X x).1≠0/\(dt c X x).2.S=X.S/\fN Q c (dt c X x).2 (ref||(dt c X x).1==15)):=by
 obtain⟨V,A,no,l,k,d,W,m,Y,r,h,J,s,o⟩:=q.log;have n:dt c X x=(if(aF V X.D x).1≠0 then((aF V X.D x).1,{X with log:=some (aF V X.D x).2.1,D:=(aF V X.D x).2.2})else
   if((aF V X.D x).2.2.sync (aF V X.D x).2.1.last).1≠0 then(((aF V X.D x).2.2.sync (aF V X.D x).2.1.last).1,{X with log:=some (aF V X.D x).2.1,D:=((aF V X.D x).2.2.sync (aF V X.D x).2.1.last).2})else
   (0,{X with log:=some (aF V X.D x).2.1,D:=((aF V X.D x).2.2.sync (aF V X.D x).2.1.last).2,S:=eZ c X.S x})):=by
  unfold dt;rw[W]
 by_cases t:X.D.dead=true
 ·obtain⟨K,u,e3⟩:=IS (V:=V) t x
  generalize aF V X.D x=P at*
  by_cases a:P.1≠0
  ·rw[Zx a]at n
   rw[n];exact .inr ⟨a,rfl,P.2.1,A,no,l,k,d,rfl,m.files K,.inl u,r,h,J,λf=>⟨u,by rw[(s f).2];rfl⟩,o⟩
  ·rw[Zq a]at n
   have Z:P.2.2.sync P.2.1.last=(15,P.2.2.gone):=vX u _;rw[Z,Zx sM]at n;rw[n];exact .inr ⟨sM,rfl,P.2.1,A,no,l,k,d,rfl,m.files K,.inl rfl,r,h,J,λf=>⟨rfl,by rw[(s f).2];rfl⟩,o⟩
 obtain⟨hv,L⟩:=Y.resolve_left t;have a0:(b_ A l).length<=d:=Nat.le_of_not_lt λa1=>t (s a1).1;rw[Qz a0]at h;have M:(b_ A l).length=IV A k:=by
  have:=su A l;have:=m.kl;unfold IV at*;omega
 obtain⟨i,v,g,N,w,y,O,e,z,p,f7⟩:=IW (x:=x) m hv (λb B=>(H b B).1) U T (by rw[L];exact r);rw[L]at z p;generalize aF V X.D x=P at*
 by_cases a:P.1≠0
 ·rw[Zx a]at n
  rw[Zq a]at e;rw[n];exact .inr ⟨a,rfl,P.2.1,i,v,g,N,(b_ i g).length,rfl,w,.inr ⟨y,z⟩,p,by rw[List.take_length,e];exact h,by rw[e,M];exact O,λf=>Zz f (Nat.lt_irrefl _),by rw[e];exact o⟩
 rw[Zq a]at n;have a:P.1=0:=Classical.not_not.1 a;rw[Zx a]at e;rw[cM.LU y]at n;obtain⟨a2,s1,s2,s3⟩:=w.last;have R:∀b∈b_ i g,Q b:=by rw[e];exact λb B=>(Q6.1 B).elim (o b) λq=>(H b q).2
 rcases EE w with⟨j,C⟩|⟨j,C⟩
 ·rw[Zq (by rw[j];simp)]at n
  rw[n];refine .inl ⟨rfl,vY E F x,λI=>⟨P.2.1,i,v,g,g.length,(b_ i g).length,rfl,C,.inr ⟨y,z⟩,p,?_,by rw[su];exact Q4 _,λf=>Zz f (Nat.lt_irrefl _),R⟩⟩;rw[List.take_length,e,au.AT,<-h];exact vY E F x
 ·obtain⟨z1,S⟩:=OQ s1 j
  rw[Zx j]at n;rw[n];refine .inr ⟨j,rfl,P.2.1,i,v,g,N,(b_ A l).length,rfl,C,.inl (by rw[S];rfl),p,?_,by rw[M];exact O,λ_=>⟨by rw[S];rfl,by rw[z1];simp⟩,R⟩;rw[e,List.take_left];exact h
def fN.sub(a:fN Q c X ref):∀n∈X.S.l,Q n:=λn P=>by
 obtain⟨V,A,no,l,k,d,f,g,h,i,b,j,m,e⟩:=a.log;rw[b]at P;exact e n (List.mem_of_mem_take ((au.xL _ P).resolve_left sM))
def fN.ep(P:fN Q c X ref)(keep:Int):(gY c X keep).1=0/\(∀a∈X.S.l,a∈(gY c X keep).2.S.l)/\(ref=false->(gY c X keep).2.S=X.S)/\fN Q c (gY c X keep).2 false:=by
 obtain⟨V,A,no,l,k,d,C,g,E,h,e,i,j,m⟩:=P.log;obtain⟨n,F,o,p,q,r,s,t,H⟩:=LS (size:=c.bh) (keep:=keep) g;have u:gY c X keep=(0,{X with D:=(aR (dq (X.D.ep keep)) c.bh).D,waits:=[],gE:=⟨X.gE.de,[],[]⟩,log:=some (aR (dq (X.D.ep keep)) c.bh).V,S:=(⟨c.aD.toNat,[]⟩:au).eB (b_ A (l.take n))}):=by
  unfold gY fC;dsimp only;rw[Zq (by rw[p];simp),q]
 have v:(b_ A l).take d=(b_ A (l.take n)).take d:=by
  have f:d<=((A.map (·.2)).flatten).length+n:=by unfold IV at i;omega
  unfold b_;rw[List.take_append,List.take_append,List.take_take,X2 oM]
 have w:(⟨c.aD.toNat,[]⟩:au).eB (b_ A (l.take n))=X.S.eB ((b_ A (l.take n)).drop d):=by
  rw[e,v,<-au.AT,ZX]
 rw[u];refine⟨rfl,λa b=>?_,λx=>?_,_,A,no,l.take n,n,(b_ A (l.take n)).length,rfl,t,.inr ⟨r,s⟩,h,by rw[List.take_length],?_,λf=>Zz f (Nat.lt_irrefl _),λa b=>m a ?_⟩
 ·show a∈((⟨c.aD.toNat,[]⟩:au).eB (b_ A (l.take n))).l
  rw[w];exact au.vW _ b
 ·show(⟨c.aD.toNat,[]⟩:au).eB (b_ A (l.take n))=X.S
  have y:(b_ A l).length<=d:=Nat.le_of_not_lt λz=>by have:=(j z).2;rw[x]at this;cases this
  have:=su A l;have B:n=l.length:=by unfold IV at*;omega
  rw[B,List.take_length,e,Qz y]
 ·rw[su];unfold IV;rw[Qy,X2 o];exact Q4 _
 ·unfold b_ at b⊢
  exact(Q6.1 b).elim (λP=>ZV _ P) λP=>ZW _ (List.mem_of_mem_take P)
def fN.TX(y:fN Q c X ref)(f:X.S.Cl)(z:X.S.n=c.aD.toNat):(dL c X).2.S=X.S/\fN Q c (dL c X).2 ref:=by
 obtain⟨V,A,no,l,k,d,g,q,B,r,i,s,t,j⟩:=y.log;have P:dL c X=(if(aQ V X.D X.S.l c.bh).no≠0 then((aQ V X.D X.S.l c.bh).no,{X with D:=(aQ V X.D X.S.l c.bh).D})else(0,{X with D:=(aQ V X.D X.S.l c.bh).D,log:=some (aQ V X.D X.S.l c.bh).V})):=by
  unfold dL;rw[g]
 refine⟨by rw[P];split<;>rfl,?_⟩
 by_cases m:X.D.dead=true
 ·obtain⟨C,E,u⟩:=GM (V:=V) (x:=X.S.l) (size:=c.bh) m
  rw[Zx C]at P;rw[P];exact⟨V,A,no,l,k,d,g,q.files E,.inl u,r,i,s,λa=>⟨u,(t a).2⟩,j⟩
 obtain⟨v,F⟩:=B.resolve_left m;have L:(b_ A l).length<=d:=Nat.le_of_not_lt λH=>m (t H).1;have I:∀n∈X.S.l,n.Ok/\n.aN.length<=64:=λn b=>⟨f.ok.ok n b,by
  obtain⟨-,-,-,-,-,-,M,-⟩:=nP (f.ok.XE n b);have:=f.ok.n;omega⟩
 have w:X.S=(⟨c.aD.toNat,[]⟩:au).eB X.S.l:=by rw[<-z];exact f.Vo.symm
 have x:∀n∈b_ [] X.S.l,Q n:=λn b=>by
  have b:n∈X.S.l:=b;rw[i]at b;exact j n (List.mem_of_mem_take ((au.xL _ b).resolve_left sM))
 rcases q.RN v I (size:=c.bh)with⟨h,e⟩|⟨h,⟨e,o,J⟩|⟨e,o⟩⟩
 ·rw[Zx h]at P
  rw[P];exact⟨V,A,no,l,k,d,g,e,.inr ⟨v,F⟩,r,i,s,λa=>Zz a oM,j⟩
 ·rw[Zq (by rw[e];simp)]at P
  rw[P];exact⟨_,[],V.next,X.S.l,X.S.l.length,X.S.l.length,rfl,h,.inr ⟨o,J⟩,λK p=>by simp at p,by rw[show(b_ [] X.S.l)=X.S.l from rfl,List.take_length];exact w,by unfold IV;simp,λa=>Zz a (by rw[show(b_ [] X.S.l)=X.S.l from rfl];exact Nat.lt_irrefl _),x⟩
 ·rw[Zx e]at P
  rw[P];exact⟨V,[],V.next,X.S.l,X.S.l.length,X.S.l.length,g,h,.inl o,λK p=>by simp at p,by rw[show(b_ [] X.S.l)=X.S.l from rfl,List.take_length];exact w,by unfold IV;simp,λa=>Zz a (by rw[show(b_ [] X.S.l)=X.S.l from rfl];exact Nat.lt_irrefl _),x⟩
def Oc{self:Int}(n:(cA c self).1=0):fN Q c (cA c self).2 false/\(cA c self).2.waits=[]:=by
 have b:cA c self=BX c:=by
  unfold cA at n⊢;split
  ·rename_i P;rw[Zx P]at n;exact Zz n P
  rename_i P;rw[Zq P]at n;split
  ·rename_i d;rw[Zx d]at n;simp at n
  ·rfl
 rw[b]at n⊢;unfold BX fC at n⊢;dsimp only at n⊢;rcases RO c.uG.toNat c.bh with a|⟨a,e,f,g,h,l,m,o⟩
 ·rw[Zx oM]at n
  exact Zz n bn
 ·rw[Zq (by rw[a];simp)]
  exact⟨⟨_,[],1,[],0,0,rfl,f,.inr ⟨g,h⟩,λp i=>by simp at i,by rw[e];rfl,Qj _,λj=>by simp[b_]at j,λq k=>by simp[b_]at k⟩,rfl⟩
def LV{P x:ah}(n:x∈(eS a H P).2):x=P\/x∈H:=by
 unfold eS at n;split at n
 ·exact .inr n
 ·exact Q2.1 ((cN P H).mem_iff.1 n)
def vZ(n:Nat)(Q:ah->Prop):∀(l:List ah) (f:au) (P b:List ah),(∀e∈l,Q e)->(∀e∈P,Q e)->(∀e∈b,Q e)->(∀e∈(gP n l f P b).2.1,Q e)/\∀e∈(gP n l f P b).2.2,Q e
 |[],f,P,b,_,c,d=>⟨c,d⟩
 |e::l,f,P,b,h,c,d=>by
  have i:=h e (QV ..);have g:∀x∈l,Q x:=λx a=>h x (QJ _ a);unfold gP;split
  ·exact vZ n Q l _ _ _ g (λx a=>(Q6.1 a).elim (c x) λa=>by rw[List.mem_singleton.1 a];exact i) d
  split
  ·exact vZ n Q l _ _ _ g c d
  ·exact vZ n Q l _ _ _ g c λx a=>(LV a).elim (λj=>by rw[j];exact i) (d x)
def rG(Q:ah->Prop):∀(l:List ah) (b:au) (n:List ah),(∀e∈l,Q e)->(∀e∈n,Q e)->∀e∈(eE l b n).2,Q e
 |[],b,n,_,a=>a
 |e::l,b,n,c,a=>by
  have d:∀x∈l,Q x:=λx P=>c x (QJ _ P);unfold eE;split
  ·exact rG Q l _ _ d λx P=>(Q6.1 P).elim (a x) λP=>by rw[List.mem_singleton.1 P];exact c e (QV ..)
  ·exact rG Q l _ _ d a
def v_(Q:ah->Prop):∀(l:List ah) (P:au) {a:ah×au×List ah},dJ P l=some a->(∀e∈l,Q e)->Q a.1/\∀e∈a.2.2,Q e
 |[],P,a,n,_=>by cases n
 |e::l,P,a,n,c=>by
  unfold dJ at n;split at n
  ·cases n;exact⟨c e (QV ..),λx b=>c x (QJ _ b)⟩
  ·cases d:dJ P l with
   |none=>rw[d]at n;cases n
   |some i=>
    rw[d]at n
    cases n
    obtain⟨f,g⟩:=v_ Q l P d λx b=>c x (QJ _ b);exact⟨f,λx b=>(Q2.1 b).elim (λh=>by rw[h];exact c e (QV ..)) (g x)⟩
def wh(Q:ah->Prop):∀(k:Nat) (a:au) (l n:List ah),(∀P∈l,Q P)->(∀P∈n,Q P)->(∀P∈(dm k a l n).1,Q P)/\∀P∈(dm k a l n).2,Q P
 |0,a,l,n,b,c=>⟨c,b⟩
 |k+1,a,l,n,b,c=>by
  unfold dm
  cases e:dJ a l with
  |none=>exact⟨c,b⟩
  |some h=>
   obtain⟨f,g⟩:=v_ Q l a e b;exact wh Q k _ _ _ g λx d=>(Q6.1 d).elim (c x) λd=>by rw[List.mem_singleton.1 d];exact f
def IX(Q:ah->Prop):∀(k:Nat) (P:au) (a b:List ah),(∀n∈a,Q n)->(∀n∈b,Q n)->(∀n∈(pS k P a b).1,Q n)/\∀n∈(pS k P a b).2,Q n
 |0,P,a,b,c,e=>⟨c,e⟩
 |k+1,P,a,b,c,e=>by
  unfold pS;have d:=wh Q ((b.filter λn=>(P.get (bd n)).isNone).length+1) P (b.filter λn=>(P.get (bd n)).isNone) [] (λx f=>e x (List.mem_filter.1 f).1) sM;have n:bF P b=dm ((b.filter λn=>(P.get (bd n)).isNone).length+1) P (b.filter λn=>(P.get (bd n)).isNone) []:=rfl;rw[<-n]at d;dsimp only;split
  ·exact⟨c,d.2⟩
  ·exact IX Q k _ _ _ (rG Q _ _ _ d.1 c) d.2
def OS{c:bR}{X:bk}{l:List ah}(Q:ah->Prop)(P:∀n∈l,Q n)(a:∀n∈X.waits,Q n):(∀n∈(iZ c X l).1,Q n)/\∀n∈(iZ c X l).2,Q n:=by
 obtain⟨b,d⟩:=vZ c.buffer.toNat Q l (eZ c X.S []) [] X.waits P sM a;exact IX Q _ _ _ _ b d
def BY(c:bR)(X:bk)(x:List ah):(dt c X x).2.waits=X.waits:=by
 unfold dt
 cases X.log with
 |none=>rfl
 |some V=>
  dsimp only;split
  ·rfl
  split<;>rfl
def IY(ref:Bool)(kind no:Int):Bool:=ref&&kind !=4||(kind==0||kind==2)&&(no==15||no==12)
structure pT (Q:ah->Prop) (c:bR) (X:bk) (ref:Bool) (kind:Int) (r:Int×bk):Prop where
 XC:∀e∈X.S.l,e∈r.2.S.l
 Yd:fN Q c r.2 (IY ref kind r.1)
 idle:kind≠0->kind≠2->kind≠4->r.2.S=X.S
 no:kind=0\/kind=2->r.1≠0->r.2.S=X.S
 cr:kind=4->ref=false->r.2.S=X.S
 wait:∀e∈r.2.waits,e.Ok/\Q e
def ou{ref:Bool}{n no:Int}(P:n≠4)(a:ref=true):IY ref n no=true:=by unfold IY;rw[a];simp[P]
def pT.still{no:Int}(P:fN Q c X ref)(b:e≠4)(n:d8.S=X.S)(d:d8.D=X.D)(f:d8.log=X.log)(g:∀a∈d8.waits,a.Ok/\Q a):pT Q c X ref e (no,d8):=
 ⟨λa h=>by rw[n];exact h,P.same n d f (ou b),λ_ _ _=>n,λ_ _=>n,λP=>Zz P b,g⟩
def OT{P:bY}(n:e_ P a e=0)(c:P.kind=3)(d:e<=32):P.events.length<=32:=by
 rcases Nat.lt_or_ge 32 P.events.length with b|b
 ·exfalso
  unfold e_ at n;rw[Zx c]at n;split at n
  ·cases n
  ·unfold fe at n
   split at n
   ·cases n
   ·rw[Zx (.inr oM)]at n;cases n
 ·exact b
def fN.call{a:Tq}(b:fN Q c X ref)(f:∀P∈X.waits,P.Ok/\Q P)(v:X.S.Cl)(w:X.S.n=c.aD.toNat)(B:X.D.Ok)(E:a.cmd.Ok)(F:∀P∈a.m.events,P.Ok/\Q P)(H:a.kind=0->(eW c.decl X.S (bO c.decl X.S.l) e c.start a.cmd).2.1=true->Q (eW c.decl X.S (bO c.decl X.S.l) e c.start a.cmd).1)(I:aM e)(J:aM c.start)(K:X.S.l.length<=20000000)(W:X.waits.length<=256)(L:c.chunk<=32):
  pT Q c X ref a.kind (QP c e X a):=by
 unfold QP;split
 ·rename_i h
  have i:a.kind≠4:=oM
  obtain⟨V,A,no,l,k,d,t,-⟩:=b.log;unfold eM;rw[t];dsimp only;split
  ·exact pT.still b i rfl rfl rfl f
  split
  ·rename_i M
   have N:=Nf (d:=c.decl) (V:=bO c.decl X.S.l) E v.ok I J K;have r:=b.take (x:=[(eW c.decl X.S (bO c.decl X.S.l) e c.start a.cmd).1]) v w B (λP g=>by rw[List.mem_singleton.1 g];exact⟨N,H h M⟩) sM;have o:=BY c X [(eW c.decl X.S (bO c.decl X.S.l) e c.start a.cmd).1];generalize dt c X [(eW c.decl X.S (bO c.decl X.S.l) e c.start a.cmd).1]=x at r o;rcases r with⟨p,m,q⟩|⟨p,m,q⟩
   ·rw[Zq (by rw[p];simp)]
    exact⟨λP g=>by dsimp only;rw[m];exact au.vW _ g,q _,λn=>Zz h n,λ_ n=>Zz rfl n,λn=>Zz n i,by dsimp only;rw[o];exact f⟩
   ·rw[Zx p]
    refine⟨λP g=>by dsimp only;rw[m];exact g,q.same rfl rfl rfl λj=>?_,λn=>Zz h n,λ_ _=>m,λn=>Zz n i,by dsimp only;rw[o];exact f⟩;rcases Bool.or_eq_true .. ▸j with j|j
    ·exact ou i j
    ·unfold IY;dsimp only;rw[j,h];simp
  ·exact pT.still b i rfl rfl rfl f
 split
 ·rename_i h
  unfold fq;split<;>exact pT.still b oM rfl rfl rfl f
 split
 ·rename_i h
  have i:a.kind≠4:=oM
  obtain⟨V,A,no,l,k,d,t,-⟩:=b.log;unfold cz;rw[t];dsimp only;split
  ·exact pT.still b i rfl rfl rfl f
  rename_i O;split
  ·exact pT.still b i rfl rfl rfl f
  split
  ·rename_i R
   have Y:=OT (Classical.not_not.1 O) R L;unfold mV;obtain⟨C,y⟩:=OS (c:=c) (X:=X) (λP=>P.Ok/\Q P) F f;have S:=BZ c X a.m.events;generalize iZ c X a.m.events=s at C y S;dsimp only;split
   ·exact pT.still b i rfl rfl rfl y
   have r:=(b.same (Y:={X with waits:=s.2}) rfl rfl rfl id).take (x:=s.1) v w B C oM;have o:=BY c {X with waits:=s.2} s.1;generalize dt c {X with waits:=s.2} s.1=x at r o;dsimp only at r o;rcases r with⟨p,m,q⟩|⟨p,m,q⟩
   ·rw[Zq (by rw[p];simp)]
    exact⟨λP g=>by dsimp only;rw[m];exact au.vW _ g,q _,λ_ n=>Zz h n,λ_ n=>Zz rfl n,λn=>Zz n i,by dsimp only;rw[o];exact y⟩
   ·rw[Zx p]
    refine⟨λP g=>by dsimp only;rw[m];exact g,q.same (Y:={x.2 with waits:=[]}) (r2:=IY ref a.kind x.1) rfl rfl rfl λj=>?_,λ_ n=>Zz h n,λ_ _=>m,λn=>Zz n i,sM⟩;rcases Bool.or_eq_true .. ▸j with j|j
    ·exact ou i j
    ·unfold IY;rw[j,h];simp
  split
  ·exact pT.still b i rfl rfl t.symm f
  split<;>exact pT.still b i rfl rfl t.symm f
 split
 ·exact pT.still b oM rfl rfl rfl f
 split
 ·rename_i h
  obtain⟨u,z,T,U⟩:=b.ep a.n;have P:IY ref a.kind (gY c X a.n).1=false:=by unfold IY;rw[h];simp
  refine⟨z,by rw[P];exact U,λ_ _ n=>Zz h n,λn=>oM,λ_ n=>T n,?_⟩;unfold gY fC;dsimp only;split<;>simp
 split
 ·rename_i h
  exact⟨λP g=>g,(b.Gb a.n).same rfl rfl rfl (ou oM),λ_ _ _=>rfl,λ_ _=>rfl,λ_ _=>rfl,f⟩
 split
 ·rename_i h
  obtain⟨u,z⟩:=b.TX v w;refine⟨λP g=>by rw[u];exact g,z.same rfl rfl rfl (ou oM),λ_ _ _=>u,λ_ _=>u,λ_ _=>u,?_⟩;unfold dL
  cases X.log with
  |none=>exact f
  |some V=>
   dsimp only;split<;>exact f
 ·exact⟨λP g=>g,b.same rfl rfl rfl (ou oM),λ_ _ _=>rfl,λ_ _=>rfl,λ_ _=>rfl,f⟩
end
structure A_ (c:bR) (X:ey):Prop where
 len:X.aD.length=c.aD.toNat
 cl:∀R∈X.aD,R.S.Cl/\R.S.n=c.aD.toNat/\R.D.Ok/\R.S.l.length<=20000000/\R.waits.length<=256
 evs:∀m∈X.ef,∀e∈m.events,e.Ok
 chunk:c.chunk<=32
 start:aM c.start
 aD:c.aD<=64
def Ba(P:ah->Prop)(c:bR)(a:bk):Prop:=(∃n,fN P c a n)/\∀b∈a.waits,b.Ok/\P b
def LC(a:Nat->ah->Prop)(b:bR)(c:ey):Prop:=∀n P,c.aD[n]? =some P->Ba (a n) b P
section
variable {c:bR} {X:ey} {k j:Nat} {i:Int} {R R':bk} {s:fS} {ms:List bY} {m:bY} {Q:Nat->ah->Prop} {P:ah->Prop} {f:List bY} {now:Int} {n:Int}
def LC.set(d:LC Q c X)(e:Ba (Q j) c R'):LC Q c ⟨X.aD.set j R',f,now⟩:=λP a n=>by
 have n:(X.aD.set j R')[P]? =some a:=n
 by_cases b:j=P
 ·subst b
  by_cases g:j<X.aD.length
  ·rw[List.getElem?_set_self g]at n;injection n with n;exact n▸e
  ·rw[Q7 (by rw[List.length_set];omega)]at n;cases n
 ·rw[List.getElem?_set_ne b]at n;exact d P a n
def Ba.same(a:Ba P c R)(b:R'.S=R.S)(d:R'.D=R.D)(e:R'.log=R.log)(f:R'.waits=R.waits):Ba P c R':=by
 obtain⟨⟨n,g⟩,h⟩:=a;exact⟨⟨n,g.same b d e id⟩,by rw[f];exact h⟩
def Ba.call(e:Ba P c R)(n:A_ c X)(f:R∈X.aD)(g:aM i){a:Tq}(h:a.cmd.Ok)(j:∀b∈a.m.events,b.Ok/\P b)(k:a.kind=0->(eW c.decl R.S (bO c.decl R.S.l) i c.start a.cmd).2.1=true->P (eW c.decl R.S (bO c.decl R.S.l) i c.start a.cmd).1):Ba P c (QP c i R a).2:=by
 obtain⟨⟨l,m⟩,o⟩:=e;obtain⟨p,q,r,s,t⟩:=n.cl R f;have d:=m.call o p q r h j k g n.start s t n.chunk;exact⟨⟨_,d.Yd⟩,d.wait⟩
def Ii:Tq:=⟨0,0,0,⟨0,0,0,0,0,0,0⟩,⟨0,0,0,[],[]⟩⟩
def Ah:lb.Ok ⟨0,0,0,0,0,0,0⟩:=by
 have:aM 0:=by unfold aM;omega
 exact⟨this,this,this,this,this,this⟩
def Ba.one(n:Ba P c R)(b:A_ c X)(d:R∈X.aD)(e:aM i)(g:s.Ok)(h:(eW c.decl R.S (bO c.decl R.S.l) i c.start s.cmd).2.1=true->P (eW c.decl R.S (bO c.decl R.S.l) i c.start s.cmd).1):Ba P c (jF c i R s).2:=by
 have a:∀f∈([]:List ah),f.Ok/\P f:=λf a=>by cases a
 unfold jF;split
 ·exact n.call b d e (a:=⟨0,0,0,s.cmd,Ii.m⟩) g.cmd a λ_=>h
 split
 ·exact n.call b d e (a:=⟨4,s.m,0,Ii.cmd,Ii.m⟩) Ah a λn=>by cases n
 split
 ·exact n.call b d e (a:=⟨6,0,0,Ii.cmd,Ii.m⟩) Ah a λn=>by cases n
 split
 ·exact n
 split
 ·exact n
 split
 ·exact n
 ·exact n.call b d e (a:=⟨5,s.m,0,Ii.cmd,Ii.m⟩) Ah a λn=>by cases n
def Od(c:bR)(i:Int)(R:bk)(n now:Int):(fq c i R n now).2.S=R.S/\(fq c i R n now).2.D=R.D/\(fq c i R n now).2.log=R.log/\(fq c i R n now).2.waits=R.waits:=by
 unfold fq;split<;>exact⟨rfl,rfl,rfl,rfl⟩
def KT(n:LC Q c X):LC Q c (mB X j):=by
 unfold mB;split
 ·exact n
 ·rename_i R P
  exact n.set ((n j R P).same rfl rfl rfl rfl)
def Ij:∀(n:List Nat) {X:ey},LC Q c X->LC Q c (n.foldl mB X)
 |[],_,P=>P
 |j::n,_,P=>Ij n (KT P)
def Ej(P:dK a5 n=some m):m∈a5:=by
 unfold dK at P;split at P
 ·exact QZ P
 ·cases P
def WC(n:A_ c X)(P:j<X.aD.length):aM (j:Int):=by
 have:=n.len;have:=n.aD;unfold aM;omega
def Ik(n:LC Q c X)(a:A_ c X){b:Option bY}(k:∀m,b=some m->m∈X.ef/\∀i:Nat,m.mR=i->∀P∈m.events,Q i P):LC Q c (jE c ⟨X.aD,f,X.now⟩ b).2:=by
 unfold jE
 cases b with
 |none=>exact n
 |some m=>
  dsimp only;split
  ·exact n
  ·rename_i R d
   obtain⟨j,g,d⟩:=gX d;have e:X.aD[j]? =some R:=d;obtain⟨l,o⟩:=k m rfl;have p:=(n j R e).call a (QZ e) (WC a (Qv.1 e).1) (a:=⟨2,0,0,Ii.cmd,m⟩) Ah (λP h=>⟨a.evs m l P h,o j g P h⟩) λn=>by cases n
   rw[g];exact LC.set (X:=X) n p
def Oe(P:LC Q c X)(b:A_ c X)(g:s.Ok)(d:(s.kind=3\/s.kind=5)->∀m,dK X.ef s.n=some m->∀i:Nat,m.mR=i->∀h∈m.events,Q i h)(k:∀(i:Nat) R,s.n=i->X.aD[i]? =some R->(eW c.decl R.S (bO c.decl R.S.l) i c.start s.cmd).2.1=true->Q i (eW c.decl R.S (bO c.decl R.S.l) i c.start s.cmd).1):LC Q c (cJ c X s).2:=by
 unfold cJ;split
 ·rename_i l
  exact Ik P b λm n=>⟨Ej n,d (.inl l) m n⟩
 split
 ·rename_i o
  exact Ik (f:=X.ef) P b λm n=>⟨Ej n,d (.inr o) m n⟩
 split
 ·exact P
 split
 ·exact Ij _ (X:=⟨X.aD,X.ef,X.now+1⟩) P
 split
 ·exact P
 split
 ·exact P
 ·rename_i R a
  obtain⟨j,e,a⟩:=gX a;have p:=(Qv.1 a).1;have f:=P j R a;rw[e];split
  ·split
   ·exact P
   ·obtain⟨q,r,t,u⟩:=Od c j R s.m X.now
    exact LC.set (X:=X) P (f.same q r t u)
  ·exact LC.set (X:=X) P (f.one b (QZ a) (WC b p) g (k j R e a))
def QR(n:LC Q c X)(P:A_ c X)(a:s.Ok)(b:(s.kind=3\/s.kind=5)->∀m,dK X.ef s.n=some m->∀i:Nat,m.mR=i->∀d∈m.events,Q i d)(e:∀(i:Nat) R,X.aD[i]? =some R->(eW c.decl R.S (bO c.decl R.S.l) i c.start s.cmd).2.1=true->Q i (eW c.decl R.S (bO c.decl R.S.l) i c.start s.cmd).1):LC Q c (cJ c X s).2:=
 Oe n P a b λi R _ f=>e i R f
end
section
variable {w w' w0 w1 w2 wb:World} {p q i k g:Nat} {F F1 F' G G' T D E:ZN} {c:bR} {X Y:ey} {s:fS} {x:iF} {v:Value}
def QO(P:Row ku 96 w D d a H):∀n∈H,n.Ok:=λn b=>by
 obtain⟨i,c⟩:=List.mem_iff_getElem?.1 b;obtain⟨f,g,h,-,-,-,-,j,k,l,-,-,e⟩:=P.el i n c;exact e
def cD.facts(P:cD w0 w p F c X)(f:aM c.start):A_ c X:=by
 have a:=P.len;obtain⟨r,g,s,b,t,h,u,i,v⟩:=P;refine⟨a.1,λx d=>?_,λy e=>?_,i.KF.2,f,a.2.2.1⟩
 ·rw[h]at d
  obtain⟨z,j,rfl⟩:=Xk.1 d;obtain⟨A,k⟩:=List.mem_iff_getElem?.1 j;have n:=cV.rep b k;exact⟨n.cl.1,n.cl.2,n.Ze,n.len,n.waits⟩
 ·obtain⟨B,C,E,H,D,I,J,l,m,-⟩:=b.Wl
  rw[<-l]at e;obtain⟨o,q,rfl⟩:=Xk.1 e;exact QO (m o q).2
def Tp{Q:Nat->ah->Prop}(P:(AZ c).1=0):LC Q c (AZ c).2:=λi a b=>by
 have n:=QZ b;have n:a∈List.replicate c.aD.toNat (cA c 0).2:=n;rw[(List.mem_replicate.1 n).2];obtain⟨d,e⟩:=Oc (Q:=Q i) (c:=c) (self:=0) P;exact⟨⟨false,d⟩,by rw[e];intro g f;cases f⟩
end
def rf:lx:=⟨[(7,[(5,ZH 0)]),(11,[]),(15,[(6,ZH 0)]),(19,[(8,ZH 0)])],[],[],[],[]⟩
def qN{z B C E H I D J:Int}{K G L:WP}(W:PA b (.cells #[.ii z,.ii B,.ii C,.ii E,.ii H,.ii I,.ii D,.ii J,.slice K a c,.slice G i r,.slice L F c3] 30) λM=>(Ld 30 (ab_ b 0) M λX=>PC_ 7 #[X] M (kB λY t=>al Y (PC_ 8 #[] t (kB λZ a2=>rt A ((.bool Z)) a2) (pE A)) ((Ld 27 (ab_ b 0) t λa3=>PC_ 9 #[a3] t (λa4 u=>∃g k,a4= .tuple #[.pointer g,.ii k]/\al (k !=0) (al (k !=0) (PC_ 8 #[] u (kB λa5 a6=>rt A ((.bool a5)) a6) (pE A)) (rt A ((.bool false)) u)) (PR_ (eq_ .eql 33 (.tmp 21) (.const (.pointer none)) (.pointer g) (.pointer none)) u (kB λa7 h=>al a7 (al (k !=0) (PC_ 8 #[] h (kB λa8 a9=>rt A ((.bool a8)) a9) (pE A)) (rt A ((.bool false)) h)) ((rI h (ab_ b 0) λb0=>al (decide (b0>64)) (al (k !=0) (PC_ 8 #[] h (kB λb1 b2=>rt A ((.bool b1)) b2) (pE A)) (rt A ((.bool false)) h)) ((∃l:Nat->Int->ZU,(∃j,l j 0 h)/\∀(j:Nat) (P:Int) (f5:Nat->Value) (n:World),l j P n->(rS n (ab_ b (0+10)) λf6 b3 f7=>al (decide (P<(b3:Int))) ((rS n (ab_ b (0+10)) λb4 b5 f8=>(ix_ b4 P b5 λb6 b7=>(rI n (ad b6 (b7+Int.toNat P*10)) λb8=>al (b8==3) ((∃d,d<j/\l d (ZG .i64 (P+1)) n)) ((rS n (ab_ b (0+10)) λb9 c0 f9=>(ix_ b9 P c0 λc1 c2=>(rI n (ad c1 (c2+Int.toNat P*10)) λa0=>al (a0==5) ((∃d,d<j/\l d (ZG .i64 (P+1)) n)) ((rS n (ab_ b (0+10)) λc4 c5 g0=>(ix_ c4 P c5 λc6 c7=>(Ld 40 (ad c6 (c7+Int.toNat P*10)) n λc8=>PC_ 13 #[.pointer g,c8] n (kX_ 53 λg1 c9=>(∃v:Nat->ZU,(∃o,v o c9)/\∀(o:Nat) (g2:Nat->Value) (N:World),v o N->PC_ 12 #[.pointer g] N (kI_ λd0 O=>al (decide (d0>0)) (PC_ 13 #[.pointer g,.agg #[.ii 4,.ii 0,.ii 0,.ii 0,.ii 0,.ii 0,.ii 0,.ii 0,.ii 0,.ii 0]] O (λd1 Q=>∃R d2 d3 d4 d5 d6 d7 d8 d9 e0 e1 e2 e3 e4,d1= .agg #[.ii R,.ii d2,.ii d3,.ii d4,.slice d5 d6 d7,.slice d8 d9 e0,.slice e1 e2 e3,.bool e4]/\al (R !=0) (rt A ((.bool false)) Q) ((∃S,S<o/\v S Q))) (pE A)) ((∃d,d<j/\l d (ZG .i64 (P+1)) O))) (pE A))) (pE A))))))))))))) ((∃w:Nat->Int->ZU,(∃p,w p 0 n)/\∀(p:Nat) (m:Int) (g3:Nat->Value) (q:World),w p m q->(rI q (ab_ b 0) λe5=>al (decide (m<e5)) (PC_ 18 #[.pointer g,.ii m] q (kS_ λT x g4 e6=>(∃y:Nat->Int->ZU,(∃s,y s 0 e6)/\∀(s:Nat) (e:Int) (g5:Nat->Value) (f:World),y s e f->al (decide (e<(x:Int))) ((ix_ T e x λe7 e8=>(rI f (ad e7 (e8+Int.toNat e*10)) λe9=>al (e9 !=m) (rt A ((.bool false)) f) ((ix_ T e x λf0 f1=>(rI f (ad f0 (f1+Int.toNat e*10+1)) λf2=>al (f2 !=(ZG .i64 (e+1))) (rt A ((.bool false)) f) ((∃U,U<s/\y U (ZG .i64 (e+1)) f)))))))) ((∃V,V<p/\w V (ZG .i64 (m+1)) f)))) (pE A)) (PC_ 8 #[] q (kB λf3 f4=>rt A ((.bool f3)) f4) (pE A))))))))))) (pV A))) (pE A)))) (pE A))):PP 5 #[.agg #[.ii z,.ii B,.ii C,.ii E,.ii H,.ii I,.ii D,.ii J,.slice K a c,.slice G i r,.slice L F c3]] b A:=DC rf Tryz.func5 rfl W
def au.Cl.step(P:B.Cl){k:Nat}(a:k<B.l.length):au.add ⟨B.n,B.l.take k⟩ B.l[k]=(0,⟨B.n,B.l.take (k+1)⟩):=by
 have b:=(P.take (k:=k) oM).1;have g:=(P.take (k:=k+1) oM).1;rw[Qw,Qq a,Option.toList_some,au.nI,b]at g;rcases au.eT ⟨B.n,B.l.take k⟩ B.l[k]with⟨-,n⟩|⟨n,-⟩
 ·rw[n]at g
  have:=Zj (λc:au=>c.l.length) g;simp at this;omega
 ·rw[n]at g
  simp only at g;rw[n,g,Qw,Qq a,Option.toList_some]
def QS(n:(eW Q B d2 e q c6).2.1=true):(eW Q B d2 e q c6).1.origin=e:=by
 have o:∀g h,(aX c6 e g h).1=0->(aX c6 e g h).2.origin=e:=λg h n=>by
  unfold aX at n⊢;dsimp only at n⊢;split
  ·rename_i i;rw[Zx i]at n;cases n
  rename_i i;rw[Zq i]at n;split
  ·rename_i p;rw[Zx p]at n;cases n
  ·rfl
 have r:∀(a b:Prop) [Decidable a] [Decidable b] (d f c:ah×Bool×Int),d.2.1=false->f.2.1=false->(c.2.1=true->c.1.origin=e)->(if a then d else if b then f else c).2.1=true->(if a then d else if b then f else c).1.origin=e:=λa b _ _ d f c s t u P=>by
  by_cases j:a
  ·rw[Zx j]at P;rw[s]at P;cases P
  ·rw[Zq j]at P⊢
   by_cases k:b
   ·rw[Zx k]at P;rw[t]at P;cases P
   ·rw[Zq k]at P⊢;exact u P
 unfold eW at n⊢;dsimp only at n⊢
 by_cases l:iR Q c6≠0
 ·rw[Zx l]at n;cases n
 rw[Zq l]at n⊢
 cases m:B.keyed c6.key with
 |some v=>rw[m]at n;cases n
 |none=>
  rw[m]at n;exact r _ _ _ _ _ rfl rfl (λP=>o _ _ (XV P)) n
def Ts(d:B.Cl){i:Nat}(e:i<B.n)(P:∀l∈B.l,l.origin=(i:Int))(f:B.l[a]? =some l):l.seq=(a:Int)+1:=by
 obtain⟨n,rfl⟩:=Qv.1 f;have g:=d.step n;rcases au.eT ⟨B.n,B.l.take a⟩ B.l[a]with⟨b,-⟩|⟨-,-,-,c,-⟩
 ·rw[g]at b;exact Zz rfl b
 ·rw[P _ (XY n),Qx,au.qK (S:=⟨B.n,B.l.take a⟩) e]at c
  rw[c]
  congr 1
  unfold au.Ee;dsimp only;rw[List.countP_eq_length.2 λl h=>by rw[P l (List.mem_of_mem_take h)];simp,Qy,X2 (Nat.le_of_lt n)]
section
variable {w w' w0 w1 w2 wb:World} {p q i k g:Nat} {F F1 F' G G' T D E:ZN} {c:bR} {X Y:ey} {s:fS} {x:iF} {v:Value} {ta pa la:WP} {tn tc pn pc ln lc:Nat} {l:List fS}
def Own(i:Nat)(n:ah):Prop:=n.origin=(i:Int)
def Tt:cJ c X ⟨4,0,0,lf⟩=(bK (if(dK X.ef 0).isSome then 0 else 14),⟨X.aD,gC X.ef 0,X.now⟩):=by
 unfold cJ;rw[Zq dC,Zq dC,Zx rfl]
set_option maxHeartbeats 4000000 in
def uZ(A:fw w)(B:Laid w)(hd:bt w D c.decl ta tn pa pn)(hD:∀n,D n->n<w.heap.size)(M:Row MS 80 w E la ln l)(hE:∀n,E n->n<w.heap.size)(hs:aM c.bh)(d3:aM c.every)(N:aM c.start):
  PP 5 #[MR c ta tn tc pa pn pc la ln lc] w (Ok λv w'=>v= .bool true/\ai w w'):=by
 have g3:=M.len;refine qN (PA.mk λw1 O s1 g1=>ar (Vt c ta tn tc pa pn pc la ln lc) g1 (PC.ok (KR (hd.af O) (M.af O)) ?_));rintro _ w3 ⟨⟨b4,rfl,d4⟩,Q⟩;have m:=O.then Q;have b7:=Q.get g1 id;refine⟨_,rfl,al.mk (λ_=>QN A B m) (λd5=>?_)⟩;have d6:=d4 d5;refine To b7 (PC.ok (MQ A B m (hd.af m) (λn P=>by have:=hD n P;have:=m.size;omega) hs d3 N) ?_);rintro v5 C ⟨H,⟨b8,rfl⟩|⟨hz,p,F,rfl,R,hF,b9⟩⟩
 ·exact⟨_,_,rfl,al.eO (λ_=>al.eO (λ_=>QN A B (m.then H)) (λh=>Zz h b8)) (λh=>Zz h b8)⟩
 have S:=m.then H;have c1:=H.get b7 id;obtain⟨-,g4,g5,-⟩:=R.len;have z1:w.heap.size<w1.heap.size:=oM
 have z3:=Q.size;have z5:=H.size;have g6:=S.size;refine⟨_,_,rfl,al.eO (λh=>Zz rfl h) (λ_=>gW Tryz.underlying33 ⟨_,rfl,al.ff rfl ⟨_,ae c1 rfl,al.dec (λh=>oM) (λ_=>?_)⟩⟩)⟩;have a4:=Tp (Q:=Own) hz;generalize(AZ c).2=X0 at R b9 a4;refine⟨λa j w'=>∃(d:Nat) (k:ZN) (X:ey),j=d/\d<=ln/\a=ln-d/\cD w w' p k c X/\gD d X/\LC Own c X/\aj (λn=>w1.heap.size<=n) C w'/\∀n,k n->w1.heap.size<=n,
  ⟨_,0,F,X0,rfl,Qj _,rfl,R,b9,a4,aj.refl _,λn P=>by have:=hF n P;omega⟩,?_⟩
 rintro a _ _ x ⟨d,k,X,rfl,hj,rfl,I,T,U,o,V⟩;have d7:ai w x:=S.new o λn P=>.inr (by have P:w1.heap.size<=n:=P;omega);have y:=o.get c1 oM;have g7:=o.size;refine⟨_,_,_,ae y rfl,al.dec (λd8=>?_) (λd9=>?_)⟩
 ·have kE:aj (λn=>w1.heap.size<=n) w x:=(ai.keep S).then o
  have e0:=M.keep kE λn P h=>by have:=hE n P;omega
  obtain⟨n,r,s,es,W,g8,g9,h2,c2,rfl,a5⟩:=e0.HU (i:=d) oM;have c3:=c2 0 dC;have g:∃a,a<ln-d/\∃(J:Nat) (k:ZN) (X:ey),ZG .i64 ((d:Int)+1)=J/\J<=ln/\a=ln-J/\cD w x p k c X/\gD J X/\LC Own c X/\aj (λn=>w1.heap.size<=n) C x/\∀n,k n->w1.heap.size<=n:=⟨_,oM,d+1,k,X,an oM,oM,rfl,I,T.mono,U,o,V⟩
  refine⟨_,_,_,ae y rfl,n,r,W,oM,oM,_,by rw[Qx];exact c3,al.eN (λ_=>g) (λh3=>⟨_,_,_,ae y rfl,n,r,W,oM,oM,_,by rw[Qx];exact c3,al.eN (λ_=>g) (λh5=>⟨_,_,_,ae y rfl,n,r,W,oM,oM,?_⟩)⟩)⟩;rw[Qx];refine ck (es:=nQ s) (k:=10) (Ky s) rfl (λj ht=>c2 j ht) (PC.ok (Gc I T oM a5) ?_);rintro v9 w9 ⟨F9,c4,t,c5,Z⟩;have a6:LC Own c (cJ c X s).2:=QR U (I.facts N) a5 (λh=>by rcases h with h|h;exact Zz h h3;exact Zz h h5) λi f e he=>QS he;generalize cJ c X s=b2 at c4 t c5 a6;have z9:=Z.keep.size;have e1:∀n,F9 n->w1.heap.size<=n:=λn P=>(Z.new n P).elim (V n) λh=>by omega
  have e2:aj (λn=>w1.heap.size<=n) C w9:=o.then (Z.keep.mono λn _ P=>V n P);refine WB c4.at' ⟨λa w'=>∃(z:ZN) (Y:ey),a=Y.ef.length/\cD w w' p z c Y/\gD (d+1) Y/\LC Own c Y/\aj (λn=>w1.heap.size<=n) C w'/\∀n,z n->w1.heap.size<=n,⟨_,F9,b2.2,rfl,t,c5,a6,e2,e1⟩,?_⟩;rintro a _ c6 ⟨z,Y,rfl,a0,a1,a7,a2,K⟩;refine PC.ok (AY a0) ?_;rintro _ _ ⟨rfl,rfl⟩;refine⟨_,rfl,al.dec (λf3=>?_) (λe3=>⟨_,oM,d+1,z,Y,an oM,oM,rfl,a0,a1,a7,a2,K⟩)⟩;refine PC.ok (Gc (s:=⟨4,0,0,lf⟩) a0 a1 oM (ke rfl)) ?_;rintro h4 h6 ⟨e4,⟨sa,sn,sc,ea,en,ec,ra,rn,rc,G,rfl,-⟩,a8,-,a3⟩;have c7:(dK Y.ef 0).isSome=true:=QT dC oM;have e5:(gC Y.ef 0).length=Y.ef.length-1:=by
   unfold gC;rw[Zx c7,List.length_eraseIdx,Zx (by show 0<_;omega)]
  rw[Tt,c7]at a8⊢;have h7:=a3.keep.size;have f4:=a2.size;exact⟨_,_,_,_,_,_,_,_,_,_,_,_,_,_,rfl,al.eO (λh=>Zz rfl h) (λ_=>⟨_,by rw[e5];omega,e4,_,rfl,a8,a1.ef,a7,a2.then (a3.keep.mono λn _ P=>K n P),λn P=>(a3.new n P).elim (K n) λh=>oM⟩)⟩
 ·refine⟨λa j w'=>∃b:Nat,j=b/\b<=c.aD.toNat/\a=c.aD.toNat-b/\ai x w',⟨_,0,rfl,Qj _,rfl,aj.refl _⟩,?_⟩
  rintro a _ _ w9 ⟨b,rfl,he,rfl,L⟩;have e6:=L.get y id;have t:=I.af L;obtain⟨f6,-⟩:=t.len;have a9:∀f∈X.aD,f.S.l.length<=17000000:=λf e=>by have:=(T.aD f e).evs;omega
  refine⟨_,ae e6 rfl,al.dec (λd8=>?_) (λd9=>QN A B (d7.then L))⟩;have e:X.aD[b]? =some X.aD[b]:=Qq oM;have e7:=a9 X.aD[b] (XY oM);generalize X.aD[b]=f at e e7;obtain⟨⟨b3,c8⟩,-⟩:=U b f e;obtain⟨e8,hn,-⟩:=(t.facts N).cl f (QZ e);have b0:=c8.sub;refine PC.ok (KL t λf e=>by have:=a9 f e;omega) ?_;rintro _ c6 (⟨h,-⟩|⟨R1,u,h8,c9,h9,z,rfl,b1,e9,K⟩)
  ·rw[wY,e]at h;cases h
  rw[wY,e]at u;injection u with u;subst u;have f8:=b1.len dC;have d0:=b1.row (bytes:=96) dC ba;refine⟨_,_,_,rfl,λa j w'=>∃q:Nat,j=q/\q<=c9/\a=c9-q/\c6=w',⟨_,0,rfl,Qj _,rfl,rfl⟩,?_⟩;rintro a _ _ _ ⟨q,rfl,hq,rfl,rfl⟩;refine al.dec (λg0=>?_) (λg2=>⟨_,oM,b+1,an oM,oM,rfl,L.then e9⟩);obtain⟨n,r,ev,es,d1,P,-,hx,d2,a',n',c',rfl,-,-⟩:=d0.HU (i:=q) oM;have h0:=d2 0 dC;have u:=d2 1 dC;have ho:ev.origin=(b:Int):=b0 ev (QZ hx);have f2:ev.seq=(q:Int)+1:=Ts e8 (i:=b) oM b0 hx;have hw:ZG .i64 ((q:Int)+1)=(q:Int)+1:=by rw[an oM];omega
  refine⟨n,r,d1,oM,oM,_,by rw[Qx];exact h0,al.eO (λh=>Zz ho h) (λ_=>⟨n,r,d1,oM,oM,_,by rw[Qx];exact u,al.eO (λh=>Zz (by rw[hw];exact f2) h) (λ_=>⟨_,oM,q+1,an oM,oM,rfl,rfl⟩)⟩)⟩
end
end Go.Proofs.YtjgjkeponbeekaaGreatDoor
namespace Go.aw
open Go Go.WideShapes
variable{K:Bool}{f7:List MemPlace}{a:Nat}{h:Program}{J j:Type}{g:TypeId}{v:Value}{b:World}
def Q_{n:TypeId×Value->j}{f:Reach}{d:DataW j}{e:ky J}{i:Array Field}(k:h.underlying g=some (.struct i))(l:Reads h e g)(m:Value.okWide h b f a g v)(o:DataW.Trod n h b 0 (λ_=>true) K g v d f7)(p:mJ h g d):∃c cs,v= .agg cs/\e.rep b (In b) c cs.toList:=by
 obtain⟨cs,rfl,-⟩:=okWide_struct k m;obtain⟨P,q⟩:=o;obtain⟨c,r⟩:=l j n b K P cs.toList _ q p;exact⟨c,cs,rfl,r⟩
end Go.aw
namespace Go.Proofs.YtjgjkeponbeekaaGreatDoor
section
open Go.aw
structure WS (c:bR):Prop where
 aD:aM c.aD
 uG:aM c.uG
 bh:aM c.bh
 chunk:aM c.chunk
 buffer:aM c.buffer
 de:aM c.de
 every:aM c.every
 start:aM c.start
def WT:ky aS where
 k:=2
 rep:=λh D i cs=>∃n tn b P a c,cs=[.slice n tn b,.slice P a c]/\bt h D i n tn P a
 keep:=λ⟨n,tn,b,P,a,c,d,e⟩ j f=>⟨n,tn,b,P,a,c,d,e.keep j f⟩
 mono:=λ⟨n,tn,b,P,a,c,d,e⟩ f=>⟨n,tn,b,P,a,c,d,e.mono f⟩
 len:=λ⟨n,tn,b,P,a,c,d,_⟩=>by rw[d];rfl
 one:=λ⟨n,tn,b,P,a,c,d,_⟩ k g=>by rw[d]at g;simp at g;rcases g with rfl|rfl<;>rfl
def YJ:ky bR where
 k:=10
 rep:=λj D e cs=>∃n tn b P a c,cs=eV e n tn b P a c/\bt j D e.decl n tn P a/\WS e
 keep:=λ⟨n,tn,b,P,a,c,d,f,g⟩ k h=>⟨n,tn,b,P,a,c,d,f.keep k h,g⟩
 mono:=λ⟨n,tn,b,P,a,c,d,f,g⟩ h=>⟨n,tn,b,P,a,c,d,f.mono h,g⟩
 len:=λ⟨n,tn,b,P,a,c,d,_,_⟩=>by rw[d];rfl
 one:=λ⟨n,tn,b,P,a,c,d,_,_⟩ l i=>by rw[d]at i;simp[eV]at i;rcases i with rfl|rfl|rfl|rfl|rfl|rfl|rfl|rfl|rfl|rfl<;>rfl
def YK:ky lb:=flat 7 iQ lb.Ok (λ_=>rfl) (λP a n=>by simp[iQ]at n;rcases n with rfl|rfl|rfl|rfl|rfl|rfl|rfl<;>rfl)
def LN:Reads ZP jr 188:=λz f A P a cs B g C=>by
 obtain⟨h,E,_,rfl,i,j,n⟩:=DataW.trod_struct (Tryz.underlying188) g;have k:Tryz.prog.cellsOf 188=4:=kR
 have l:cs.length=4:=i.trans k;have m:Tryz.prog.cellsOf 3=1:=kR
 match cs,l with
 |[F,H,I,J],_=>
 match h,j with
 |[K,L,M,N],_=>
  have b:=n 0 _ rfl;have c:=n 1 _ rfl;have d:=n 2 _ rfl;have e:=n 3 _ rfl;simp only[m,List.drop_zero,List.drop_succ_cons,Zw,List.take_zero,List.take_nil,ZJ,ZZ]at b c d e;obtain⟨o,p,-,q⟩:=DataW.trod_int Tryz.underlying3 b;obtain⟨z1,r,-,s⟩:=DataW.trod_int Tryz.underlying3 c;obtain⟨t,u,-,v⟩:=DataW.trod_int Tryz.underlying3 d;obtain⟨w,x,-,y⟩:=DataW.trod_int Tryz.underlying3 e
  cases p;cases r;cases u;cases x
  exact⟨⟨o,z1,t,w⟩,rfl,bq q,bq s,bq v,bq y⟩
def OH:Reads ZP sG 121:=λL f M P a cs N g h=>by
 obtain⟨i,O,_,rfl,j,k,n⟩:=DataW.trod_struct (Tryz.underlying121) g;have l:Tryz.prog.cellsOf 121=4:=kR
 have m:cs.length=4:=j.trans l;have o:Tryz.prog.cellsOf 3=1:=kR
 have p:Tryz.prog.cellsOf 4=1:=kR
 have q:Tryz.prog.cellsOf 119=1:=kR
 match cs,m with
 |[Q,R,S,T],_=>
 match i,k with
 |[U,V,W,r],_=>
  have b:=n 0 _ rfl;have c:=n 1 _ rfl;have d:=n 2 _ rfl;have e:=n 3 _ rfl;simp only[o,p,q,List.drop_zero,List.drop_succ_cons,Zw,List.take_zero,List.take_nil,ZJ,ZZ]at b c d e;obtain⟨s,t,-,u⟩:=DataW.trod_int Tryz.underlying3 b;obtain⟨z1,v,-,w⟩:=DataW.trod_int Tryz.underlying3 c;obtain⟨x,y,-⟩:=DataW.trod_bool Tryz.underlying4 d;have z:mJ ZP 119 r.1:=by
   intro A B;refine h A ?_;have C:Tryz.prog.underlying 121=_:=Tryz.underlying121;simp only[DataW.weights,C,QY,List.map_nil,DataW.weightsEach,Q6];right;right;right;left;exact B
  obtain⟨E,F,H,I,J,-,-,K⟩:=open_row (bytes:=32) Tryz.underlying119 kR dC kR (LN) e z
  cases t;cases v;cases y;cases J
  exact⟨⟨s,z1,x,I⟩,E,F,H,rfl,K,bq u,bq w⟩
def OI:Reads ZP nB 118:=λx b y n P cs z c d=>by
 obtain⟨e,A,_,rfl,f,g,h⟩:=DataW.trod_struct (Tryz.underlying118) c;have i:Tryz.prog.cellsOf 118=1:=kR
 have j:cs.length=1:=f.trans i;have k:Tryz.prog.cellsOf 116=1:=kR
 match cs,j with
 |[B],_=>
 match e,g with
 |[l],_=>
  have a:=h 0 _ rfl;simp only[k,List.drop_zero,List.drop_succ_cons,Zw,List.take_zero,List.take_nil,ZJ,ZZ]at a;have m:mJ ZP 116 l.1:=by
   intro o p;refine d o ?_;have q:Tryz.prog.underlying 118=_:=Tryz.underlying118;simp only[DataW.weights,q,QY,List.map_nil,DataW.weightsEach,Q6];left;exact p
  obtain⟨r,s,t,u,v,-,-,w⟩:=open_row (bytes:=48) Tryz.underlying116 kR dC kR (OH) a m
  cases v
  exact⟨u,r,s,t,rfl,w⟩
def LO:Reads ZP BO 138:=λE g F P a cs H h I=>by
 obtain⟨i,J,_,rfl,j,k,n⟩:=DataW.trod_struct (Tryz.underlying138) h;have l:Tryz.prog.cellsOf 138=5:=kR
 have m:cs.length=5:=j.trans l;have o:Tryz.prog.cellsOf 3=1:=kR
 match cs,m with
 |[K,L,M,N,O],_=>
 match i,k with
 |[Q,R,S,T,U],_=>
  have b:=n 0 _ rfl;have c:=n 1 _ rfl;have d:=n 2 _ rfl;have e:=n 3 _ rfl;have f:=n 4 _ rfl;simp only[o,List.drop_zero,List.drop_succ_cons,Zw,List.take_zero,List.take_nil,ZJ,ZZ]at b c d e f;obtain⟨p,q,-,r⟩:=DataW.trod_int Tryz.underlying3 b;obtain⟨z1,s,-,t⟩:=DataW.trod_int Tryz.underlying3 c;obtain⟨u,v,-,w⟩:=DataW.trod_int Tryz.underlying3 d;obtain⟨x,y,-,z⟩:=DataW.trod_int Tryz.underlying3 e;obtain⟨A,B,-,C⟩:=DataW.trod_int Tryz.underlying3 f
  cases q;cases s;cases v;cases y;cases B
  exact⟨⟨p,z1,u,x,A⟩,rfl,bq r,bq t,bq w,bq z,bq C⟩
def LP:Reads ZP WT 25:=λI h J b c cs K i d=>by
 obtain⟨j,L,_,rfl,k,l,e⟩:=DataW.trod_struct (Tryz.underlying25) i;have m:Tryz.prog.cellsOf 25=2:=kR
 have o:cs.length=2:=k.trans m;have p:Tryz.prog.cellsOf 22=1:=kR
 have q:Tryz.prog.cellsOf 23=1:=kR
 match cs,o with
 |[M,N],_=>
 match j,l with
 |[r,s],_=>
  have f:=e 0 _ rfl;have g:=e 1 _ rfl;simp only[p,q,List.drop_zero,List.drop_succ_cons,Zw,List.take_zero,List.take_nil,ZJ,ZZ]at f g;have t:mJ ZP 22 r.1:=by
   intro n P;refine d n ?_;have a:Tryz.prog.underlying 25=_:=Tryz.underlying25;simp only[DataW.weights,a,QY,List.map_nil,DataW.weightsEach,Q6];left;exact P
  obtain⟨u,v,w,x,y,-,-,z⟩:=open_row (bytes:=24) Tryz.underlying22 kR dC kR (OI) f t;have A:mJ ZP 23 s.1:=by
   intro n P;refine d n ?_;have a:Tryz.prog.underlying 25=_:=Tryz.underlying25;simp only[DataW.weights,a,QY,List.map_nil,DataW.weightsEach,Q6];right;left;exact P
  obtain⟨B,C,E,z1,F,-,-,H⟩:=open_row (bytes:=40) Tryz.underlying23 kR dC kR (LO) g A
  cases y;cases F
  exact⟨⟨x,z1⟩,u,v,w,B,C,E,rfl,⟨z,H⟩⟩
def OJ:Reads ZP YJ 27:=λl a m P b cs a0 o p=>by
 obtain⟨q,n2,_,rfl,r,s,n⟩:=DataW.trod_struct (Tryz.underlying27) o;have t:Tryz.prog.cellsOf 27=10:=kR
 have u:cs.length=10:=r.trans t;have v:Tryz.prog.cellsOf 3=1:=kR
 have w:Tryz.prog.cellsOf 25=2:=kR
 match cs,u with
 |[v0,v1,v2,v3,v4,v5,v6,v7,v8,v9],_=>
 match q,s with
 |[y0,y1,y2,y3,y4,y5,y6,y7,x],_=>
  have c:=n 0 _ rfl;have d:=n 1 _ rfl;have e:=n 2 _ rfl;have f:=n 3 _ rfl;have g:=n 4 _ rfl;have h:=n 5 _ rfl;have i:=n 6 _ rfl;have j:=n 7 _ rfl;have k:=n 8 _ rfl;simp only[v,w,List.drop_zero,List.drop_succ_cons,Zw,List.take_zero,List.take_nil,ZJ,ZZ]at c d e f g h i j k;obtain⟨y,z,-,A⟩:=DataW.trod_int Tryz.underlying3 c;obtain⟨z1,B,-,C⟩:=DataW.trod_int Tryz.underlying3 d;obtain⟨E,F,-,H⟩:=DataW.trod_int Tryz.underlying3 e;obtain⟨I,J,-,K⟩:=DataW.trod_int Tryz.underlying3 f;obtain⟨L,M,-,N⟩:=DataW.trod_int Tryz.underlying3 g;obtain⟨O,Q,-,R⟩:=DataW.trod_int Tryz.underlying3 h;obtain⟨S,T,-,U⟩:=DataW.trod_int Tryz.underlying3 i;obtain⟨V,W,-,X⟩:=DataW.trod_int Tryz.underlying3 j;have Y:mJ ZP 25 x.1:=by
   intro Z hq;refine p Z ?_;have hu:Tryz.prog.underlying 27=_:=Tryz.underlying27;simp only[DataW.weights,hu,QY,List.map_nil,DataW.weightsEach,Q6];right;right;right;right;right;right;right;right;left;exact hq
  obtain⟨z8,r8⟩:=LP l a m P _ _ _ k Y
  cases z;cases B;cases F;cases J;cases M;cases Q;cases T;cases W
  obtain⟨ta,tn,tc,pa,pn,pc,he,hd⟩:=r8
  cases he
  exact⟨⟨y,z1,E,I,L,O,S,V,z8⟩,ta,tn,tc,pa,pn,pc,rfl,hd,bq A,bq C,bq H,bq K,bq N,bq R,bq U,bq X⟩
def OL:Reads ZP YK 38:=λM i N P a cs O j Q=>by
 obtain⟨k,R,_,rfl,l,m,n⟩:=DataW.trod_struct (Tryz.underlying38) j;have o:Tryz.prog.cellsOf 38=7:=kR
 have p:cs.length=7:=l.trans o;have q:Tryz.prog.cellsOf 3=1:=kR
 match cs,p with
 |[S,T,U,V,W,X,Y],_=>
 match k,m with
 |[Z,y1,y2,y3,y4,y5,y6],_=>
  have b:=n 0 _ rfl;have c:=n 1 _ rfl;have d:=n 2 _ rfl;have e:=n 3 _ rfl;have f:=n 4 _ rfl;have g:=n 5 _ rfl;have h:=n 6 _ rfl;simp only[q,List.drop_zero,List.drop_succ_cons,Zw,List.take_zero,List.take_nil,ZJ,ZZ]at b c d e f g h;obtain⟨r,s,-,t⟩:=DataW.trod_int Tryz.underlying3 b;obtain⟨z1,u,-,v⟩:=DataW.trod_int Tryz.underlying3 c;obtain⟨w,x,-,y⟩:=DataW.trod_int Tryz.underlying3 d;obtain⟨z,A,-,B⟩:=DataW.trod_int Tryz.underlying3 e;obtain⟨C,E,-,F⟩:=DataW.trod_int Tryz.underlying3 f;obtain⟨H,I,-,w5⟩:=DataW.trod_int Tryz.underlying3 g;obtain⟨J,K,-,L⟩:=DataW.trod_int Tryz.underlying3 h
  cases s;cases u;cases x;cases A;cases E;cases I;cases K
  exact⟨⟨r,z1,w,z,C,H,J⟩,rfl,bq t,bq v,bq y,bq B,bq F,bq L⟩
end
section
open Go.aw
def WU:ky (bR×List fS) where
 k:=11
 rep:=λo D i cs=>∃n tn d P a e b c f,cs=lu i.1 n tn d P a e b c f/\bt o D i.1.decl n tn P a/\WS i.1/\Row MS 80 o D b c i.2
 keep:=λ⟨n,tn,d,P,a,e,b,c,f,g,j,k,l⟩ p h=>⟨n,tn,d,P,a,e,b,c,f,g,j.keep p h,k,l.keep p h⟩
 mono:=λ⟨n,tn,d,P,a,e,b,c,f,g,j,k,l⟩ h=>⟨n,tn,d,P,a,e,b,c,f,g,j.mono h,k,l.mono h⟩
 len:=λ⟨n,tn,d,P,a,e,b,c,f,g,_⟩=>by rw[g];rfl
 one:=λ⟨n,tn,d,P,a,e,b,c,f,g,_⟩ q m=>by rw[g]at m;simp[lu,eV]at m;rcases m with rfl|rfl|rfl|rfl|rfl|rfl|rfl|rfl|rfl|rfl|rfl<;>rfl
def LQ:Reads ZP MS 40:=λh a i n b cs L j k=>by
 obtain⟨l,M,_,rfl,m,o,P⟩:=DataW.trod_struct (Tryz.underlying40) j;have p:Tryz.prog.cellsOf 40=10:=kR
 have q:cs.length=10:=m.trans p;have r:Tryz.prog.cellsOf 3=1:=kR
 have s:Tryz.prog.cellsOf 38=7:=kR
 match cs,q with
 |[N,O,Q,R,S,T,U,V,W,X],_=>
 match l,o with
 |[Y,Z,y2,t],_=>
  have c:=P 0 _ rfl;have d:=P 1 _ rfl;have e:=P 2 _ rfl;have f:=P 3 _ rfl;simp only[r,s,List.drop_zero,List.drop_succ_cons,Zw,List.take_zero,List.take_nil,ZJ,ZZ]at c d e f;obtain⟨u,v,-,w⟩:=DataW.trod_int Tryz.underlying3 c;obtain⟨z1,x,-,y⟩:=DataW.trod_int Tryz.underlying3 d;obtain⟨z,A,-,B⟩:=DataW.trod_int Tryz.underlying3 e;have C:mJ ZP 38 t.1:=by
   intro E F;refine k E ?_;have H:Tryz.prog.underlying 40=_:=Tryz.underlying40;simp only[DataW.weights,H,QY,List.map_nil,DataW.weightsEach,Q6];right;right;right;left;exact F
  obtain⟨I,J⟩:=OL h a i n _ _ _ f C
  cases v;cases x;cases A
  obtain⟨g,K⟩:=J;simp only[iQ,List.cons.injEq,and_true]at g;obtain⟨rfl,rfl,rfl,rfl,rfl,rfl,rfl⟩:=g;exact⟨⟨u,z1,z,I⟩,rfl,bq w,bq y,bq B,K⟩
def KU:Reads ZP WU 30:=λj P k n d cs O l e=>by
 obtain⟨m,Q,_,rfl,o,p,f⟩:=DataW.trod_struct (Tryz.underlying30) l;have q:Tryz.prog.cellsOf 30=11:=kR
 have r:cs.length=11:=o.trans q;have s:Tryz.prog.cellsOf 27=10:=kR
 have t:Tryz.prog.cellsOf 28=1:=kR
 match cs,r with
 |[R,S,T,U,V,W,X,Y,Z,v9,a0],_=>
 match m,p with
 |[u,v],_=>
  have g:=f 0 _ rfl;have h:=f 1 _ rfl;simp only[s,t,List.drop_zero,List.drop_succ_cons,Zw,List.take_zero,List.take_nil,ZJ,ZZ]at g h;have w:mJ ZP 27 u.1:=by
   intro a b;refine e a ?_;have c:Tryz.prog.underlying 30=_:=Tryz.underlying30;simp only[DataW.weights,c,QY,List.map_nil,DataW.weightsEach,Q6];left;exact b
  obtain⟨x,y⟩:=OJ j P k n _ _ _ g w;have z:mJ ZP 28 v.1:=by
   intro a b;refine e a ?_;have c:Tryz.prog.underlying 30=_:=Tryz.underlying30;simp only[DataW.weights,c,QY,List.map_nil,DataW.weightsEach,Q6];right;left;exact b
  obtain⟨A,B,C,z1,E,-,-,F⟩:=open_row (bytes:=80) Tryz.underlying28 kR dC kR (LQ) h z
  cases E
  obtain⟨H,tn,I,J,K,L,i,M,N⟩:=y;simp only[eV,List.cons.injEq,and_true]at i;obtain⟨rfl,rfl,rfl,rfl,rfl,rfl,rfl,rfl,rfl,rfl⟩:=i;exact⟨(x,z1),H,tn,I,J,K,L,A,B,C,rfl,M,N,F⟩

import Derived.Test.YtjgjkeponbeekaaGreatDoorKi18
import Derived.Test.YtjgjkeponbeekaaGreatDoorYiQue
set_option maxHeartbeats 4000000
set_option linter.all false
set_option maxRecDepth 100000
namespace Go.Proofs.YtjgjkeponbeekaaGreatDoor
open Go.au
def II:aM:=⟨[[⟨1,1,true,[]⟩,⟨2,3,false,[]⟩,⟨3,2,false,[]⟩,⟨4,2,false,[⟨0,1,0,2⟩,⟨1,0,-1,0⟩,⟨0,2,-1,0⟩]⟩,⟨2,2,false,[]⟩,⟨1,1,false,[]⟩]],[⟨0,0,1,0,2⟩,⟨0,2,2,0,1⟩,⟨0,5,3,4,4⟩]⟩
def fF(n:Int):bQ:=⟨n,131072,400,3,20,5,4,0,II⟩
variable{l:Array Value}{A:XT}{N e r:Int}{a4:List PanicEntry->XU}{d8:List bh}{E a c c2 i p:Nat}{f:XN}{C:Nat×Nat}{d e5 u:ZH}{j:Type}{g:TypeId}{M:Value->Prop}{m:XR}{b:World}{g4:World->(XN)->dU->Prop}{y:XU}{h5:World->XU}
def Row.ze{c:jt j}{bytes n:Nat}{D:XN}(d:b.heap[n]? =some (.cells l g C)){xs:List j}(k:bD c b D xs l.toList)(q:0<c.k)(P:xs.length*bytes<=aK):Row c bytes b (λa=>a=n\/D a) (XM n) xs.length xs:=
 ⟨rfl,P,λr s m=>by
  obtain⟨e,o,f⟩:=k.at m;have t:=c.len f;refine⟨n,0,e,rfl,ax d,.inl rfl,λh p=>?_,c.mono f λa P=>.inr P⟩;have i:=o h p;rw[Qq (show h<e.length by omega)]at i⊢;rw[Xz];exact ae d (by simpa using i)⟩
def i10(n:(decide (-1000000<=e)&&decide (e<=1000000))=true):aH e:=by
 simp only[QK,Zk]at n;unfold aH;omega
section
variable {w w' w0:World}
def KX:ZG 60 #[] w (Ok λu w'=>∃m tn v o p x G,u= .agg #[.slice m tn v,.slice o p x]/\bb w' G II m tn o p/\(∀n,G n->w.heap.size<=n/\n<w'.heap.size)/\ai w w'):=by
 refine EE (PA.mk λb y V z=>PA.mk λd A W B=>PA.mk λf q X C=>PA.mk λg k Y E=>PA.mk λr h Z F=>?_);have s:=((A.then q).then k).then h;refine PS.mk (s.get z id) sM λw6 H s6 I=>PS.mk I sM λc J s7 t=>⟨_,_,_,_,_,_,ae t rfl,ae t rfl,?_⟩
 have e:ak (λn=>n=w.heap.size) r c:=H.then J;have K:=e.get (h.get (k.get (q.get B id) id) id) (λP=>by have P:b.heap.size=w.heap.size:=P;omega);have L:=e.get (h.get (k.get C id) id) (λP=>by have P:d.heap.size=w.heap.size:=P;omega);have M:=e.get (h.get E id) (λP=>by have P:f.heap.size=w.heap.size:=P;omega);have N:=e.get F (λP=>by have P:g.heap.size=w.heap.size:=P;omega);have O:Row ix 32 c (λn=>n=b.heap.size\/False) (XM b.heap.size) 3 [⟨0,1,0,2⟩,⟨1,0,-1,0⟩,⟨0,2,-1,0⟩]:=
  Row.ze (c:=ix) (xs:=[⟨0,1,0,2⟩,⟨1,0,-1,0⟩,⟨0,2,-1,0⟩]) (D:=λ_=>False) K ⟨_,_,rfl,⟨rfl,i10 rfl,i10 rfl,i10 rfl,i10 rfl⟩,_,_,rfl,⟨rfl,i10 rfl,i10 rfl,i10 rfl,i10 rfl⟩,_,_,rfl,⟨rfl,i10 rfl,i10 rfl,i10 rfl,i10 rfl⟩,rfl⟩ dC dC
 have Q:Row rl 48 c (λn=>n=d.heap.size\/n=b.heap.size\/False) (XM d.heap.size) 6 [⟨1,1,true,[]⟩,⟨2,3,false,[]⟩,⟨3,2,false,[]⟩,⟨4,2,false,[⟨0,1,0,2⟩,⟨1,0,-1,0⟩,⟨0,2,-1,0⟩]⟩,⟨2,2,false,[]⟩,⟨1,1,false,[]⟩]:=by
  have no:∀(i j:Int) (l:Bool),aH i->aH j->rl.rep c (λn=>n=b.heap.size\/False) ⟨i,j,l,[]⟩ [XH i,XH j,.bool l,.slice none 0 0]:=λi j l R S=>⟨none,0,0,rfl,cT _ _,R,S⟩
  exact Row.ze (c:=rl) (xs:=[⟨1,1,true,[]⟩,⟨2,3,false,[]⟩,⟨3,2,false,[]⟩,⟨4,2,false,[⟨0,1,0,2⟩,⟨1,0,-1,0⟩,⟨0,2,-1,0⟩]⟩,⟨2,2,false,[]⟩,⟨1,1,false,[]⟩]) (D:=λn=>n=b.heap.size\/False) L ⟨_,_,rfl,no 1 1 true (i10 rfl) (i10 rfl),_,_,rfl,no 2 3 false (i10 rfl) (i10 rfl),_,_,rfl,no 3 2 false (i10 rfl) (i10 rfl),_,_,rfl,⟨_,_,_,rfl,O,i10 rfl,i10 rfl⟩,_,_,rfl,no 2 2 false (i10 rfl) (i10 rfl),_,_,rfl,no 1 1 false (i10 rfl) (i10 rfl),rfl⟩ dC dC
 have T:Row AM 40 c (λn=>n=f.heap.size\/False) (XM f.heap.size) 3 II.projs:=
  Row.ze (c:=AM) (xs:=[⟨0,0,1,0,2⟩,⟨0,2,2,0,1⟩,⟨0,5,3,4,4⟩]) (D:=λ_=>False) M ⟨_,_,rfl,⟨rfl,i10 rfl,i10 rfl,i10 rfl,i10 rfl,i10 rfl⟩,_,_,rfl,⟨rfl,i10 rfl,i10 rfl,i10 rfl,i10 rfl,i10 rfl⟩,_,_,rfl,⟨rfl,i10 rfl,i10 rfl,i10 rfl,i10 rfl,i10 rfl⟩,rfl⟩ dC dC
 have U:Row mB 24 c (λn=>n=g.heap.size\/n=d.heap.size\/n=b.heap.size\/False) (XM g.heap.size) 1 II.types:=
  Row.ze (c:=mB) (xs:=[[⟨1,1,true,[]⟩,⟨2,3,false,[]⟩,⟨3,2,false,[]⟩,⟨4,2,false,[⟨0,1,0,2⟩,⟨1,0,-1,0⟩,⟨0,2,-1,0⟩]⟩,⟨2,2,false,[]⟩,⟨1,1,false,[]⟩]]) (D:=λn=>n=d.heap.size\/n=b.heap.size\/False) N ⟨_,_,rfl,⟨_,_,_,rfl,Q⟩,rfl⟩ dC dC
 refine Ok.mk ⟨_,_,_,_,_,_,λn=>(n=g.heap.size\/n=d.heap.size\/n=b.heap.size\/False)\/n=f.heap.size\/False,rfl,⟨U.mono λn a=>.inl a,T.mono λn a=>.inr a⟩,λn a=>?_,?_⟩
 ·have z7:c.heap.size=r.heap.size:=oM
  rcases a with(rfl|rfl|rfl|a)|rfl|a<;>first|omega|exact a.elim
 ·exact(y.then s).new e λn a=>.inr (by have a:n=w.heap.size:=a;omega)
def IJ:ZG 24 #[XH e] w (Ok λk w'=>∃P tn d a b f G,k=vJ (fF e) P tn d a b f/\bb w' G II P tn a b/\(∀n,G n->w.heap.size<=n/\n<w'.heap.size)/\ai w w'):=by
 refine BY (PA.mk λq l r m=>PC.ok KX ?_);rintro _ s ⟨P,tn,d,a,b,f,G,rfl,o,g,h⟩;refine⟨_,_,_,_,_,_,rfl,az (GV (fF e) P tn d a b f) (h.get m id) rfl λt i u p=>ar (GV (fF e) P tn d a b f) p (Ok.mk ⟨P,tn,d,a,b,f,G,rfl,o.af i λn c j=>by have j:n=w.heap.size:=j;have:=g n c;omega,λn c=>by have:=g n c;omega,(l.then h).new i λn c=>.inr (by have c:n=w.heap.size:=c;omega)⟩)⟩
end
section
variable {w w' w0:World} {p q:Nat} {F G D E:XN} {c e:bQ} {self other:Int} {X Y:bh}
def Jt(c:bQ)(self:Int):(cA c self).2.fK.asked=[]:=by
 have n:(FK c).2.fK.asked=[]:=by unfold FK;rw[xd]
 unfold cA;split
 ·exact n
 split<;>exact n
end
section
variable {w w' w0 w1 w2 wb:World} {p i k g:Nat} {F F1 F' G G' T D:XN} {cls cls':Nat->Nat} {h:Jd} {c:bQ} {X:dU} {s:fI} {x:gE} {v:Value} {r:gE×dU} {now:Int} {rs:List (Nat×bh)} {ei:List bS} {y:Nat×bh} {R R':bh} {aD:List bh}
def ju.base(b:ju w1 f x v w2)(r:w.heap.size<=w1.heap.size):ju w f x v w2:=by
 obtain⟨c,d,e,g,h,i,j,k,l,G,m,o,p,q,n⟩:=b;exact⟨c,d,e,g,h,i,j,k,l,G,m,o,p,q,λP a=>⟨by have:=(n P a).1;omega,(n P a).2⟩⟩
def ju.at'(b:ju w f x v w2):dQ w x v w2:=by
 obtain⟨c,d,e,g,h,i,j,k,l,G,m,o,p,q,n⟩:=b;exact⟨c,d,e,g,h,i,j,k,l,G,m,o,p,q,λP a=>⟨(n P a).1,(n P a).2.1⟩⟩
def ju.new(b:dQ w x v w2)(c:∀n,f n->n<w.heap.size):ju w f x v w2:=by
 obtain⟨d,e,g,h,i,j,k,l,m,G,o,p,q,r,P⟩:=b;exact⟨d,e,g,h,i,j,k,l,m,G,o,p,q,r,λn a=>⟨(P n a).1,(P n a).2,λs=>by have:=c n s;have:=P n a;omega⟩⟩
def zM{n:jt j}{bytes:Nat}(h:Row n bytes w D d a []):Row n bytes w (λ_=>False) d a []:=by
 have:=h.len;simp at this;subst this;exact⟨rfl,by unfold aK;omega,λi y P=>by simp at P⟩
def ju.flat(e:dQ w x v w2)(n:x.st.cells=[])(P:x.Jg=[])(a:x.rows=[]):ju w f x v w2:=by
 obtain⟨g,h,i,j,k,l,m,o,p,G,q,b,c,d,s⟩:=e;rw[n]at b;rw[P]at c;rw[a]at d;exact⟨g,h,i,j,k,l,m,o,p,λ_=>False,q,by rw[n];exact zM b,by rw[P];exact zM c,by rw[a];exact zM d,λt r=>r.elim⟩
def Tn(s:ju wb f x v w1)(t:w1.heap[g]? =some (.cells l 53 (0,0)))(u:8=l.size)(E:g<wb.heap.size)(w:∀w2,ak (·=g) w1 w2->ju wb f x v w2->m v w2):
  tH (dv XP 53) λy=>v=y/\nq XP 53 (XL g) y w1 λw2=>iK XP 53 (XL g) w2 λr=>Ok m (.returned r) w2:=by
 obtain⟨a,b,c,d,e,h,i,j,k,G,rfl,z,A,B,o⟩:=s;have q:∀n,G n->¬n=g:=λn P F=>by have:=o n P;omega
 exact bO (Li x a b c d e h i j k) ⟨rfl,az (gP x a b c d e h i j k) t u λw2 p H C=>ar (gP x a b c d e h i j k) C (Ok.mk (w w2 p ⟨a,b,c,d,e,h,i,j,k,G,rfl,z.af p q,A.af p q,B.af p q,λn P=>⟨(o n P).1,by have:=(o n P).2.1;omega,(o n P).2.2⟩⟩))⟩
def Rn(i:OD g4 a)(j:Lh g4 wb F1 k r v w1)(c:bL F w F1 wb)(A:a<=w.heap.size)(d:wb.heap[g]? =some (.cells l 53 (0,0)))(m:8=l.size)(B:w.heap.size<=g)(e:¬F1 g):
  tH (dv XP 53) λy=>v=y/\nq XP 53 (XL g) y w1 λw2=>iK XP 53 (XL g) w2 λo=>Ok (Lh g4 w F k r) (.returned o) w2:=by
 obtain⟨p,q,s,t,b⟩:=j;have u:=ax d;exact Tn q (b.af.get d e) m u λw2 f x=>⟨p,x.base c.af.size,i _ _ _ _ _ s f (λP z n=>by have n:P=g:=n;subst n;exact(b.new P z).elim e λh=>oM) (λP n=>by have n:P=g:=n;omega),t,(c.trans b).last f λP n=>by have n:P=g:=n;omega⟩
def To(c:OD g4 a){no:Int}(d:g4 w1 F1 X)(e:fJ k X)(f:bL F w F1 w1)(q:a<=w.heap.size)(h:w1.heap[g]? =some (.cells l 53 (0,0)))(i:8=l.size)(r:w.heap.size<=g)(j:¬F1 g):
  nq XP 53 (XL g) (.agg #[XH no,XH 0,XH 0,XH 0,.slice none 0 0,.slice none 0 0,.slice none 0 0,.bool false]) w1 λw2=>iK XP 53 (XL g) w2 λm=>Ok (Lh g4 w F k (bu no,X)) (.returned m) w2:=
 az (gP (bu no) none 0 0 none 0 0 none 0 0) h i λw2 b s o=>ar (gP (bu no) none 0 0 none 0 0 none 0 0) o (Ok.mk ⟨F1,.flat (dQ.plain rfl rfl rfl) rfl rfl rfl,c _ _ _ _ _ d b (λP p n=>by have n:P=g:=n;subst n;exact j p) (λP n=>by have n:P=g:=n;omega),e,f.last b λP n=>by have n:P=g:=n;omega⟩)
def pH(n:iq w0 wb p F1 c k r v w1)(P:bL F w F1 wb)(a:w0.heap.size<=w.heap.size)(b:wb.heap[g]? =some (.cells l 53 (0,0)))(d:8=l.size)(e:w.heap.size<=g)(f:¬F1 g):
  tH (dv XP 53) λy=>v=y/\nq XP 53 (XL g) y w1 λw2=>iK XP 53 (XL g) w2 λh=>Ok (iq w0 w p F c k r) (.returned h) w2:=Rn CO n P a b d e f
def Ev(n:bY w0 w1 p F1 c X)(P:fJ k X)(a:bL F w F1 w1)(b:w0.heap.size<=w.heap.size)(d:w1.heap[g]? =some (.cells l 53 (0,0)))(e:8=l.size)(f:w.heap.size<=g)(h:¬F1 g):
  nq XP 53 (XL g) (.agg #[XH 0,XH 0,XH 0,XH 0,.slice none 0 0,.slice none 0 0,.slice none 0 0,.bool false]) w1 λw2=>iK XP 53 (XL g) w2 λi=>Ok (iq w0 w p F c k (bu 0,X)) (.returned i) w2:=To CO n P a b d e f h
def OE{no:Int}:ZG 35 #[XH no] w (Ok λv w'=>dQ w (bu no) v w'/\ai w w'):=
 zN (PA.mk λw2 P e a=>az (gP (bu no) none 0 0 none 0 0 none 0 0) a rfl λf b g c=>ar (gP (bu no) none 0 0 none 0 0 none 0 0) c (Ok.mk ⟨dQ.plain rfl rfl rfl,P.new b λd n=>.inr (by have n:d=w.heap.size:=n;omega)⟩))
def gl{no:Int}(P:bY w0 w p F c X)(a:fJ k X):ZG 35 #[XH no] w (Ok (iq w0 w p F c k (bu no,X))):=
 Calls.ok OE λv w' ⟨b,n⟩=>⟨F,.flat b rfl rfl rfl,P.ah n,a,bL.of n⟩
def Ew:(eG d8 e).isSome=decide (0<=e/\e<d8.length):=by
 by_cases h:0<=e/\e<d8.length
 ·rw[Zy h];unfold eG
  rw[Zx h.1,Qq oM];rfl
 ·rw[Xv h,Jh.2 oM];rfl
def cF.n(n:cF w F cls p h now c rs ei)(P:h.ps=rs.map (·.1)):h.n=rs.length:=by
 have:=n.mu.len dC;rw[P,Q8]at this;exact this
def qS(b:bY w0 w p F c X):ZG 27 #[XL p,XH e] w (Ok λv w'=>v= .bool (eG X.aD e).isSome/\w=w'):=by
 obtain⟨h,cls,rs,a,d,f,i,j,k⟩:=b;have g:=a.n d;rw[Ew,f,Q8];refine mM (an.dec (λP=>⟨p,0,rfl,_,_,_,ae a.cell rfl,Ok.mk ⟨?_,rfl⟩⟩) (λP=>Ok.mk ⟨?_,rfl⟩))
 ·rw[g];congr 1;exact decide_eq_decide.2 ⟨λn=>⟨P,n⟩,λn=>n.2⟩
 ·congr 1;exact(Xv λn=>P n.1).symm
def cF.ptr(b:cF w F cls p h now c rs ei)(d:h.ps=rs.map (·.1))(f:rs[i]? =some y)(q:rs.length<=1000):∃n P,h.a=some ⟨n,P,none⟩/\i<h.n/\w.cell? ⟨n,P+i,none⟩=some (XL y.1)/\F n/\cls n=0:=by
 have r:=b.n d;have s:=(Qv.1 f).1;obtain⟨n,P,g,t,j,-,k,a,e,l⟩:=(b.mu.row (bytes:=8) dC (by rw[d,Q8];unfold aK;omega)).yP (i:=i) oM;have m:g=y.1:=by rw[d,Q9,f]at a;injection a with a;exact a.symm
 obtain⟨rfl,-⟩:=l;have e:=e 0 dC;subst m;have o:=b.c0.2.2.2 n k;exact⟨n,P,j,oM,by simpa[show Vv.k=1 from rfl]using e,o.1⟩
def cF.self(n:cF w F cls p h now c rs ei):F p/\cls p=0:=n.c0.1
def lJ{c g:Type}{f:c->g}:∀{n:List c} {d:Nat} {a b:c},n[d]? =some a->f b=f a->(n.set d b).map f=n.map f
 |x::n,0,a,b,P,e=>by simp at P;subst P;simp[e]
 |x::n,d+1,a,b,P,e=>by simp at P;simp[lJ P e]
def bY.Ji(n:cF w F cls p h now c (rs.set i (y.1,R')) ei)(P:rs[i]? =some y)(a:h.ps=rs.map (·.1))(b:aD=rs.map (·.2))(d:rs.length=c.aD.toNat)(e:iY c 0)(f:Env w0 w F):bY w0 w p F c ⟨aD.set (i:Int).toNat R',ei,now⟩:=
 ⟨h,cls,_,n,by rw[a];exact(lJ (f:=(·.1)) (b:=(y.1,R')) P rfl).symm,by dsimp only;rw[b,List.map_set,Qx],by rw[List.length_set];exact d,e,f⟩
def iq.rep{R':bh}(e:cF w F cls p h X.now c rs X.ei)(f:h.ps=rs.map (·.1))(g:X.aD=rs.map (·.2))(j:rs.length=c.aD.toNat)(l:iY c 0)(m:Env w0 w F)(a:rs[i]? =some y)(o:dQ w x v w')(q:x.st.cells=[])(r:x.Jg=[])(s:x.rows=[])(t:bP w' y.1 G' c i R')(u:bL (λb=>F b/\cls b=i+2) w G' w')(n:fJ k X)(z:Fit (k+1) R'):
  iq w0 w p F c (k+1) (x,⟨X.aD.set (i:Int).toNat R',X.ei,X.now⟩) v w':=by
 obtain⟨F1,E,P,d,H,-⟩:=CN e eP a t u;refine⟨F1,.flat o q r s,bY.Ji P a f g j l (m.gC d),?_,d⟩;exact⟨λA B=>(List.mem_or_eq_of_mem_set B).elim (λP=>(n.aD A P).mono) λC=>C▸z,n.Ms,by have h:=n.now;show X.now<=_;omega⟩
def GK(a:aw)(n:Int)(P:bS)(b:Int):(lr a n P b).length<=2:=by
 have d:∀(c:Prop) [Decidable c] (e:bS),(if c then [e]else([]:List bS)).length<=1:=λc _ e=>by split<;>simp
 unfold lr
 by_cases f:P.kind≠1/\P.kind≠2
 ·rw[Zx f];simp
 rw[Zq f];have h:=d (0<(a.missing P.vec (max 1 (min b 32))).length) ⟨3,n,P.bt,[],a.missing P.vec (max 1 (min b 32))⟩;have i:=d (P.kind=1/\(lK P.vec a.vec=2\/lK P.vec a.vec=3)) ⟨2,n,P.bt,a.vec,[]⟩;dsimp only;generalize(if 0<(a.missing P.vec (max 1 (min b 32))).length then [(⟨3,n,P.bt,[],a.missing P.vec (max 1 (min b 32))⟩:bS)]else [])=j at h;generalize(if P.kind=1/\(lK P.vec a.vec=2\/lK P.vec a.vec=3)then [(⟨2,n,P.bt,a.vec,[]⟩:bS)]else [])=k at i
 by_cases g:(j++k).isEmpty=true
 ·rw[Zx g];simp
 ·rw[Zq g,QX];omega
def GM(c:bQ)(n:Int)(X:bh)(P:bS):(cg c n X P).1.length<=2:=by
 unfold cg
 cases X.log with
 |none=>simp
 |some a=>
  dsimp only;split
  ·simp
  split
  ·simp
  split
  ·unfold nz
   dsimp only;split
   ·simp
   split<;>simp
  split
  ·exact GK _ _ _ _
  split<;>simp
def vH(n:cF w F cls p h now c rs ei)(P:rs[i]? =some y)(b:F a/\cls a=0):¬(F a/\cls a=i+2):=λd=>by omega
def CP(o:bY w0 w p F c X)(q:fJ k X)(hk:k<=1000)(b:Option bS){A M B N:Nat}(hv:Row aJ 8 w D d A (b.getD tQ).vec)(b1:Row jo 96 w D u B (b.getD tQ).events)(r:∀P,D P->P<w.heap.size/\¬F P):
  ZG 61 #[XL p,gQ (b.getD tQ) d A M u B N,.bool b.isSome] w (Ok (iq w0 w p F c (k+1) (j_ c X b))):=by
 have a1:=o.aB;have C:=o.env.gr.size;refine mN (PA.mk λw1 k1 s1 O=>PA.mk λw2 E s2 H=>?_);have i:=k1.then E;have I:=o.ah i;have z2:=i.size;have s:¬F w1.heap.size:=λa=>by have:=a1 _ a;omega
 cases b with
 |none=>exact an.tt rfl (PC.ok (gl I q.mono) λv w' j=>pH j (bL.of i) C H rfl oM s)
 |some n=>
  refine an.ff rfl ⟨_,ae (E.get O id) rfl,PC.ok (qS I) ?_⟩;rintro _ _ ⟨rfl,rfl⟩;refine⟨_,rfl,?_⟩;show an (!(eG X.aD n.ns).isSome) _ _
  cases J:eG X.aD n.ns with
  |none=>
   have a:j_ c X (some n)=(bu 1,X):=by unfold j_;dsimp only;rw[J]
   rw[a];exact an.tt rfl (PC.ok (gl I q.mono) λv w' j=>pH j (bL.of i) C H rfl oM s)
  |some R=>
   obtain⟨e,Q,S⟩:=ke J;have a:j_ c X (some n)=(bu (cg c e R n).2.1,X.put e (cg c e R n).2.2 (cg c e R n).1):=by unfold j_;dsimp only;rw[J];dsimp only;rw[Q]
   rw[a];refine an.ff rfl λT d3=>?_;have t:ai w2 T:=d3.af;have l:=i.then t;obtain⟨h,cls,rs,f,U,K,a5,L,V⟩:=o.ah l;obtain⟨a6,b8,b9⟩:=L.aD;rw[K,Q9]at S;obtain⟨y,g,rfl⟩:=Option.map_eq_some_iff.1 S;obtain⟨P,b,b2,c0,a2,c1⟩:=f.ptr U g oM;have W:=t.get (E.get O id) id;have Y:=cF.rep f g;have a7:y.2∈X.aD:=by rw[K];exact Xk.2 ⟨y,QZ g,rfl⟩
   have Z:=q.aD _ a7;have b3:=Y.waits;have b4:=L.OF;have z3:=l.size;have c2:=t.size;refine⟨p,0,rfl,_,_,_,ae f.cell rfl,_,ae W rfl,P,b,b2,by show(0:Int)<=n.ns;omega,by show n.ns<_;omega,_,by show T.cell? ⟨P,b+Int.toNat n.ns,none⟩=_;rw[Q,Qx];exact a2,ar (dV n d A M u B N) W ?_⟩;refine PC.ok (GN Y V.part (hv.ah l) (λP m=>⟨by have:=(r P m).1;omega,λa=>(r P m).2 a.1⟩) (b1.ah l) (λP m=>⟨by have:=(r P m).1;omega,λa=>(r P m).2 a.1⟩) (by have:=Z.evs;omega)) ?_;rintro _ w4 ⟨v1,G',rfl,x,a8,a0⟩;have a9:=BS c e y.2 n b3 b4.2;have b0:=GM c e y.2 n;generalize cg c e y.2 n=dl at x a8 a9 b0;obtain⟨oa,on,oc,a3,Do,rfl,x⟩:=x;have np:=vH f g f.self;refine⟨oa,on,oc,_,rfl,p,0,rfl,_,ae (a0.af.get f.cell np) rfl,?_⟩;refine PC.ok (zK f g a8 a0 ⟨oa,on,oc,a3,Do,rfl,x⟩ oM) ?_;rintro _ w5 ⟨a4,F5,c3,rfl,b5,z,-⟩;have b6:¬F5 w1.heap.size:=λa=>(z.new _ a).elim s λh=>by omega
   have b7:bY w0 w5 p F5 c (X.put e dl.2.2 dl.1):=bY.Ji b5 g U K a5 L (V.gC z);exact⟨a4,rfl,PC.ok (gl b7 (q.put (Z.GO a9))) λv w' j=>pH j (bL.after l z) C (z.af.get (t.get H id) s) rfl oM b6⟩
def cF.take(P:cF w F cls p h now c rs ei)(d:aH e):ZG 62 #[XL h.q,XH e] w (Ok λv w'=>zO w (eH ei e) v w'/\cF w' F cls p h now c rs (gR ei e)/\ak (λa=>F a/\cls a=1) w w'):=by
 refine Calls.ok (GP P.UB d) λv w' ⟨f,g,b⟩=>⟨f,?_,b⟩
 refine aT.same P eP b g λi G j n=>?_
 match i,j,n with
 |0,_,n=>exact n
 |k+2,_,n=>exact n
def GQ(b:bY w0 w p F c X)(q:fJ k X)(r:k<=1000)(t:s.Ok):
  ZG 29 #[XL p,iS s] w (Ok (iq w0 w p F c (k+1) (j_ c ⟨X.aD,gR X.ei s.n,X.now⟩ (eH X.ei s.n)))):=by
 have d:=b.aB;have u:=b.env.gr.size;refine kW (PA.mk λw1 x O y=>PA.mk λw2 e Q z=>λi A=>?_);have f:ai w2 i:=A.af;have g:=(x.then e).then f;have R:=g.size;have S:=e.size;obtain⟨h,cls,rs,j,B,C,E,H,I⟩:=b.ah g;refine⟨p,0,rfl,_,ae j.cell rfl,_,ae (f.get (e.get y id) id) rfl,PC.ok (j.take t.n) ?_⟩;rintro _ J ⟨⟨T,U,V,W,Y,Z,G,rfl,K,L,l⟩,M,m⟩;have o:bL F i F J:=⟨m.mono λP _ n=>n.1,λP n=>.inl n⟩
 refine bO (CQ _ _ _ _ _ _ _) ⟨_,rfl,PC.ok (CP (X:=⟨X.aD,gR X.ei s.n,X.now⟩) ⟨h,cls,rs,M,B,C,E,H,I.gC o⟩ q.ei r _ K L λP n=>⟨(l P n).2,λa=>by have:=d P a;have:=l P n;omega⟩) λv w' N=>pH N (bL.after g o) u (m.get (f.get z id) λa=>by have:=d _ a.1;omega) rfl oM λa=>by have:=d _ a;omega⟩
def Jj(n:bY w0 w p F c X)(m:fJ k X)(o:k<=1000)(C:s.Ok):
  ZG 30 #[XL p,iS s] w (Ok (iq w0 w p F c (k+1) (j_ c X (eH X.ei s.n)))):=by
 have g:=n.aB;have q:=n.env.gr.size;refine lL (PA.mk λw1 r E t=>PA.mk λw2 a H u=>λx y=>?_);have b:ai w2 x:=y.af;have P:=(r.then a).then b;have I:=P.size;have J:=a.size;obtain⟨h,cls,rs,i,-⟩:=n.ah P;refine⟨p,0,rfl,_,ae i.cell rfl,_,ae (b.get (a.get t id) id) rfl,PC.ok (wZ i.UB) ?_⟩;rintro _ K ⟨⟨L,M,N,O,Q,R,G,rfl,z,A,j⟩,d⟩;refine bO (CQ _ _ _ _ _ _ _) ⟨_,rfl,PC.ok (CP (n.ah (P.then d)) m o _ z A λe l=>⟨(j e l).2,λf=>by have:=g e f;have:=j e l;omega⟩) λv w' B=>pH B (bL.of (P.then d)) q (d.get (b.get u id) id) rfl oM λf=>by have:=g _ f;omega⟩
def OG(u:bY w0 w p F c X)(B:fJ k X)(C:s.Ok):
  ZG 31 #[XL p,iS s] w (Ok (iq w0 w p F c k (bu (if(eH X.ei s.n).isSome then 0 else 14),⟨X.aD,gR X.ei s.n,X.now⟩))):=by
 have i:=u.aB;have E:=u.env.gr.size;refine nB (PA.mk λw1 O s1 Q=>PA.mk λw2 x s2 R=>λe S=>?_);have m:ai w2 e:=S.af;have j:=(O.then x).then m;have z3:=j.size;have z2:=x.size;have b0:=m.size;obtain⟨h,cls,rs,o,T,U,V,W,Y⟩:=u.ah j;have Z:=m.get (x.get Q id) id;have H:=m.get R id;have I:=o.self;have l:∀{b:World} (n:Bool),cF b F cls p h X.now c rs (gR X.ei s.n)->bL F e F b->b.heap[w1.heap.size]? =some (.cells (fk (bu 0) none 0 0 none 0 0 none 0 0).toArray 53 (0,0))->an (!n) (PC XP 35 #[XH 14] b (λa4 a5=>tH (dv XP 53) λJ=>a4=J/\nq XP 53 (XL w1.heap.size) J a5 λK=>iK XP 53 (XL w1.heap.size) K λa6=>Ok (iq w0 w p F c k (bu (if n then 0 else 14),⟨X.aD,gR X.ei s.n,X.now⟩)) (.returned a6) K) (λch a0=>Ok (iq w0 w p F c k (bu (if n then 0 else 14),⟨X.aD,gR X.ei s.n,X.now⟩)) (.panicked ch) a0))
   (nq XP 53 (XL w1.heap.size) (.agg #[XH 0,XH 0,XH 0,XH 0,.slice none 0 0,.slice none 0 0,.slice none 0 0,.bool false]) b λL=>iK XP 53 (XL w1.heap.size) L λa7=>Ok (iq w0 w p F c k (bu (if n then 0 else 14),⟨X.aD,gR X.ei s.n,X.now⟩)) (.returned a7) L):=λ{b} n y z q=>by
  have M:bY w0 b p F c ⟨X.aD,gR X.ei s.n,X.now⟩:=⟨h,cls,rs,y,T,U,V,W,Y.gC z⟩
  cases n with
  |false=>exact an.tt rfl (PC.ok (gl M B.ei) λv w' hq=>pH hq (bL.after j z) E q rfl oM λP=>by have:=i _ P;omega)
  |true=>exact an.ff rfl (Ev M B.ei (bL.after j z) E q rfl oM λP=>by have:=i _ P;omega)
 have r:∀n,w.heap.size<=n->¬(F n/\cls n=1):=λn a P=>by have:=i _ P.1;omega
 have a8:=i p I.1;refine⟨λn=>(F n/\cls n=1)\/e.heap.size<=n,p,0,rfl,λP=>P.elim (λh=>by have:=h.2;have:=I.2;omega) (λh=>Nat.lt_irrefl _ (Qk a8 (Xx j.size h))),_,ae o.cell rfl,λP=>P.elim (r _ oM) (λh=>by have h:e.heap.size<=w.heap.size:=h;omega),_,ae Z rfl,PC.ok (o.take C.n) ?_,PA.mk λt d s4 g4=>⟨ai.af d,PC.ok (cF.take (cF.ah o d) C.n) ?_⟩⟩
 ·rintro _ t ⟨⟨va,vn,vc,ea,en,ec,G,rfl,-⟩,a9,d⟩
  have z4:=d.size;refine bO (CQ _ _ _ _ _ _ _) ⟨_,rfl,d.mono λn _ a=>.inl a,PA.mk λb f s5 q=>⟨ai.af f,az (dV _ _ _ _ _ _ _) q rfl λN g s6 g6=>⟨g.mono λn a P=>.inr (by have P:n=t.heap.size:=P;omega),?_⟩⟩⟩;have A:ai t N:=f.new g λn a=>.inr (by have a:n=t.heap.size:=a;omega);exact l (eH X.ei s.n).isSome (cF.ah a9 A) ⟨(d.mono λn _ a=>a.1).then (ai.af A),λn a=>.inl a⟩ (A.get (d.get H (r _ oM)) id)
 ·rintro _ b ⟨⟨va,vn,vc,ea,en,ec,G,rfl,-⟩,y,f⟩
  have z5:=f.size;refine bO (CQ _ _ _ _ _ _ _) ⟨_,rfl,f.mono λn _ a=>.inl a,az (dV _ _ _ _ _ _ _) (f.get g4 (r _ oM)) rfl λN g s6 g6=>⟨g.mono λn a P=>.inr (by have P:n=e.heap.size:=P;omega),?_⟩⟩;refine l (eH X.ei s.n).isSome (aT.af y eP g λn a P=>by have P:n=e.heap.size:=P;have:=i _ a;omega) ⟨?_,λn a=>.inl a⟩ (g.get (f.get (d.get H id) (r _ oM)) λP=>by have P:w1.heap.size=e.heap.size:=P;omega);exact((ai.af d).then (f.mono λn _ a=>a.1)).new g λn P=>.inr (by have P:n=e.heap.size:=P;omega)
end
section
variable {w w' w0 w1 w2 wb:World} {p i k g:Nat} {F F1 F' G G' T D:XN} {cls cls':Nat->Nat} {h:Jd} {c:bQ} {X:dU} {s:fI} {x:gE} {v:Value} {r:gE×dU} {now:Int} {rs:List (Nat×bh)} {ei:List bS} {y:Nat×bh} {R R':bh} {aD:List bh}
def OH(c:bQ)(n:Int)(X:bh)(P now:Int):(gS c n X P now).1.length<=1:=by
 unfold gS;split<;>simp
def Jk(j:bY w0 w p F c X)(b:eG X.aD i=some R):∃h cls rs y,cF w F cls p h X.now c rs X.ei/\h.ps=rs.map (·.1)/\X.aD=rs.map (·.2)/\rs.length=c.aD.toNat/\iY c 0/\Env w0 w F/\rs[i]? =some y/\y.2=R/\(∃n d,h.a=some ⟨n,d,none⟩/\i<h.n/\w.cell? ⟨n,d+i,none⟩=some (XL y.1)/\F n/\cls n=0)/\R∈X.aD:=by
 obtain⟨h,cls,rs,e,f,P,k,g,l⟩:=j;obtain⟨m,o,q⟩:=g.aD;rw[CR,P,Q9]at b;obtain⟨y,a,rfl⟩:=Option.map_eq_some_iff.1 b;exact⟨h,cls,rs,y,e,f,P,k,g,l,a,rfl,e.ptr f a oM,by rw[P];exact Xk.2 ⟨y,QZ a,rfl⟩⟩
def OI(b:bY w0 w p F c X)(t:fJ k X)(Q:s.Ok)(u:eG X.aD s.n=some R):
  ZG 33 #[XL p,iS s] w (Ok (iq w0 w p F c (k+1) (if(eG X.aD s.m).isNone\/s.m=s.n then(bu 1,X)else(bu 0,X.put s.n (gS c s.n R s.m X.now).2 (gS c s.n R s.m X.now).1)))):=by
 have S:=b.aB;have C:=b.env.gr.size;refine nC (PA.mk λw1 T s1 U=>PA.mk λw2 E s2 H=>?_);have d:=T.then E;have z2:=d.size;have x:∀n,w.heap.size<=n->¬F n:=λn f a=>by have:=S _ a;omega
 have g:=E.get U id;have no:∀{r},r=(bu 1,X)->PC XP 35 #[XH 1] w2 (λv w'=>tH (dv XP 53) λy=>v=y/\nq XP 53 (XL w1.heap.size) y w' λw2=>iK XP 53 (XL w1.heap.size) w2 λV=>Ok (iq w0 w p F c (k+1) r) (.returned V) w2) (λW w'=>Ok (iq w0 w p F c (k+1) r) (.panicked W) w'):=λa=>by
  rw[a];exact PC.ok (gl (b.ah d) t.mono) λv w' Y=>pH Y (bL.of d) C H rfl oM (x _ oM)
 refine⟨_,ae g rfl,PC.ok (qS (b.ah d)) ?_⟩;rintro _ _ ⟨rfl,rfl⟩;refine⟨_,rfl,an.mk (λe=>no (Zx (.inl (by simpa using e)))) (λe=>⟨_,ae g rfl,_,ae g rfl,an.dE (λz=>no (Zx (.inr z))) (λz=>?_)⟩)⟩;rw[Zq (by
         rintro(i|i);·simp at e;rw[Option.isNone_iff_eq_none]at i;rw[i]at e;simp at e
         ·exact z i)]
 intro Z d3;have j:ai w2 Z:=d3.af;have A:=d.then j;have z3:=A.size;have b3:=j.size;have I:=j.get g id;obtain⟨B,l,-⟩:=ke u;rw[l]at u⊢;obtain⟨h,cls,rs,y,P,a4,hX,a0,a5,he,m,rfl,⟨n,a1,a6,b4,a2,b5⟩,a3⟩:=Jk (b.ah A) u;have hr:=cF.rep P m;have np:=vH P m P.self;have a7:=P.self;refine⟨λn=>F n/\cls n≠0,p,0,rfl,λa=>a.2 a7.2,_,ae P.cell rfl,p,0,rfl,_,_,_,ae P.cell rfl,_,ae I rfl,n,a1,a6,by rw[l];omega,by rw[l];omega,_,by rw[l,Qx];exact a2,_,ae I rfl,p,0,rfl,_,ae P.cell rfl,PC.ok (Ex hr Q.m) ?_⟩;rintro _ w4 ⟨G',o,J,K⟩;have L:=Jl c B y.2 s.m X.now;have a8:=OH c B y.2 s.m X.now;generalize gS c B y.2 s.m X.now=dl at o J L a8;obtain⟨M,N,O,a9,Do,rfl,o⟩:=o;refine⟨M,N,O,rfl,K.af.mono λn _ f=>⟨f.1,oM⟩,PC.ok (zK P m J K ⟨M,N,O,a9,Do,rfl,o⟩ oM) ?_⟩;rintro _ w5 ⟨b0,F5,b6,rfl,b1,q,b2⟩;exact⟨b0,rfl,b2.mono λn _ f=>⟨f.1,oM⟩,Ev (bY.Ji b1 m a4 hX a0 a5 (he.gC q)) (t.put ((t.aD _ a3).GO L)) (bL.after A q) C (q.af.get (j.get H id) (x _ oM)) rfl oM λa=>(q.new _ a).elim (x _ oM) λh=>oM⟩
def Ro(N:bY w0 w p F c X)(J:fJ k X)(hk:k<=1000)(O:s.Ok)(K:eG X.aD s.n=some R):
  ZG 34 #[XL p,iS s] w (Ok (iq w0 w p F c (k+1) ((iL c s.n R s).1,⟨X.aD.set s.n.toNat (iL c s.n R s).2,X.ei,X.now⟩))):=by
 have Q:=N.aB;have S:=N.env.gr.size;obtain⟨n,z,-⟩:=ke K;rw[z]at K⊢;refine oN (PA.mk λw1 k1 s1 g1=>PA.mk λw2 k2 s2 g2=>λe d3=>?_);have T:ai w2 e:=d3.af;have a3:=(k1.then k2).then T;have z3:=a3.size;have z2:=k2.size;have b9:=T.size;have a4:=T.get (k2.get g1 id) id;obtain⟨h,cls,rs,y,a5,a6,hX,a1,a7,b3,U,V,⟨P,b4,b5,c0,b6,b7⟩,b1⟩:=Jk (N.ah a3) K;have c1:=Q p a5.self.1;have c2:=Q P b7.1;have n1:¬e.heap.size<=p:=oM
 have n2:¬e.heap.size<=w.heap.size:=oM
 have n3:¬e.heap.size<=P:=oM
 refine⟨λP=>e.heap.size<=P,p,0,rfl,n1,_,_,_,ae a5.cell rfl,n2,_,ae a4 rfl,P,b4,b5,by rw[z];omega,by rw[z];omega,n3,_,by rw[z,Qx];exact b6,n2,?_⟩;refine Lj (es:=gT s.cmd) (w_ s.cmd) a4 (λn z=>by rcases n with _|_|_|_|_|_|_|n<;>first|rfl|exact Zz z (by simp[gT])) (PA.mk λw4 k4 s4 g4=>⟨ai.af k4,az (w_ s.cmd) g4 rfl λi k5 s5 A=>⟨k5.mono λP _ a=>by have a:P=e.heap.size:=a;omega,?_⟩⟩);have B:ai e i:=k4.new k5 λP W=>.inr (by have W:P=e.heap.size:=W;omega);have a9:=a3.then B;have z5:=a9.size;have c3:=B.size;have L:=B.get a4 id;have Y:=B.get (T.get g2 id) id;have C:¬F w1.heap.size:=λa=>by have:=Q _ a;omega
 have Z:bL F w F i:=bL.of a9;have hp:=cF.ah a5 B;have E:=b3.ah B;rw[<-V];rw[<-V]at b1;have j:=cF.rep hp U;have a0:=J.aD _ b1;have hl:=a0.evs;have a2:∀{x:gE} {R':bh} {v:Value} {w':World} {G':XN},iL c n y.2 s=(x,R')->dQ i x v w'->x.st.cells=[]/\x.Jg=[]/\x.rows=[]->bP w' y.1 G' c n R'->bL (λP=>F P/\cls P=n+2) i G' w'->iZ y.2 R'->tH (dv XP 53) λb=>v=b/\nq XP 53 (XL w1.heap.size) b w' λw2=>iK XP 53 (XL w1.heap.size) w2 λb=>Ok (iq w0 w p F c (k+1) ((iL c n y.2 s).1,⟨X.aD.set (n:Int).toNat (iL c n y.2 s).2,X.ei,X.now⟩)) (.returned b) w2:=λ{x R' v w' G'} a d ⟨e1,e2,e3⟩ l b0 hg=>by
  rw[a];exact pH (iq.rep hp a6 hX a1 a7 E U d e1 e2 e3 l b0 J (a0.GO hg)) Z S Y rfl oM C
 have b2:∀{no:Int} {R':bh} {w':World} {G':XN},iL c n y.2 s=(bu no,R')->bP w' y.1 G' c n R'->bL (λP=>F P/\cls P=n+2) i G' w'->iZ y.2 R'->PC XP 35 #[XH no] w' (λv w'=>tH (dv XP 53) λb=>v=b/\nq XP 53 (XL w1.heap.size) b w' λw2=>iK XP 53 (XL w1.heap.size) w2 λb=>Ok (iq w0 w p F c (k+1) ((iL c n y.2 s).1,⟨X.aD.set (n:Int).toNat (iL c n y.2 s).2,X.ei,X.now⟩)) (.returned b) w2) (λch w'=>Ok (iq w0 w p F c (k+1) ((iL c n y.2 s).1,⟨X.aD.set (n:Int).toNat (iL c n y.2 s).2,X.ei,X.now⟩)) (.panicked ch) w'):=λ{no R' w' G'} a l b0 hg=>by
  obtain⟨F',-,m,o,q⟩:=iq.rep (x:=bu no) (v:=.agg (fk (bu no) none 0 0 none 0 0 none 0 0).toArray) hp a6 hX a1 a7 E U (dQ.plain rfl rfl rfl) rfl rfl rfl l b0 J (a0.GO hg);rw[a];exact PC.ok (gl m o) λv w2 hq=>pH hq (Z.trans q) S (q.af.get Y C) rfl oM λa=>(q.new _ a).elim C λh=>by omega
 have a8:∀{x:gE} {v:Value} {w':World},iL c n y.2 s=(x,y.2)->dQ i x v w'->ai i w'->tH (dv XP 53) λb=>v=b/\nq XP 53 (XL w1.heap.size) b w' λw2=>iK XP 53 (XL w1.heap.size) w2 λb=>Ok (iq w0 w p F c (k+1) ((iL c n y.2 s).1,⟨X.aD.set (n:Int).toNat (iL c n y.2 s).2,X.ei,X.now⟩)) (.returned b) w2:=λ{x v w'} a d f=>by
  rw[a];refine pH ⟨F,.new d λP W=>by have:=Q P W;omega,?_,?_,bL.of f⟩ Z S Y rfl oM C
  ·show bY w0 w' p F c ⟨X.aD.set (n:Int).toNat y.2,X.ei,X.now⟩
   rw[V,Ey K];exact N.ah (a9.then f)
  ·show fJ (k+1) ⟨X.aD.set (n:Int).toNat y.2,X.ei,X.now⟩
   rw[V,Ey K];exact J.mono
 refine⟨_,ae L rfl,an.dE (λg=>?_) (λg=>?_)⟩
 ·refine ar (w_ s.cmd) A (PC.ok (GR j E.part O.cmd oM) ?_)
  rintro _ H ⟨G',d,r,t⟩;exact a2 (by unfold iL;rw[Zx g]) d (by split<;>exact⟨rfl,rfl,rfl⟩) r t (Jm c n y.2 s.cmd)
 refine an.dE (λu=>?_) (λu=>?_)
 ·refine⟨_,ae L rfl,PC.ok (Mt j E.part O.m) ?_⟩
  rintro _ H ⟨G',rfl,r,t,b8⟩;exact⟨_,rfl,b2 (by unfold iL;rw[Zq g,Zx u]) r t ⟨.inr b8,by unfold vI;rw[xd];exact Qj _⟩⟩
 refine an.dE (λI=>?_) (λI=>?_)
 ·refine PC.ok (GS j E.part oM) ?_
  rintro _ H ⟨G',rfl,r,t⟩;exact⟨_,rfl,b2 (by unfold iL;rw[Zq g,Zq u,Zx I]) r t (BT c y.2)⟩
 refine an.dE (λM=>?_) (λM=>?_)
 ·refine⟨_,ae A rfl,_,ae A rfl,_,ae L rfl,PC.ok (Jn j O.m) ?_⟩
  rintro _ H ⟨d,f⟩;exact a8 (by unfold iL;rw[Zq g,Zq u,Zq I,Zx M]) d f
 refine an.dE (λh4=>?_) (λh4=>?_)
 ·refine⟨_,ae A rfl,_,ae A rfl,PC.ok (Rp j) ?_⟩
  rintro _ H ⟨d,f⟩;exact a8 (by unfold iL;rw[Zq g,Zq u,Zq I,Zq M,Zx h4]) d f
 refine an.dE (λh5=>?_) (λh5=>?_)
 ·refine⟨_,ae A rfl,_,ae L rfl,PC.ok (Mu j) ?_⟩
  rintro _ H ⟨d,f⟩;exact a8 (by unfold iL;rw[Zq g,Zq u,Zq I,Zq M,Zq h4,Zx h5]) d f
 ·refine⟨_,ae L rfl,PC.ok (OJ j O.m) ?_⟩
  rintro _ H ⟨G',rfl,r,t⟩;have a:iL c n y.2 s=(bu 0,{y.2 with D:=y.2.D.OL s.m}):=by unfold iL;rw[Zq g,Zq u,Zq I,Zq M,Zq h4,Zq h5]
  obtain⟨F',-,m,o,q⟩:=iq.rep (x:=bu 0) (v:=.agg (fk (bu 0) none 0 0 none 0 0 none 0 0).toArray) hp a6 hX a1 a7 E U (dQ.plain rfl rfl rfl) rfl rfl rfl r t J (a0.GO ⟨.inl bn,by dsimp only;omega⟩);rw[a];exact⟨rfl,Ev m o (Z.trans q) S (q.af.get Y C) rfl oM λa=>(q.new _ a).elim C λh=>oM⟩
def OM(q:bY w0 w p F c X)(r:fJ k X)(hk:k<=999):
  ZG 32 #[XL p,iS s] w (Ok (iq w0 w p F c (k+1) (bu 0,GU X))):=by
 have a6:=q.aB;have b7:=q.env.gr.size;refine nE (PA.mk λw1 k1 s1 g1=>PA.mk λw2 k2 s2 g2=>?_);have t:=k1.then k2;have z2:=t.size;obtain⟨h,cls,rs,j,C,u,c6,E,H⟩:=q.ah t;obtain⟨a4,a7,a8⟩:=E.aD;have I:∀P,w.heap.size<=P->¬F P:=λP f d=>by have:=a6 _ d;omega
 have c8:=r.Ms;have c9:=r.now;have b8:IntKind.wrap .i64 (X.now+1)=X.now+1:=wrap_i64 bc;have d0:=j.self;refine⟨p,0,rfl,_,ae j.cell rfl,p,0,rfl,PS.mk j.cell sM λw3 k3 s3 J=>?_⟩;rw[b8]at J;obtain⟨l,K⟩:=cF.VM (now':=X.now+1) j k3 (by rw[J];rfl);have c7:=l.mu;have hn:=cF.n l C;refine⟨p,0,rfl,_,_,_,ae l.cell rfl,λL a0 w'=>∃(n:Nat) (F1:XN) (m:Nat->Nat) (a:List (Nat×bh)) (g:List bS),a0=n/\n<=h.n/\L=h.n-n/\cF w' F1 m p h (X.now+1) c a g/\h.ps=a.map (·.1)/\a.length=rs.length/\
  (List.range n).foldl tR ⟨X.aD,X.ei,X.now+1⟩=⟨a.map (·.2),g,X.now+1⟩/\bL F w3 F1 w'/\fJ (k+1) ⟨a.map (·.2),g,X.now+1⟩,
  ⟨_,0,F,cls,rs,X.ei,rfl,Qj _,rfl,l,C,rfl,by rw[u];rfl,bL.refl _ _,?_⟩,?_⟩
 ·rw[<-u];exact⟨λR hR=>(r.aD R hR).mono,by show 0<=X.now+1;omega,by show X.now+1<=_;omega⟩
 rintro L _ _ w4 ⟨n,F1,m,a,g,rfl,hj,rfl,v,x,b9,M,N,z⟩;have z3:=K.af.size;have i:=K.trans N;have c1:∀P,w.heap.size<=P->P<w2.heap.size->¬F1 P:=λP f d1 d=>(i.new P d).elim (I P f) λh=>by omega
 refine an.dec (λd2=>?_) (λd3=>?_)
 ·have b:a[n]? =some a[n]:=Qq oM
  generalize a[n]=y at b;obtain⟨P,a1,c2,d4,a5,d6⟩:=cF.ptr v x b oM;refine⟨P,a1,c2,oM,oM,_,by rw[Qx];exact a5,λO d5=>?_⟩;have A:ai w4 O:=d5.af;have e:=cF.ah v A;have hr:=cF.rep e b;have d7:Env w0 O F1:=(H.gC i).ah A;have np:=vH e b e.self;have c3:=e.self;have b1:y.2∈a.map (·.2):=Xk.2 ⟨y,QZ b,rfl⟩;have B:=z.aD _ b1;refine⟨λP=>F1 P/\m P≠0,p,0,rfl,λd=>d.2 c3.2,_,ae e.cell rfl,p,0,rfl,_,ae e.cell rfl,PC.ok (ON hr (by have:=B.asked;omega)) ?_⟩;rintro _ w6 ⟨G',o,Q,S⟩;have T:=B.tick n (X.now+1);have b4:(pI n y.2 (X.now+1)).1.length<=1001:=by unfold pI;dsimp only;rw[Q8];have:=Lk y.2.fK (X.now+1);have:=B.asked;omega
  have U:(List.range (n+1)).foldl tR ⟨X.aD,X.ei,X.now+1⟩=(⟨a.map (·.2),g,X.now+1⟩:dU).put n (pI n y.2 (X.now+1)).2 (pI n y.2 (X.now+1)).1:=by
   rw[List.range_succ,List.foldl_append,M];show tR _ n=_;unfold tR;dsimp only;rw[Q9,b];rfl
  generalize pI n y.2 (X.now+1)=V at o Q T b4 U;obtain⟨W,Y,Z,a2,Do,rfl,o⟩:=o;refine⟨W,Y,Z,rfl,S.af.mono λP _ f=>⟨f.1,oM⟩,PC.ok (zK e b Q S ⟨W,Y,Z,a2,Do,rfl,o⟩ oM) ?_⟩;rintro _ w7 ⟨a3,F7,b5,rfl,c4,b6,c5⟩;refine⟨a3,rfl,c5.mono λP _ f=>⟨f.1,oM⟩,_,oM,n+1,F7,b5,_,_,aq oM,oM,rfl,c4,by rw[x];exact(lJ (f:=(·.1)) (b:=(y.1,V.2)) b rfl).symm,by rw[List.length_set];exact b9,?_,N.trans (bL.after A b6),?_⟩
  ·rw[U,List.map_set];rfl
  ·have:=z.stay (j:=n) (ms:=V.1) T
   unfold dU.put at this;dsimp only at this;rw[Qx]at this;rw[List.map_set];exact this
 ·have d:GU X=⟨a.map (·.2),g,X.now+1⟩:=by
   unfold GU;rw[<-M,u,Q8,show rs.length=n by omega]
  rw[d];exact Ev ⟨h,m,a,v,x,rfl,oM,E,H.gC i⟩ z (bL.after t i) b7 (i.af.get g2 (I _ oM)) rfl oM (c1 _ oM oM)
def zP(n:bY w0 w p F c X)(b:∀R∈X.aD,R.S.l.length<=20000000):ZG 18 #[XL p,XH e] w (Ok λv w'=>(eG X.aD e=none/\v= .slice none 0 0/\w=w')\/∃R,eG X.aD e=some R/\px jo 63 w R.S.l v w'):=by
 refine lM (PC.ok (qS n) ?_);rintro _ _ ⟨rfl,rfl⟩;refine⟨_,rfl,?_⟩
 cases P:eG X.aD e with
 |none=>exact an.tt rfl (Ok.mk (.inl ⟨rfl,rfl,rfl⟩))
 |some R=>
  obtain⟨q,rfl,-⟩:=ke P;obtain⟨h,cls,rs,y,a,r,s,t,u,x,d,rfl,⟨f,g,i,z,j,A⟩,k⟩:=Jk n P;refine an.ff rfl ⟨p,0,rfl,_,_,_,ae a.cell rfl,f,g,i,oM,oM,_,by rw[Qx];exact j,PC.ok (Jo (cF.rep a d) (b _ k)) ?_⟩;rintro _ B ⟨l,e,m,G,rfl,o⟩;exact⟨_,_,_,rfl,Ok.mk (.inr ⟨_,rfl,l,e,m,G,rfl,o⟩)⟩
def sL(P:bY w0 w p F c X):ZG 12 #[XL p] w (Ok λv w'=>v= XH (X.ei.length:Int)/\w=w'):=by
 obtain⟨h,cls,rs,n,-⟩:=P;refine lN ⟨p,0,rfl,_,ae n.cell rfl,PC.ok (Jp n.UB) ?_⟩;rintro _ _ ⟨rfl,rfl⟩;exact⟨_,rfl,Ok.mk ⟨rfl,rfl⟩⟩
def Rq(n:bY w0 w p F c X):ZG 11 #[XL p] w (Ok λv w'=>v= XH X.now/\w=w'):=by
 obtain⟨h,cls,rs,P,-⟩:=n;exact oO ⟨p,0,rfl,_,ae P.cell rfl,Ok.mk ⟨rfl,rfl⟩⟩
end
def lu:lH XP 84 3 54 .nilFunc:=⟨kR,kR⟩
abbrev Jq(n:Int):Nat:=if n=3 then 29 else if n=5 then 30 else if n=4 then 31 else 32
abbrev xR(n:Int):Nat:=if n=2 then 33 else 34
abbrev bound(n P:Nat):Value:=.func (.func n) #[XL P] #[]
abbrev UC(n:Nat):List (Int×Value):=[(3,bound (Jq 3) n),(5,bound (Jq 5) n),(4,bound (Jq 4) n),(6,bound (Jq 6) n)]
abbrev SA(n:Nat):List (Int×Value):=[(2,bound (xR 2) n),(1,bound (xR 1) n),(7,bound (xR 7) n),(8,bound (xR 8) n),(9,bound (xR 9) n),(10,bound (xR 10) n),(11,bound (xR 11) n),(12,bound (xR 12) n)]
def OO(a:Nat)(n:Int):aE (UC a) n=if n=3\/n=5\/n=4\/n=6 then some (bound (Jq n) a)else none:=by
 by_cases P:n=3\/n=5\/n=4\/n=6
 ·rw[Zx P];rcases P with rfl|rfl|rfl|rfl<;>rfl
 ·rw[Zq P];exact jT.2 be
def Mv(P:Nat)(n:Int):aE (SA P) n=if n=2\/n=1\/7<=n/\n<=12 then some (bound (xR n) P)else none:=by
 by_cases a:n=2\/n=1\/7<=n/\n<=12
 ·rw[Zx a]
  have:n=2\/n=1\/n=7\/n=8\/n=9\/n=10\/n=11\/n=12:=oM
  rcases this with rfl|rfl|rfl|rfl|rfl|rfl|rfl|rfl<;>rfl
 ·rw[Zq a];exact jT.2 be
def WO(n:Int):enters XP (Jq n)=true:=by unfold Jq;split;rfl;split;rfl;split<;>rfl
def WE(n:Int):enters XP (xR n)=true:=by unfold xR;split<;>rfl
section
variable {w w' w0 w1 w2 wb:World} {p i k g:Nat} {F F1 F' G G' T D:XN} {c:bQ} {X:dU} {s:fI} {R:bh}
def zQ(r:bY w0 w p F c X)(g:fJ k X)(hk:k<=999)(i:s.Ok):
  ZG 13 #[XL p,iS s] w (Ok (iq w0 w p F c (k+1) (cE c X s))):=by
 have b2:=r.aB;have b3:=r.env.gr.size;refine pJ (PA.mk λw1 k1 s1 g1=>PA.mk λw2 t s2 g2=>PA.mk λw3 k3 s3 C=>?_);have m:∀{w:World} b,b=w2.heap.size->False\/w2.heap.size<=b:=λb n=>.inr (Nat.le_of_eq n.symm);refine cV (k:=(3:Int)) lu jZ (bB.new C) λw4 E H s4=>cV (k:=(5:Int)) lu jZ E λw5 I J s5=>cV (k:=(4:Int)) lu jZ I λw6 K L s6=>cV (k:=(6:Int)) lu jZ K λu M N s7=>PA.mk λw8 k8 s8 O=>?_;have b4:ai w2 u:=(((k3.new H λb d=>.inr oM).new J λb d=>.inr oM).new L λb d=>.inr oM).new N λb d=>.inr oM;refine cV (k:=(2:Int)) lu jZ (bB.new O) λw9 Q S s9=>cV (k:=(1:Int)) lu jZ Q λb8 T U b9=>cV (k:=(7:Int)) lu jZ T λc0 V W c1=>cV (k:=(8:Int)) lu jZ V λc2 Y Z c3=>cV (k:=(9:Int)) lu jZ Y λc4 a1 a2 c5=>cV (k:=(10:Int)) lu jZ a1 λc6 a3 a4 c7=>cV (k:=(11:Int)) lu jZ a3 λc8 a5 a6 c9=>cV (k:=(12:Int)) lu jZ a5 λo a7 a8 d0=>?_;have a0:ai u o:=(((((((k8.new S λb d=>.inr oM).new U λb d=>.inr oM).new W λb d=>.inr oM).new Z λb d=>.inr oM).new a2 λb d=>.inr oM).new a4 λb d=>.inr oM).new a6 λb d=>.inr oM).new a8 λb d=>.inr oM;have mA:bB o w2.heap.size (Value.int .i64) (UC p):=M.ah a0;have mO:bB o u.heap.size (Value.int .i64) (SA p):=a7;have v:=b4.then a0;have a9:=(k1.then t).then v;have j:=v.get (t.get g1 id) id;have b5:=v.get g2 id;have f:=r.ah a9;have z2:=t.size;have b6:¬F w1.heap.size:=λn=>by have:=b2 _ n;omega
 have P:∀{b0:gE×dU} {e:Value} {w':World},iq w0 o p F c (k+1) b0 e w'->tH (dv XP 53) λb1=>e=b1/\nq XP 53 (XL w1.heap.size) b1 w' λw2=>iK XP 53 (XL w1.heap.size) w2 λb7=>Ok (iq w0 w p F c (k+1) b0) (.returned b7) w2:=λa=>pH a (bL.of a9) b3 b5 rfl oM b6
 clear E I K M Q T V Y a1 a3 a5 a7 H J L N S U W Z a2 a4 a6 a8 C O
 refine⟨_,ae j rfl,iJ lu jZ mA ?_⟩;rw[OO]
 by_cases x:s.kind=3\/s.kind=5\/s.kind=4\/s.kind=6
 ·rw[Zx x]
  refine⟨_,_,rfl,an.tt rfl (ar (Jc s) j ⟨_,_,_,rfl,WO _,?_⟩)⟩;rcases x with h|h|h|h
  ·rw[h]
   have n:cE c X s=j_ c ⟨X.aD,gR X.ei s.n,X.now⟩ (eH X.ei s.n):=by unfold cE;rw[Zx h]
   rw[n];exact PC.ok (GQ f g oM i) λe w' a=>P a
  ·rw[h]
   have n:cE c X s=j_ c X (eH X.ei s.n):=by unfold cE;rw[Zq oM,Zx h]
   rw[n];exact PC.ok (Jj f g oM i) λe w' a=>P a
  ·rw[h]
   have n:cE c X s=(bu (if(eH X.ei s.n).isSome then 0 else 14),⟨X.aD,gR X.ei s.n,X.now⟩):=by unfold cE;rw[Zq oM,Zq oM,Zx h]
   rw[n];exact PC.ok (OG f g.mono i) λe w' a=>P a
  ·rw[h]
   have n:cE c X s=(bu 0,GU X):=by unfold cE;rw[Zq oM,Zq oM,Zq oM,Zx h]
   rw[n];exact PC.ok (OM f g hk) λe w' a=>P a
 rw[Zq x];refine⟨_,_,rfl,an.ff rfl ⟨_,ae j rfl,iJ lu jZ mO ?_⟩⟩;rw[Mv]
 by_cases hO:s.kind=2\/s.kind=1\/7<=s.kind/\s.kind<=12
 ·rw[Zx hO]
  refine⟨_,_,rfl,an.ff rfl ⟨_,ae j rfl,PC.ok (qS f) ?_⟩⟩;rintro _ _ ⟨rfl,rfl⟩;refine⟨_,rfl,?_⟩;have e0:¬s.kind=3/\¬s.kind=5/\¬s.kind=4/\¬s.kind=6/\¬(s.kind<1\/12<s.kind):=oM
  obtain⟨y,z,m,A,B⟩:=e0
  cases l:eG X.aD s.n with
  |none=>
   have n:cE c X s=(bu 1,X):=by unfold cE;rw[Zq y,Zq z,Zq m,Zq A,Zq B,l]
   rw[n];exact an.tt rfl (PC.ok (gl f g.mono) λe w' a=>P a)
  |some R=>
   refine an.ff rfl (ar (Jc s) j ⟨_,_,_,rfl,WE _,?_⟩)
   by_cases q:s.kind=2
   ·have n:cE c X s=(if(eG X.aD s.m).isNone\/s.m=s.n then(bu 1,X)else(bu 0,X.put s.n (gS c s.n R s.m X.now).2 (gS c s.n R s.m X.now).1)):=by unfold cE;rw[Zq y,Zq z,Zq m,Zq A,Zq B,l];exact Zx q
    rw[n,q];exact PC.ok (OI f g i l) λe w' a=>P a
   ·have n:cE c X s=((iL c s.n R s).1,⟨X.aD.set s.n.toNat (iL c s.n R s).2,X.ei,X.now⟩):=by unfold cE;rw[Zq y,Zq z,Zq m,Zq A,Zq B,l];exact Zq q
    rw[n];have:xR s.kind=34:=Zq q
    rw[this];exact PC.ok (Ro f g oM i l) λe w' a=>P a
 ·rw[Zq hO]
  have n:cE c X s=(bu 2,X):=by unfold cE;rw[Zq oM,Zq oM,Zq oM,Zq oM,Zx oM]
  rw[n];exact⟨_,_,rfl,an.tt rfl (PC.ok (gl f g.mono) λe w' a=>P a)⟩
end
section
variable {w w' w0 w1 w2 wb:World} {p q i k g:Nat} {F F1 F' G G' T D:XN} {cls:Nat->Nat} {h:Jd} {c:bQ} {X:dU} {s:fI} {R:bh} {now:Int} {rs:List (Nat×bh)} {ei:List bS}
def cF.more(i:cF w F cls p h now c rs ei)(j:ai w w')(e:bP w' q G' c rs.length R)(l:∀d,G' d->w.heap.size<=d):
  ∃F' a,cF w' F' a p h now c (rs++[(q,R)]) ei/\bL F w F' w':=by
 obtain⟨m,b,o,r,-⟩:=aT.gC i eP (k:=rs.length+2) (G':=G') (C2:=iy (Eu p h now) (λw G=>dz w h.q G ei) c (rs++[(q,R)])) ⟨ai.af j,λd s=>.inr (l d s)⟩ e.aB (λf n=>by
  rw[X8 (Q4 _),Nat.sub_self]at n
  injection n with n;subst n;exact e) λt G g P=>by
  match t,g,P with
  |0,_,P=>exact P
  |1,_,P=>exact P
  |k+2,g,P=>
   intro f n;refine P f ?_;rcases Nat.lt_trichotomy k rs.length with h|h|h
   ·rwa [XW h]at n
   ·omega
   ·rw[Q7 be]at n;cases n
 exact⟨m,b,o,r⟩
def Jr(w0 w:World)(c:bQ)(n:Value)(w':World):Prop:=ai w w'/\
 (((zR c).1≠0/\n= .tuple #[.pointer none,XH (zR c).1])\/
  ((zR c).1=0/\∃p F,n= .tuple #[XL p,XH 0]/\bY w0 w' p F c (zR c).2/\(∀P,F P->w.heap.size<=P)/\fJ 0 (zR c).2))
def Ez(V:eD w0)(W:Laid w0)(C:ai w0 w){tn X E Y:Nat}(hd:bb w D c.decl d tn u E)(hD:∀n,D n->n<w.heap.size)(hs:aH c.bN)(a9:aH c.every)(b0:aH c.start):
  ZG 9 #[vJ c d tn X u E Y] w (Ok (Jr w0 w c)):=by
 refine BU (PA.mk λw1 Z s1 g1=>PC.ok Js ?_);rintro _ w2 ⟨q,Fq,rfl,H,b1,x⟩;have z2:=x.size;refine⟨_,rfl,PA.mk λw3 l s3 g3=>?_⟩;have c4:=(Z.then x).then l;have z3:=l.size;have z0:=C.size;have b2:=l.get (x.get g1 id) id;obtain⟨j,hB⟩:∃j:Nat,(if(if(64:Int)<c.aD then 64 else c.aD)>1 then(if(64:Int)<c.aD then 64 else c.aD)else 1)=(j:Int):=⟨(if(if(64:Int)<c.aD then 64 else c.aD)>1 then(if(64:Int)<c.aD then 64 else c.aD)else 1).toNat,by repeat' split<;>omega⟩
 have c5:(j:Int)=max 1 (min c.aD 64):=by rw[<-hB];repeat' split<;>omega
 obtain⟨m,I⟩:=aT.join (w:=w3) (C:=iy (Eu w2.heap.size ⟨q,none,0,0,[]⟩ 0) (λw G=>dz w q G []) c []) (G:=λa n=>match a with|0=>n=w2.heap.size|1=>Fq n|_=>False)
  (λa=>by
   match a with
   |0=>exact⟨rfl,g3,(aO.nil w3).mono (λn P=>P.elim) (λn P=>(by cases P)),λn P=>(by cases P)⟩
   |1=>exact H.ah l
   |a+2=>exact λc6 J=>by simp at J)
  (λi a n b g=>by
   have hq:=H.aB n
   match i,a,b,g with
   |0,0,_,_=>rfl
   |1,1,_,_=>rfl
   |0,1,b,g=>have b:n=w2.heap.size:=b;have:=hq g;omega
   |1,0,b,g=>have g:n=w2.heap.size:=g;have:=hq b;omega)
  (λa n P=>by
   match a,P with
   |0,P=>have P:n=w2.heap.size:=P;omega
   |1,P=>have:=H.aB n P;omega)
 refine⟨_,ae b2 rfl,λa0 b3 w'=>∃(a:Nat) (h:Jd) (F:XN) (cls:Nat->Nat) (rs:List (Nat×bh)),b3=a/\a<=j/\a0=j-a/\(a=0\/(cA c 0).1=0/\(cA c 0).2.S.l.length<=16777216)/\cF w' F cls w2.heap.size h 0 c rs []/\h.ps=rs.map (·.1)/\rs.length=a/\rs.map (·.2)=List.replicate a (cA c 0).2/\(∀n,F n->w1.heap.size<=n)/\ai w1 w',
  ⟨_,0,⟨q,none,0,0,[]⟩,_,m,[],rfl,Qj _,rfl,.inl rfl,I,rfl,rfl,rfl,λn ⟨a,P⟩=>?_,x.then l⟩,?_⟩
 ·match a,P with
  |0,P=>have P:n=w2.heap.size:=P;omega
  |1,P=>exact b1 n P
 rintro a0 _ _ w4 ⟨a,h,F,cls,rs,rfl,g,rfl,b4,K,o,a1,a2,y,z⟩;have k:=Z.then z;have b5:=z.get g1 id;rw[hB];refine an.dec (λb6=>?_) (λc7=>?_)
 ·have b6:a<j:=oM
  obtain⟨L,e2⟩:=Mw (c:=c) (i:=(a:Int)) oM oM;refine ar (GV c d tn X u E Y) b5 (PC.ok (Rr (self:=(a:Int)) V W (C.then k) (hd.ah k) (λn P=>by have:=hD n P;have:=k.size;omega) hs a9 b0) ?_);rintro v5 M ⟨N,⟨a3,rfl⟩|⟨p,A,G',rfl,hA,hG,a4⟩⟩
  ·refine⟨_,_,rfl,an.dF (λ_=>Ok.mk ⟨k.then N,.inl ⟨?_,?_⟩⟩) (λh=>Zz h a3)⟩
   ·show(cA c 0).1≠0
    rw[<-L];exact a3
   ·show _=Value.tuple #[.pointer none,XH (cA c 0).1]
    rw[<-L]
  refine⟨_,_,rfl,an.dF (λh=>Zz rfl h) (λ_=>?_)⟩;rw[L]at p;rw[e2]at hA a4;have z4:=z.size;obtain⟨F2,a5,a6,b7⟩:=cF.more (R:=(cA c 0).2) K N (by rw[a1];exact hA) hG;have b8:Eu w2.heap.size h 0 M (λn=>F2 n/\a5 n=0):=a6.at' 0;obtain⟨c1,O,c3,B⟩:=b8;have hn:=c3.len dC;rw[o,Q8]at hn;refine⟨_,0,rfl,_,_,_,ae O rfl,Mg (x:=A) (D:=λ_=>False) c3 VL ⟨rfl,trivial⟩ (λn P=>P.elim) (by rw[o,Q8];unfold aK;omega) (by rw[o,Q8];unfold maxLen;omega) λr e w7 F7 Q S c8 b9=>⟨_,_,_,rfl,_,0,rfl,PS.mk (S.get O λf=>(B _ f).2 rfl) sM λw8 k8 s8 g8=>?_⟩⟩;have z5:=N.size;have z7:=S.size;have c9:=ax O;have T:∀n,aF r=some n->(aF h.a=some n\/M.heap.size<=n)/\n<w7.heap.size:=λn P=>⟨b9 n P,Q.aB n (Q.self n P)⟩
  have a7:∀n,aF r=some n->n≠w2.heap.size:=λn P f=>by rcases(T n P).1 with h|h;exact(B n h).2 f;omega
  have kk:ak (λn=>F2 n/\a5 n=0) M w8:=(S.mono λn _ P=>(B n P).1).then (k8.mono λn _ P=>by have P:n=w2.heap.size:=P;rw[P];exact c1);obtain⟨F8,s,U,t,-⟩:=aT.gC a6 eP (k:=0) (G':=λn=>n=w2.heap.size\/aF r=some n) (C2:=iy (Eu w2.heap.size ⟨h.q,r,h.n+1,e,h.ps++[A]⟩ 0) (λw G=>dz w h.q G []) c (rs++[(A,(cA c 0).2)]))
   ⟨kk,λn P=>P.elim (λf=>.inl (f▸c1)) λP=>(T n P).1.imp (λh=>(B n h).1) id⟩ (λn P=>P.elim (λf=>oM) λP=>by have:=(T n P).2;omega)
   ⟨.inl rfl,g8,Q.alone.af k8 λn P f=>a7 n P f,λn P=>⟨.inr P,a7 n P⟩⟩ λi G b v=>by
    match i,b,v with
    |1,_,v=>exact v
    |i+2,_,v=>exact v
  have a8:=b7.trans t;refine⟨_,oM,a+1,⟨h.q,r,h.n+1,e,h.ps++[A]⟩,F8,s,_,aq oM,oM,rfl,.inr ⟨p,a4⟩,U,by rw[o,Q3];rfl,by rw[QX,a1];rfl,by rw[Q3,a2,List.replicate_succ'];rfl,λn P=>(a8.new n P).elim (y n) λh=>oM,z.new a8.af λn P=>.inr (y n P)⟩
 ·have c0:a≠0:=oM
  obtain⟨p,d0⟩:=b4.resolve_left c0;obtain⟨r1,r2,-,-⟩:=GW p;have c2:a=c.aD.toNat:=oM
  have J:rs[0]? =some rs[0]:=Qq oM;refine Ok.mk ⟨k,.inr ⟨p,_,F,rfl,⟨h,cls,rs,K,o,?_,oM,(cF.rep K J).ok,⟨V,W,C.then k,λn P=>by have:=y n P;omega⟩⟩,λn P=>by have:=y n P;omega,⟨λR hR=>?_,Int.le_refl 0,Int.le_refl 0⟩⟩⟩
  ·rw[a2,c2];rfl
  ·have:=(List.mem_replicate.1 hR).2
   subst this;exact⟨oM,by rw[Jt];exact Qj _⟩
end
def Au:jN:=⟨[],[],[],[],[]⟩
def Av(x:PC_ 24 #[.ii 2] b (kX_ 27 λy z=>PC_ 9 #[y] z (λB j=>∃P k,B= .tuple #[.pointer P,.ii k]/\an (k !=0) (rt A ((.bool false)) j) (PR_ (eq_ .eql 33 (.tmp 18) (.const (.pointer none)) (.pointer P) (.pointer none)) j (kB λC l=>an C (rt A ((.bool false)) l) (PC_ 25 #[.ii 0,.ii 3] l (λD E=>∃m o p q r s t,D= .agg #[.ii m,.ii o,.ii p,.ii q,.ii r,.ii s,.ii t]/\PC_ 13 #[.pointer P,.agg #[.ii 1,.ii 0,.ii 0,.ii m,.ii o,.ii p,.ii q,.ii r,.ii s,.ii t]] E (kX_ 53 λF a=>PA a (.cells #[.ii 0,.ii 0,.ii 0,.ii 0,.slice none 0 0,.slice none 0 0,.slice none 0 0,.bool false] 53) λG=>St 53 (ab_ a 0) F G λH=>PC_ 13 #[.pointer P,.agg #[.ii 2,.ii 1,.ii 0,.ii 0,.ii 0,.ii 0,.ii 0,.ii 0,.ii 0,.ii 0]] H (kX_ 53 λI d=>PA d (.cells #[.ii 0,.ii 0,.ii 0,.ii 0,.slice none 0 0,.slice none 0 0,.slice none 0 0,.bool false] 53) λJ=>St 53 (ab_ d 0) I J λK=>PC_ 13 #[.pointer P,.agg #[.ii 3,.ii 0,.ii 0,.ii 0,.ii 0,.ii 0,.ii 0,.ii 0,.ii 0,.ii 0]] K (kX_ 53 λL e=>PA e (.cells #[.ii 0,.ii 0,.ii 0,.ii 0,.slice none 0 0,.slice none 0 0,.slice none 0 0,.bool false] 53) λM=>St 53 (ab_ e 0) L M λN=>PC_ 13 #[.pointer P,.agg #[.ii 3,.ii 0,.ii 0,.ii 0,.ii 0,.ii 0,.ii 0,.ii 0,.ii 0,.ii 0]] N (kX_ 53 λO f=>PA f (.cells #[.ii 0,.ii 0,.ii 0,.ii 0,.slice none 0 0,.slice none 0 0,.slice none 0 0,.bool false] 53) λQ=>St 53 (ab_ f 0) O Q λR=>PC_ 13 #[.pointer P,.agg #[.ii 10,.ii 1,.ii 0,.ii 0,.ii 0,.ii 0,.ii 0,.ii 0,.ii 0,.ii 0]] R (kX_ 53 λS c=>PA c (.cells #[.ii 0,.ii 0,.ii 0,.ii 0,.slice none 0 0,.slice none 0 0,.slice none 0 0,.bool false] 53) λT=>St 53 (ab_ c 0) S T λU=>PC_ 13 #[.pointer P,.agg #[.ii 3,.ii 9,.ii 0,.ii 0,.ii 0,.ii 0,.ii 0,.ii 0,.ii 0,.ii 0]] U (kX_ 53 λV g=>PA g (.cells #[.ii 0,.ii 0,.ii 0,.ii 0,.slice none 0 0,.slice none 0 0,.slice none 0 0,.bool false] 53) λW=>St 53 (ab_ g 0) V W λX=>PC_ 13 #[.pointer P,.agg #[.ii 2,.ii 1,.ii 1,.ii 0,.ii 0,.ii 0,.ii 0,.ii 0,.ii 0,.ii 0]] X (kX_ 53 λY h=>PA h (.cells #[.ii 0,.ii 0,.ii 0,.ii 0,.slice none 0 0,.slice none 0 0,.slice none 0 0,.bool false] 53) λZ=>St 53 (ab_ h 0) Y Z λa1=>PC_ 13 #[.pointer P,.agg #[.ii 6,.ii 0,.ii 0,.ii 0,.ii 0,.ii 0,.ii 0,.ii 0,.ii 0,.ii 0]] a1 (kX_ 53 λb8 i=>(∃u v,i.cell? (ab_ a (0+1))=some (.ii u)/\i.cell? (ab_ a (0+1+1))=some (.ii v)/\PR_ (eq_ .eql 46 (.tmp 47) (.tmp 48) (.agg #[.ii u,.ii v]) (.agg #[.ii 0,.ii 1])) i (kB λa2 n=>an a2 ((rI n (ab_ a 0) λa3=>an (a3==0) ((rI n (ab_ d 0) λa4=>an (a4==0) ((rI n (ab_ e 0) λa5=>an (a5==0) ((rI n (ab_ f 0) λa6=>an (a6==0) ((rS n (ab_ c (0+3+1)) λb9 a7 c0=>an ((a7:Int)==6) ((rS n (ab_ c (0+3+1)) λa8 a9 c1=>(ix_ a8 0 a9 λb0 b1=>(rI n (ad b0 (b1+Int.toNat 0*2)) λb2=>an (b2==3) ((rI n (ab_ g 0) λb3=>an (b3==14) ((rI n (ab_ h 0) λb4=>an (b4==1) (PC_ 11 #[.pointer P] n (kI_ λb5 w=>an (b5==1) (PC_ 12 #[.pointer P] w (kI_ λb6 b7=>rt A ((.bool (b6==1))) b7) (pE A)) (rt A ((.bool false)) w)) (pE A)) (rt A ((.bool false)) n))) (rt A ((.bool false)) n))) (rt A ((.bool false)) n))))) (rt A ((.bool false)) n))) (rt A ((.bool false)) n))) (rt A ((.bool false)) n))) (rt A ((.bool false)) n))) (rt A ((.bool false)) n))) (rt A ((.bool false)) n)) (pV A))) (pE A)) (pE A)) (pE A)) (pE A)) (pE A)) (pE A)) (pE A)) (pE A)) (pE A))) (pV A))) (pE A)) (pE A)):ZG 8 #[] b A:=DC Au Tryz.func8 rfl x
def lk:lO:=⟨0,0,0,0,0,0,0⟩
def vy:Bool:=
 let n:=fF 2
 let P:=cE n (zR n).2 ⟨1,0,0,⟨0,0,0,1,3,-1,0⟩⟩
 let b:=cE n P.2 ⟨2,1,0,lk⟩
 let c:=cE n b.2 ⟨3,0,0,lk⟩
 let d:=cE n c.2 ⟨3,0,0,lk⟩
 let a:=cE n d.2 ⟨10,1,0,lk⟩
 let e:=cE n a.2 ⟨3,9,0,lk⟩
 let f:=cE n e.2 ⟨2,1,1,lk⟩
 let g:=cE n f.2 ⟨6,0,0,lk⟩
 (zR n).1==0&&(P.1.id.1==(0:Int)&&(P.1.id.2==(1:Int)&&(P.1.code==0&&(b.1.code==0&&(c.1.code==0&&(d.1.code==0&&(a.1.st.cells.length==6&&((a.1.st.cells.getD 0 ⟨0,[]⟩).n==3&&(e.1.code==14&&(f.1.code==1&&(g.2.now==1&&g.2.ei.length==1)))))))))))
def QO:vy=true:=by decide+kernel
def NW:∃(h:dU) (n a b c P d e f:gE×dU),zR (fF 2)=(0,h)/\cE (fF 2) h ⟨1,0,0,⟨0,0,0,1,3,-1,0⟩⟩=n/\cE (fF 2) n.2 ⟨2,1,0,lk⟩=a/\cE (fF 2) a.2 ⟨3,0,0,lk⟩=b/\cE (fF 2) b.2 ⟨3,0,0,lk⟩=c/\cE (fF 2) c.2 ⟨10,1,0,lk⟩=P/\cE (fF 2) P.2 ⟨3,9,0,lk⟩=d/\cE (fF 2) d.2 ⟨2,1,1,lk⟩=e/\cE (fF 2) e.2 ⟨6,0,0,lk⟩=f/\
  n.1.id.1=0/\n.1.id.2=1/\n.1.code=0/\a.1.code=0/\b.1.code=0/\c.1.code=0/\P.1.st.cells.length=6/\(P.1.st.cells.getD 0 ⟨0,[]⟩).n=3/\d.1.code=14/\e.1.code=1/\f.2.now=1/\f.2.ei.length=1:=by
 have g:=QO;unfold vy at g;simp only[QK,beq_iff_eq]at g;obtain⟨i,j⟩:=g;exact⟨_,_,_,_,_,_,_,_,_,Prod.ext i rfl,rfl,rfl,rfl,rfl,rfl,rfl,rfl,rfl,j⟩
section
variable {w w' w0 w1 w2 wb:World} {p i k g:Nat} {F F1 F' G G' T D:XN} {c:bQ} {X:dU} {s:fI} {x:gE} {v:Value}
def D_(w:World)(g:Nat)(F:XN)(x:gE):Prop:=∃(P:ZH) (a b:Nat) (c:ZH) (d e:Nat) (f:ZH) (h i:Nat) (G:XN),w.heap[g]? =some (.cells (fk x P a b c d e f h i).toArray 53 (0,0))/\Row et 32 w G P a x.st.cells/\(∀n,G n->n<w.heap.size/\¬F n)/\¬F g
def D_.gC(c:D_ w g F x)(P:bL F w F' w'):D_ w' g F' x:=by
 obtain⟨h,i,j,k,l,m,o,p,q,G,e,r,b,f⟩:=c;have s:=P.af.size;have t:=ax e;exact⟨h,i,j,k,l,m,o,p,q,G,P.af.get e f,r.af P.af λn a=>(b n a).2,λn a=>⟨by have:=(b n a).1;omega,λd=>(P.new n d).elim (b n a).2 λc=>by have:=(b n a).1;omega⟩,λd=>(P.new g d).elim f λc=>oM⟩
def D_.get(n:D_ w g F x):∃cs:Array Value,w.heap[g]? =some (.cells cs 53 (0,0))/\cs[0]? =some (XH x.code)/\cs[1]? =some (XH x.id.1)/\cs[2]? =some (XH x.id.2):=by
 obtain⟨a,b,c,d,e,f,h,i,j,G,P,k,l,m⟩:=n;exact⟨_,P,rfl,rfl,rfl⟩
def tG(A:bY w0 w p F c X)(E:fJ k X)(H:k<=999)(I:s.Ok)(f:∀n b F',w.heap.size<=n.heap.size->bY w0 b p F' c (cE c X s).2->fJ (k+1) (cE c X s).2->bL F w F' b->D_ b n.heap.size F' (cE c X s).1->h5 n b):
  PC XP 13 #[XL p,iS s] w (λv n=>tH (dv XP 53) λx=>v=x/\PA n (.cells #[XH 0,XH 0,XH 0,XH 0,.slice none 0 0,.slice none 0 0,.slice none 0 0,.bool false] 53) λw2=>nq XP 53 (XL n.heap.size) x w2 λb=>h5 n b) a4:=by
 have N:=A.env.gr.size;refine PC.ok (zQ A E H I) ?_;rintro _ n ⟨F',⟨g,h,i,j,l,m,o,q,r,G,rfl,J,O,Q,t⟩,e,u,B⟩;have C:=e.aB;have K:=B.af.size;refine bO (Li _ g h i j l m o q r) ⟨rfl,PA.mk λw2 y R L=>az (gP _ g h i j l m o q r) L rfl λb z S M=>f n b F' K ?_ u ?_ ?_⟩
 ·exact(e.ah y).af z (λa d P=>by have P:a=n.heap.size:=P;have:=C a d;omega) λa P=>by have P:a=n.heap.size:=P;omega
 ·exact(B.ah y).last z λa P=>by have P:a=n.heap.size:=P;omega
 ·exact⟨g,h,i,j,l,m,o,q,r,G,M,(J.ah y).af z λa d P=>by have P:a=n.heap.size:=P;have:=(t a d).2.1;omega,λa d=>⟨by have:=(t a d).2.1;omega,(t a d).2.2⟩,λP=>by have:=C _ P;omega⟩
def kQ(n:(decide (-1000000<=e)&&decide (e<=1000000)&&(decide (-1000000<=r)&&decide (r<=1000000))&&(decide (-1000000<=N)&&decide (N<=1000000)))=true):fI.Ok ⟨e,r,N,lk⟩:=by
 simp only[QK,Zk]at n;exact⟨by show aH e;unfold aH;omega,by show aH r;unfold aH;omega,by show aH N;unfold aH;omega,i10 rfl,i10 rfl,i10 rfl,i10 rfl,i10 rfl,i10 rfl⟩
def NX{n arg:Int}:ZG 25 #[XH n,XH arg] w (Ok λv w'=>v=vK ⟨0,n,0,1,arg,-1,0⟩/\ai w w'):=
 Hk (PA.mk λw1 a f b=>az (w_ ⟨0,n,0,1,arg,-1,0⟩) b rfl λw2 c g d=>ar (w_ ⟨0,n,0,1,arg,-1,0⟩) d (Ok.mk ⟨rfl,a.new c λe P=>.inr (by have P:e=w.heap.size:=P;omega)⟩))
set_option maxHeartbeats 2000000 in
def GY(Y:eD w0)(Z:Laid w0)(h0:ai w0 w):ZG 8 #[] w (Ok λv w'=>v= .bool true/\ai w w'):=by
 obtain⟨X,a0,f,a1,a2,g,a3,s,a4,e0,e1,e2,e3,e4,e5,e6,e7,e8,q1,q2,q3,q4,q5,q6,q7,q8,q9,a6,a7,a8⟩:=NW;refine Av (PC.ok IJ ?_);rintro _ w2 ⟨ta,tn,tc,pa,pn,pc,G2,rfl,a9,b0,r⟩;refine bO (UW (fF 2) ta tn tc pa pn pc) ⟨rfl,PC.ok (Ez (c:=fF 2) Y Z (h0.then r) a9 (λf l=>(b0 f l).2) (i10 rfl) (i10 rfl) (i10 rfl)) ?_⟩;rintro v5 w5 t;unfold Jr at t;rw[e0]at t;obtain⟨k5,⟨b1,-⟩|⟨-,p,F,rfl,z,hF,A⟩⟩:=t
 ·exact Zz rfl b1
 dsimp only at z A;generalize fF 2=c2 at*;have b2:=r.then k5;have b3:∀f,F f->w.heap.size<=f:=λf l=>by have:=hF f l;have:=r.size;omega
 refine⟨_,_,rfl,an.dF (λa=>Zz rfl a) (λ_=>fh Tryz.underlying33 ⟨_,rfl,an.ff rfl (PC.ok NX ?_)⟩)⟩;rintro _ w7 ⟨rfl,B⟩;refine⟨_,_,_,_,_,_,_,rfl,?_⟩;have b4:=b2.then B;refine tG (k:=0) (s:=⟨1,0,0,⟨0,0,0,1,3,-1,0⟩⟩) (z.ah B) A oM ⟨i10 rfl,i10 rfl,i10 rfl,i10 rfl,i10 rfl,i10 rfl,i10 rfl,i10 rfl,i10 rfl⟩ λwa w8 Fa za C E c b=>?_;rw[e1]at C E b;refine tG (s:=⟨2,1,0,lk⟩) C E oM (kQ rfl) λwb w9 Fb zb H I J d=>?_;rw[e2]at H I d;have b:=b.gC J;have c:=c.trans J;refine tG (s:=⟨3,0,0,lk⟩) H I oM (kQ rfl) λwd c8 Fd zd K L u P=>?_;rw[e3]at K L P;have b:=b.gC u;have d:=d.gC u;have c:=c.trans u;refine tG (s:=⟨3,0,0,lk⟩) K L oM (kQ rfl) λwf c9 Ff zf M N q n=>?_;rw[e4]at M N n;have b:=b.gC q;have d:=d.gC q;have P:=P.gC q;have c:=c.trans q;refine tG (s:=⟨10,1,0,lk⟩) M N oM (kQ rfl) λwg d0 Fg zg O Q m h=>?_;rw[e5]at O Q h;have b:=b.gC m;have d:=d.gC m;have P:=P.gC m;have n:=n.gC m;have c:=c.trans m;refine tG (s:=⟨3,9,0,lk⟩) O Q oM (kQ rfl) λwn d1 Fn zn R S k e=>?_;rw[e6]at R S e;have b:=b.gC k;have d:=d.gC k;have P:=P.gC k;have n:=n.gC k;have h:=h.gC k;have c:=c.trans k;refine tG (s:=⟨2,1,1,lk⟩) R S oM (kQ rfl) λws d2 Fs zs T U j is=>?_;rw[e7]at T U is;have b:=b.gC j;have d:=d.gC j;have P:=P.gC j;have n:=n.gC j;have h:=h.gC j;have e:=e.gC j;have c:=c.trans j;refine PC.ok (zQ (s:=⟨6,0,0,lk⟩) T U oM (kQ rfl)) ?_;rintro _ b5 ⟨Ft,⟨sa,sn,sc,ea,en,ec,ra,rn,rc,-,rfl,-⟩,x,b6,i⟩;rw[e8]at x b6;have b:=b.gC i;have d:=d.gC i;have P:=P.gC i;have n:=n.gC i;have h:=h.gC i;have e:=e.gC i;have is:=is.gC i;have c:=c.trans i;refine bO (Li _ sa sn sc ea en ec ra rn rc) ⟨rfl,?_⟩;obtain⟨za,y,b7,b8,c1⟩:=b.get;obtain⟨zb,yb,c3,-⟩:=d.get;obtain⟨zd,yd,c4,-⟩:=P.get;obtain⟨zf,yf,c5,-⟩:=n.get;obtain⟨zn,yn,c6,-⟩:=e.get;obtain⟨zs,ys,c7,-⟩:=is.get;obtain⟨d3,d4,d5,d6,WE,d7,d8,d9,e9,Gg,V,W,-,-⟩:=h;have f2:=W.len;obtain⟨b9,o9,f3,f5,f6,rfl,f8,-,a5,-⟩:=mz (i:=0) W oM;have o:ai w b5:=b4.new c.af λf l=>.inr (b3 f l);refine⟨_,_,ae y b8,ae y c1,aG.mk Fe ⟨_,rfl,an.tt (by rw[q1,q2];rfl) ⟨_,ae y b7,an.dE (λ_=>⟨_,ae yb c3,an.dE (λ_=>⟨_,ae yd c4,an.dE (λ_=>⟨_,ae yf c5,an.dE (λ_=>⟨_,_,_,ae V rfl,an.dE (λ_=>⟨_,_,_,ae V rfl,b9,o9,rfl,oM,oM,_,a5,an.dE (λ_=>⟨_,ae yn c6,an.dE (λ_=>⟨_,ae ys c7,an.dE (λ_=>?_) (λa=>Zz a6 a)⟩) (λa=>Zz q9 a)⟩) (λa=>Zz q8 a)⟩) (λa=>Zz oM a)⟩) (λa=>Zz q6 a)⟩) (λa=>Zz q5 a)⟩) (λa=>Zz q4 a)⟩) (λa=>Zz q3 a)⟩⟩⟩;refine PC.ok (Rq x) ?_;rintro _ _ ⟨rfl,rfl⟩;refine⟨_,rfl,an.dE (λ_=>PC.ok (sL x) ?_) (λa=>Zz a7 a)⟩;rintro _ _ ⟨rfl,rfl⟩;refine⟨_,rfl,Ok.mk ⟨?_,o⟩⟩;rw[a8];rfl
end
def jU(n:bQ)(P:ZH)(tn a:Nat)(b:ZH)(c d:Nat)(e:ZH)(f g:Nat):List Value:=dW n P tn a b c d++[.slice e f g]
abbrev Ll(n:bQ)(P:ZH)(tn a:Nat)(b:ZH)(c d:Nat)(e:ZH)(f g:Nat):Value:=.agg (jU n P tn a b c d e f g).toArray
def Tp(n:bQ)(P:ZH)(tn a:Nat)(b:ZH)(c d:Nat)(e:ZH)(f g:Nat):gM XP 30 (jU n P tn a b c d e f g)=true:=kR
def GX:jt fI:=flat 10 mL fI.Ok (λ_=>rfl) (λP a n=>by simp[mL,gT]at n;rcases n with rfl|rfl|rfl|rfl|rfl|rfl|rfl|rfl|rfl|rfl<;>rfl)
section
variable {w w' w0 w1 w2 wb:World} {p q i k g:Nat} {F F1 F' G G' T D E:XN} {c:bQ} {X Y:dU} {s:fI} {x:gE} {v:Value} {ta pa la:ZH} {tn tc pn pc ln lc:Nat} {l:List fI}
def Ju(f:bb w D c.decl ta tn pa pn)(g:Row GX 80 w E la ln l):
  ZG 7 #[Ll c ta tn tc pa pn pc la ln lc] w (Ok λv w'=>(∃P:Bool,v= .bool P/\(P=false->l.length<=300))/\ai w w'):=by
 have h:=g.len;refine EA (PA.mk λw1 d i a=>⟨_,_,_,_,_,_,ae a rfl,ae a rfl,PC.ok (Jv (f.ah d)) ?_⟩);rintro _ w2 ⟨⟨P,rfl⟩,e⟩;have n:=d.then e;have b:=e.get a id;exact⟨_,rfl,an.mk (λ_=>Ok.mk ⟨⟨_,rfl,sM⟩,n⟩) (λ_=>⟨_,_,_,ae b rfl,an.dec (λ_=>Ok.mk ⟨⟨_,rfl,sM⟩,n⟩) (λj=>⟨_,ae b rfl,an.dec (λ_=>⟨_,ae b rfl,Ok.mk ⟨⟨_,rfl,λ_=>oM⟩,n⟩⟩) (λ_=>Ok.mk ⟨⟨_,rfl,λ_=>oM⟩,n⟩)⟩)⟩)⟩
def OP(a:eD w0)(b:Laid w0)(n:ai w0 w):PC XP 8 #[] w (λv w2=>∃P:Bool,v= .bool P/\Ok (λv w'=>v= .bool true/\ai w0 w') (.returned (.bool P)) w2) a4:=by
 refine PC.ok (GY a b n) ?_;rintro _ w' ⟨rfl,k⟩;exact⟨_,rfl,Ok.mk ⟨rfl,n.then k⟩⟩
def Lm(P:w.heap[g]? =some (.cells (jU c ta tn tc pa pn pc la ln lc).toArray 30 (0,0)))(a:M (vJ c ta tn tc pa pn pc)):iK XP 27 (XL g) w M:=
 Lj (es:=dW c ta tn tc pa pn pc) (GV c ta tn tc pa pn pc) P (λn b=>by rcases n with _|_|_|_|_|_|_|_|_|_|n<;>first|rfl|exact Zz b (by simp[dW])) a
def OQ(c:Row GX 80 w E la ln l){j:Nat}(d:j<ln):∃n P s,la=some ⟨n,P,none⟩/\n<w.heap.size/\E n/\l[j]? =some s/\s.Ok/\∀a:Value->Prop,a (iS s)->iK XP 40 (.pointer (some ⟨n,P+j*10,none⟩)) w a:=by
 obtain⟨n,P,s,p,e,f,g,h,i,rfl,k⟩:=c.yP (i:=j) d;exact⟨n,P,s,e,f,g,h,k,λa b=>bw (es:=mL s) (k:=10) (Jc s) rfl (λm o=>i m o) b⟩
def dQ.af(d:dQ w1 x v w)(a:ak T w w')(e:∀n,w1.heap.size<=n->n<w.heap.size->¬T n):dQ w1 x v w':=by
 obtain⟨f,g,h,i,j,k,l,m,o,G,p,q,r,s,b⟩:=d;have c:∀n,G n->¬T n:=λn P=>e n (b n P).1 (b n P).2;exact⟨f,g,h,i,j,k,l,m,o,G,p,q.af a c,r.af a c,s.af a c,λn P=>⟨(b n P).1,Qk (b n P).2 a.size⟩⟩
def OR(P:dQ w1 x v w)(a:M v):tH (dv XP 53) λn=>v=n/\M n:=by
 obtain⟨b,c,d,e,f,g,h,i,j,G,rfl,-⟩:=P;exact bO (Li x b c d e f g h i j) ⟨rfl,a⟩
structure mP (w0 w:World) (p q:Nat) (F G:XN) (c:bQ) (X Y:dU):Prop where
 a:bY w0 w p F c X
 b:bY w0 w q G c Y
 ap:∀b,F b->¬G b
def mP.ah(n:mP w0 w p q F G c X Y)(P:ai w w'):mP w0 w' p q F G c X Y:=⟨n.a.ah P,n.b.ah P,n.ap⟩
def mP.SB(P:mP w0 w p q F G c X Y){b:dU}(g:bY w0 w' p F' c b)(d:bL F w F' w'):mP w0 w' p q F' G c b Y:=
 ⟨g,P.b.af d.af (λn a h=>P.ap n h a) λn a=>P.a.env.aB n a,λn a e=>(d.new n a).elim (λf=>P.ap n f e) λf=>by have:=P.b.aB n e;omega⟩
def mP.UD(a:mP w0 w p q F G c X Y){b:dU}(n:bY w0 w' q G' c b)(d:bL G w G' w'):mP w0 w' p q F G' c X b:=
 ⟨a.a.af d.af (λP n f=>a.ap P n f) λP n=>a.b.env.aB P n,n,λP n g=>(d.new P g).elim (λe=>a.ap P n e) λe=>by have:=a.a.aB P n;omega⟩
end
def pf:jN:=⟨[(12,[(13,XH 0)]),(21,[(15,XH 0)])],[],[18],[],[(18,⟨[0,0,2,0,12,16,33,0,0,256,0,1536,2048,4288,8256,16384,49152,65536,196608,65536,851968,1376256,2162688],[8388607,8388607,8388605,8388607,8388595,8388591,8388574,8388607,8388607,8388351,8388607,8387071,8386559,8384383,8380351,8372223,8355839,8323071,8191999,8323071,7798783,7012351,6225919],[0,0,1,0,0,1,2,0,0,1,0,0,1,2,2,0,0,0,2,0,2,0,0]⟩)]⟩
def oP{J K D L M G N O s l t:Int}(Y:PA b (.cells #[.ii J,.ii K,.ii D,.ii L,.ii M,.ii G,.ii N,.ii O,.slice d a c,.slice u i p,.slice e5 E c2] 30) λQ=>(Ld 30 (ab_ b 0) Q λZ=>PC_ 7 #[Z] Q (kB λa3 v=>an a3 (PC_ 8 #[] v (kB λa4 a5=>rt A ((.bool a4)) a5) (pE A)) ((Ld 27 (ab_ b 0) v λa6=>PC_ 9 #[a6] v (λa7 R=>∃n w,a7= .tuple #[.pointer n,.ii w]/\(Ld 27 (ab_ b 0) R λa8=>PC_ 9 #[a8] R (λa9 x=>∃h S,a9= .tuple #[.pointer h,.ii S]/\an (w !=S) (rt A ((.bool false)) x) (an (w !=0) (PC_ 8 #[] x (kB λb0 b1=>rt A ((.bool b0)) b1) (pE A)) (PR_ (eq_ .eql 33 (.tmp 37) (.const (.pointer none)) (.pointer n) (.pointer none)) x (kB λb2 T=>an b2 (rt A ((.bool false)) T) (PR_ (eq_ .eql 33 (.tmp 40) (.const (.pointer none)) (.pointer h) (.pointer none)) T (kB λb3 g=>an b3 (rt A ((.bool false)) g) ((rI g (ab_ b 0) λb4=>an (decide (b4<1)) (rt A ((.bool false)) g) ((rI g (ab_ b 0) λb5=>an (decide (b5>64)) (rt A ((.bool false)) g) ((∃y:Nat->Int->XU,(∃m,y m 0 g)/\∀(m:Nat) (P:Int) (e8:Nat->Value) (j:World),y m P j->(rS j (ab_ b (0+10)) λe9 b6 f0=>an (decide (P<(b6:Int))) ((rI j (ab_ b 0) λb7=>PC_ 15 #[.ii P,.ii b7] j (kI_ λz b8=>PC_ 13 #[.pointer n,.agg #[.ii 10,.ii z,.ii 0,.ii s,.ii l,.ii 0,.ii 0,.ii 0,.ii 0,.ii 0]] b8 (kX_ 53 λf1 b9=>PC_ 13 #[.pointer n,.agg #[.ii 9,.ii z,.ii t,.ii s,.ii l,.ii 0,.ii 0,.ii 0,.ii 0,.ii 0]] b9 (kX_ 53 λf2 c0=>PC_ 13 #[.pointer n,.agg #[.ii 11,.ii z,.ii t,.ii 0,.ii 0,.ii l,.ii 0,.ii 0,.ii 0,.ii 0]] c0 (kX_ 53 λf3 c1=>(∀e,bF c1 e->∃f:XN,(rS e (ab_ b (0+10)) λa0 c3 f4=>(ix_ a0 P c3 λc4 c5=>(Ld 40 (ad c4 (c5+Int.toNat P*10)) e λc6=>(¬f b.heap.size/\(rS e (ab_ b (0+10)) λc7 c8 f5=>(ix_ c7 P c8 λU c9=>(¬f U/\(Ld 40 (ad U (c9+Int.toNat P*10)) e λd0=>PC_ 13 #[.pointer n,c6] e (kX_ 53 λd1 B=>(ak f e B/\PC_ 13 #[.pointer h,d0] B (kX_ 53 λd2 C=>(ak f B C/\PC_ 16 #[d1,d2] C (kB λd3 o=>(ak f C o/\an (!d3) (rt A ((.bool false)) o) (PC_ 12 #[.pointer n] o (kI_ λd4 F=>(ak f o F/\PC_ 12 #[.pointer h] F (kI_ λd5 H=>(ak f F H/\an (d4 !=d5) (rt A ((.bool false)) H) ((∃V,V<m/\y V (IntKind.wrap .i64 (P+1)) H)))) (pZ A))) (pZ A)))) (pZ A))) (pZ A))) (pZ A))))))))))) (pE A)) (pE A)) (pE A)) (pE A))) ((∃I:Nat->Int->XU,(∃q,I q 0 j)/\∀(q:Nat) (k:Int) (f6:Nat->Value) (r:World),I q k r->(rI r (ab_ b 0) λd6=>an (decide (k<d6)) (PC_ 18 #[.pointer n,.ii k] r (kS_ λd7 d8 d9 e0=>PC_ 18 #[.pointer h,.ii k] e0 (kS_ λe1 e2 e3 e4=>PC_ 17 #[.slice d7 d8 d9,.slice e1 e2 e3] e4 (kB λa1 W=>an (!a1) (rt A ((.bool false)) W) ((∃X,X<q/\I X (IntKind.wrap .i64 (k+1)) W))) (pE A)) (pE A)) (pE A)) (PC_ 8 #[] r (kB λe6 e7=>rt A ((.bool e6)) e7) (pE A))))))))))))) (pV A))) (pV A)))) (pE A))) (pE A)))) (pE A))):ZG 4 #[.agg #[.ii J,.ii K,.ii D,.ii L,.ii M,.ii G,.ii N,.ii O,.slice d a c,.slice u i p,.slice e5 E c2],.ii s,.ii l,.ii t] b A:=DC pf Tryz.func4 rfl Y
section
variable {w w' w0 w1 w2 wb:World} {p q i k g:Nat} {F F1 F' G G' T D E:XN} {c:bQ} {X Y:dU} {s:fI} {x:gE} {v:Value} {ta pa la:ZH} {tn tc pn pc ln lc:Nat} {l:List fI}
def Jw(P:mP w0 w p q F G c X Y)(d:fJ k X)(e:k<=999)(f:s.Ok)(g:s.kind=9\/s.kind=10\/s.kind=11)(n:∀w' F',mP w0 w' p q F' G c X Y->bL F w F' w'->y w'):
  PC XP 13 #[XL p,iS s] w (λv w'=>tH (dv XP 53) λx=>v=x/\y w') a4:=by
 refine PC.ok (zQ P.a d e f) ?_;rintro v w' ⟨F',h,a,-,b⟩;rw[Jy g]at a;exact OR h.at' (n w' F' (P.SB a b) b)
set_option maxHeartbeats 2000000 in
def sN(m:eD w)(o:Laid w)(Z:bb w D c.decl ta tn pa pn)(hD:∀n,D n->n<w.heap.size)(hl:Row GX 80 w E la ln l)(hE:∀n,E n->n<w.heap.size)(hs:aH c.bN)(b7:aH c.every)(b8:aH c.start)(ht:aH e)(b0:aH r)(b9:aH N):
  ZG 4 #[Ll c ta tn tc pa pn pc la ln lc,XH e,XH r,XH N] w (Ok λv w'=>v= .bool true/\ai w w'):=by
 have g9:=hl.len;refine oP (PA.mk λw1 k1 s1 g1=>ar (Tp c ta tn tc pa pn pc la ln lc) g1 (PC.ok (Ju (Z.ah k1) (hl.ah k1)) ?_));rintro _ w3 ⟨⟨f0,rfl,e1⟩,L⟩;have t:=k1.then L;have c1:=L.get g1 id;refine⟨_,rfl,an.mk (λ_=>OP m o t) (λe2=>?_)⟩;have f1:=e1 e2;refine Lm c1 (PC.ok (Ez m o t (Z.ah t) (λn P=>by have:=hD n P;have:=t.size;omega) hs b7 b8) ?_);rintro v5 w5 ⟨M,h5⟩;have u:=t.then M;have c2:=M.get c1 id;have b:∀{κ:XR} {ε:List PanicEntry->XU},(∀v w',Jr w w5 c v w'->κ v w')->iK XP 27 (XL w.heap.size) w5 λx=>PC XP 9 #[x] w5 κ ε:=λ{κ ε} a=>Lm c2 (PC.ok (Ez m o u (Z.ah u) (λn P=>by have:=hD n P;have:=u.size;omega) hs b7 b8) a);rcases h5 with⟨c3,rfl⟩|⟨hz,p,F,rfl,hA,hF,c4⟩
 ·refine⟨_,_,rfl,b ?_⟩
  rintro v7 O ⟨i,⟨-,rfl⟩|⟨a,-⟩⟩
  ·exact⟨_,_,rfl,an.dF (λa=>Zz rfl a) (λ_=>an.dF (λ_=>OP m o (u.then i)) (λa=>Zz a c3))⟩
  ·exact Zz a c3
 refine⟨_,_,rfl,b ?_⟩;rintro v7 O ⟨i,⟨a,-⟩|⟨-,q,G,rfl,hB,hG,-⟩⟩
 ·exact Zz hz a
 have Q:=u.then i;have R:=i.get c2 id;obtain⟨-,h0,h3,-⟩:=hA.len;have e4:=hA.aB;have z1:w.heap.size<w1.heap.size:=oM
 have z3:=L.size;have z5:=M.size;refine⟨_,_,rfl,an.dF (λa=>Zz rfl a) (λ_=>an.dF (λa=>Zz rfl a) (λ_=>fh Tryz.underlying33 ⟨_,rfl,an.ff rfl (fh Tryz.underlying33 ⟨_,rfl,an.ff rfl ⟨_,ae R rfl,an.dec (λa=>oM) (λ_=>⟨_,ae R rfl,an.dec (λa=>oM) (λ_=>?_)⟩)⟩⟩)⟩))⟩;have c5:mP w O p q F G c (zR c).2 (zR c).2:=⟨hA.ah i,hB,λn hf hg=>by have:=e4 n hf;have:=hG n hg;omega⟩
 generalize(zR c).2=X0 at c5 c4;refine⟨λy a0 w'=>∃(j:Nat) (S G2:XN) (X:dU),a0=j/\j<=ln/\y=ln-j/\mP w w' p q S G2 c X X/\fJ j X/\ak (λn=>w1.heap.size<=n) O w'/\(∀n,S n->w1.heap.size<=n)/\∀n,G2 n->w1.heap.size<=n,
  ⟨_,0,F,G,X0,rfl,Qj _,rfl,c5,c4,ak.refl _,λn P=>by have:=hF n P;omega,λn P=>by have:=hG n P;omega⟩,?_⟩
 rintro y _ _ w8 ⟨j,S,G2,X,rfl,hj,rfl,c6,k,z,c7,b1⟩;have z7:=Q.size;have h4:=((L.then M).then i).size;have h6:=z.size;have c8:ai w w8:=Q.new z λn P=>.inr (by have P:w1.heap.size<=n:=P;omega);have b2:=z.get R oM;refine⟨_,_,_,ae b2 rfl,an.dec (λe5=>?_) (λe6=>?_)⟩
 ·refine⟨_,ae b2 rfl,PC.ok (OS bc) ?_⟩
  rintro _ _ ⟨rfl,rfl⟩;have hp:=zS (k:=(j:Int)) (n:=c.aD) oM;generalize pick (j:Int) c.aD=T at hp;have b4:aH T:=by unfold aH;omega
  refine⟨_,rfl,Jw (s:=⟨10,T,0,⟨e,r,0,0,0,0,0⟩⟩) c6 k oM ⟨i10 rfl,b4,i10 rfl,ht,b0,i10 rfl,i10 rfl,i10 rfl,i10 rfl⟩ (.inr (.inl rfl)) λw9 F9 A v9=>?_⟩;refine Jw (s:=⟨9,T,N,⟨e,r,0,0,0,0,0⟩⟩) A k oM ⟨i10 rfl,b4,b9,ht,b0,i10 rfl,i10 rfl,i10 rfl,i10 rfl⟩ (.inl rfl) λe7 e8 c9 e9=>?_;refine Jw (s:=⟨11,T,N,⟨0,0,r,0,0,0,0⟩⟩) c9 k oM ⟨i10 rfl,b4,b9,i10 rfl,i10 rfl,b0,i10 rfl,i10 rfl,i10 rfl⟩ (.inr (.inr rfl)) λd0 b5 d1 f2=>?_;intro B f3;have U:ai d0 B:=f3.af;have a6:bL S w8 b5 B:=((v9.trans e9).trans f2).ah U;have V:∀n,b5 n->w1.heap.size<=n:=λn P=>(a6.new n P).elim (c7 n) λa=>by have:=c8.size;have:=z.size;omega
  have W:ak (λn=>w1.heap.size<=n) O B:=z.then (a6.af.mono λn _ P=>c7 n P);have a1:=d1.ah U;have a7:=W.get R oM;have kE:ak (λn=>w1.heap.size<=n) w B:=(ai.af Q).then W;obtain⟨n,a5,s,C,c0,a2,d2,g,H⟩:=OQ (hl.af kE λn P a=>by have:=hE n P;omega) (j:=j) oM;have g3:=hE n a2;have n0:¬w1.heap.size<=w.heap.size:=oM
  have n1:¬w1.heap.size<=n:=oM
  refine⟨λn=>w1.heap.size<=n,_,_,_,ae a7 rfl,n,a5,C,oM,oM,?_⟩;rw[Qx];refine H _ ⟨n0,_,_,_,ae a7 rfl,n,a5,C,oM,oM,n1,?_⟩;refine H _ (PC.ok (zQ a1.a k oM g) ?_);rintro va h7 ⟨f5,a8,d3,d4,I⟩;have a9:=a1.SB d3 I;refine OR a8.at' ⟨I.af.mono λn _ P=>V n P,PC.ok (zQ a9.b k oM g) ?_⟩;rintro vb h8 ⟨f6,b3,d5,g4,J⟩;have d6:=a9.UD d5 J;have f8:=a1.b.aB;have d7:=a8.at'.af J.af λn f h2 hg=>by have:=f8 n hg;omega
  refine OR b3.at' ⟨J.af.mono λn _ P=>b1 n P,PC.ok (zU d7 b3.at') ?_⟩;rintro _ h9 ⟨rfl,b6⟩;have a3:=d6.ah b6;refine⟨_,rfl,ai.af b6,an.ff rfl (PC.ok (sL a3.a) ?_)⟩;rintro _ _ ⟨rfl,rfl⟩;refine⟨_,rfl,ak.refl _,PC.ok (sL a3.b) ?_⟩;rintro _ _ ⟨rfl,rfl⟩;have g5:=W.size;have g6:=I.af.size;have i0:=Q.size;refine⟨_,rfl,ak.refl _,an.dF (λa=>Zz rfl a) (λ_=>⟨_,oM,j+1,f5,f6,_,aq oM,oM,rfl,a3,d4,((W.then (I.af.mono λn _ P=>V n P)).then (J.af.mono λn _ P=>b1 n P)).then (ai.af b6),λn P=>(I.new n P).elim (V n) λa=>oM,λn P=>(J.new n P).elim (b1 n) λa=>oM⟩)⟩
 ·refine⟨λy a0 w'=>∃j:Nat,a0=j/\j<=c.aD.toNat/\y=c.aD.toNat-j/\ai w8 w',⟨_,0,rfl,Qj _,rfl,ak.refl _⟩,?_⟩
  rintro y _ _ w9 ⟨K,rfl,he,rfl,Y⟩;have g0:=Y.get b2 id;have A:=c6.ah Y;obtain⟨g7,-⟩:=A.a.len;have a4:∀h∈X.aD,h.S.l.length<=17000000:=λh d=>by have:=(k.aD h d).evs;omega
  refine⟨_,ae g0 rfl,an.dec (λe5=>?_) (λe6=>OP m o (c8.then Y))⟩;have d:eG X.aD (K:Int)=some X.aD[K]:=by rw[CR];exact Qq oM
  have g2:=a4 X.aD[K] (XY oM);generalize X.aD[K]=h at d g2;refine PC.ok (zP A.a λh d=>by have:=a4 h d;omega) ?_;rintro _ e7 (⟨a,-⟩|⟨R1,f,i1,i2,i3,e8,rfl,d9,d8,g8⟩)
  ·rw[d]at a;cases a
  rw[d]at f;injection f with f;subst f;refine⟨_,_,_,rfl,PC.ok (zP (A.ah d8).b λh d=>by have:=a4 h d;omega) ?_⟩;rintro _ d0 (⟨a,-⟩|⟨R1,f,i4,i5,i6,b5,rfl,e3,e0,V⟩)
  ·rw[d]at a;cases a
  rw[d]at f;injection f with f;subst f;refine⟨_,_,_,rfl,PC.ok (zV ((d9.ah e0).row dC ba) (e3.row dC ba)) ?_⟩;rintro _ B ⟨rfl,U⟩;exact⟨_,rfl,an.ff sM ⟨_,oM,K+1,aq oM,oM,rfl,((Y.then d8).then e0).then U⟩⟩
end
end Go.Proofs.YtjgjkeponbeekaaGreatDoor
namespace Go.au
open Go Go.WideShapes
variable{K:Bool}{f7:List MemPlace}{a:Nat}{h:Program}{I j:Type}{g:TypeId}{v:Value}{b:World}
def OU{n:TypeId×Value->j}{f:Reach}{d:DataW j}{e:jt I}{i:Array Field}(k:h.underlying g=some (.struct i))(l:Reads h e g)(m:Value.okWide h b f a g v)(o:DataW.Trod n h b 0 (λ_=>true) K g v d f7)(p:lC h g d):∃c cs,v= .agg cs/\e.rep b (In b) c cs.toList:=by
 obtain⟨cs,rfl,-⟩:=okWide_struct k m;obtain⟨P,q⟩:=o;obtain⟨c,r⟩:=l j n b K P cs.toList _ q p;exact⟨c,cs,rfl,r⟩
end Go.au
namespace Go.Proofs.YtjgjkeponbeekaaGreatDoor
section
open Go.au
structure US (c:bQ):Prop where
 aD:aH c.aD
 uL:aH c.uL
 bN:aH c.bN
 chunk:aH c.chunk
 buffer:aH c.buffer
 cP:aH c.cP
 every:aH c.every
 start:aH c.start
def UT:jt aM where
 k:=2
 rep:=λh D i cs=>∃n tn b P a c,cs=[.slice n tn b,.slice P a c]/\bb h D i n tn P a
 af:=λ⟨n,tn,b,P,a,c,d,e⟩ j f=>⟨n,tn,b,P,a,c,d,e.af j f⟩
 mono:=λ⟨n,tn,b,P,a,c,d,e⟩ f=>⟨n,tn,b,P,a,c,d,e.mono f⟩
 len:=λ⟨n,tn,b,P,a,c,d,_⟩=>by rw[d];rfl
 one:=λ⟨n,tn,b,P,a,c,d,_⟩ k g=>by rw[d]at g;simp at g;rcases g with rfl|rfl<;>rfl
def Wr:jt bQ where
 k:=10
 rep:=λj D e cs=>∃n tn b P a c,cs=dW e n tn b P a c/\bb j D e.decl n tn P a/\US e
 af:=λ⟨n,tn,b,P,a,c,d,f,g⟩ k h=>⟨n,tn,b,P,a,c,d,f.af k h,g⟩
 mono:=λ⟨n,tn,b,P,a,c,d,f,g⟩ h=>⟨n,tn,b,P,a,c,d,f.mono h,g⟩
 len:=λ⟨n,tn,b,P,a,c,d,_,_⟩=>by rw[d];rfl
 one:=λ⟨n,tn,b,P,a,c,d,_,_⟩ l i=>by rw[d]at i;simp[dW]at i;rcases i with rfl|rfl|rfl|rfl|rfl|rfl|rfl|rfl|rfl|rfl<;>rfl
def Ws:jt lO:=flat 7 gT lO.Ok (λ_=>rfl) (λP a n=>by simp[gT]at n;rcases n with rfl|rfl|rfl|rfl|rfl|rfl|rfl<;>rfl)
def Kj:Reads XP ix 188:=λy e z A P cs B f C=>by
 obtain⟨g,E,_,rfl,h,i,n⟩:=DataW.trod_struct (Tryz.underlying188) f;have j:Tryz.prog.cellsOf 188=4:=kR
 have k:cs.length=4:=h.trans j;have l:Tryz.prog.cellsOf 3=1:=kR
 match cs,k with
 |[F,H,I,J],_=>
 match g,i with
 |[K,L,M,N],_=>
  have a:=n 0 _ rfl;have b:=n 1 _ rfl;have c:=n 2 _ rfl;have d:=n 3 _ rfl;simp only[l,List.drop_zero,List.drop_succ_cons,Zw,List.take_zero,List.take_nil,ZJ,ZZ]at a b c d;obtain⟨m,o,-,p⟩:=DataW.trod_int Tryz.underlying3 a;obtain⟨z1,q,-,r⟩:=DataW.trod_int Tryz.underlying3 b;obtain⟨s,t,-,u⟩:=DataW.trod_int Tryz.underlying3 c;obtain⟨v,w,-,x⟩:=DataW.trod_int Tryz.underlying3 d
  cases o;cases q;cases t;cases w
  exact⟨⟨m,z1,s,v⟩,rfl,aX p,aX r,aX u,aX x⟩
def MV:Reads XP rl 121:=λK e L M P cs N f g=>by
 obtain⟨h,O,_,rfl,i,j,n⟩:=DataW.trod_struct (Tryz.underlying121) f;have k:Tryz.prog.cellsOf 121=4:=kR
 have l:cs.length=4:=i.trans k;have m:Tryz.prog.cellsOf 3=1:=kR
 have o:Tryz.prog.cellsOf 4=1:=kR
 have p:Tryz.prog.cellsOf 119=1:=kR
 match cs,l with
 |[Q,R,S,T],_=>
 match h,j with
 |[U,V,W,q],_=>
  have a:=n 0 _ rfl;have b:=n 1 _ rfl;have c:=n 2 _ rfl;have d:=n 3 _ rfl;simp only[m,o,p,List.drop_zero,List.drop_succ_cons,Zw,List.take_zero,List.take_nil,ZJ,ZZ]at a b c d;obtain⟨r,s,-,t⟩:=DataW.trod_int Tryz.underlying3 a;obtain⟨z1,u,-,v⟩:=DataW.trod_int Tryz.underlying3 b;obtain⟨w,x,-⟩:=DataW.trod_bool Tryz.underlying4 c;have y:lC XP 119 q.1:=by
   intro z A;refine g z ?_;have B:Tryz.prog.underlying 121=_:=Tryz.underlying121;simp only[DataW.weights,B,QY,List.map_nil,DataW.weightsEach,Q6];right;right;right;left;exact A
  obtain⟨C,E,F,H,I,-,-,J⟩:=open_row (bytes:=32) Tryz.underlying119 kR dC kR (Kj) d y
  cases s;cases u;cases x;cases I
  exact⟨⟨r,z1,w,H⟩,C,E,F,rfl,J,aX t,aX v⟩
def MW:Reads XP mB 118:=λw a x y n cs z b c=>by
 obtain⟨d,A,_,rfl,e,f,g⟩:=DataW.trod_struct (Tryz.underlying118) b;have h:Tryz.prog.cellsOf 118=1:=kR
 have i:cs.length=1:=e.trans h;have j:Tryz.prog.cellsOf 116=1:=kR
 match cs,i with
 |[B],_=>
 match d,f with
 |[k],_=>
  have P:=g 0 _ rfl;simp only[j,List.drop_zero,List.drop_succ_cons,Zw,List.take_zero,List.take_nil,ZJ,ZZ]at P;have l:lC XP 116 k.1:=by
   intro m o;refine c m ?_;have p:Tryz.prog.underlying 118=_:=Tryz.underlying118;simp only[DataW.weights,p,QY,List.map_nil,DataW.weightsEach,Q6];left;exact o
  obtain⟨q,r,s,t,u,-,-,v⟩:=open_row (bytes:=48) Tryz.underlying116 kR dC kR (MV) P l
  cases u
  exact⟨t,q,r,s,rfl,v⟩
def Kk:Reads XP AM 138:=λC f E F P cs H g I=>by
 obtain⟨h,J,_,rfl,i,j,n⟩:=DataW.trod_struct (Tryz.underlying138) g;have k:Tryz.prog.cellsOf 138=5:=kR
 have l:cs.length=5:=i.trans k;have m:Tryz.prog.cellsOf 3=1:=kR
 match cs,l with
 |[K,L,M,N,O],_=>
 match h,j with
 |[Q,R,S,T,U],_=>
  have a:=n 0 _ rfl;have b:=n 1 _ rfl;have c:=n 2 _ rfl;have d:=n 3 _ rfl;have e:=n 4 _ rfl;simp only[m,List.drop_zero,List.drop_succ_cons,Zw,List.take_zero,List.take_nil,ZJ,ZZ]at a b c d e;obtain⟨o,p,-,q⟩:=DataW.trod_int Tryz.underlying3 a;obtain⟨z1,r,-,s⟩:=DataW.trod_int Tryz.underlying3 b;obtain⟨t,u,-,v⟩:=DataW.trod_int Tryz.underlying3 c;obtain⟨w,x,-,y⟩:=DataW.trod_int Tryz.underlying3 d;obtain⟨z,A,-,B⟩:=DataW.trod_int Tryz.underlying3 e
  cases p;cases r;cases u;cases x;cases A
  exact⟨⟨o,z1,t,w,z⟩,rfl,aX q,aX s,aX v,aX y,aX B⟩
def Kl:Reads XP UT 25:=λH g I J b cs K h c=>by
 obtain⟨i,L,_,rfl,j,k,d⟩:=DataW.trod_struct (Tryz.underlying25) h;have l:Tryz.prog.cellsOf 25=2:=kR
 have m:cs.length=2:=j.trans l;have o:Tryz.prog.cellsOf 22=1:=kR
 have p:Tryz.prog.cellsOf 23=1:=kR
 match cs,m with
 |[M,N],_=>
 match i,k with
 |[q,r],_=>
  have e:=d 0 _ rfl;have f:=d 1 _ rfl;simp only[o,p,List.drop_zero,List.drop_succ_cons,Zw,List.take_zero,List.take_nil,ZJ,ZZ]at e f;have s:lC XP 22 q.1:=by
   intro n P;refine c n ?_;have a:Tryz.prog.underlying 25=_:=Tryz.underlying25;simp only[DataW.weights,a,QY,List.map_nil,DataW.weightsEach,Q6];left;exact P
  obtain⟨t,u,v,w,x,-,-,y⟩:=open_row (bytes:=24) Tryz.underlying22 kR dC kR (MW) e s;have z:lC XP 23 r.1:=by
   intro n P;refine c n ?_;have a:Tryz.prog.underlying 25=_:=Tryz.underlying25;simp only[DataW.weights,a,QY,List.map_nil,DataW.weightsEach,Q6];right;left;exact P
  obtain⟨A,B,C,z1,E,-,-,F⟩:=open_row (bytes:=40) Tryz.underlying23 kR dC kR (Kk) f z
  cases x;cases E
  exact⟨⟨w,z1⟩,t,u,v,A,B,C,rfl,⟨y,F⟩⟩
def MX:Reads XP Wr 27:=λk P l m a cs a0 o p=>by
 obtain⟨q,n2,_,rfl,r,s,n⟩:=DataW.trod_struct (Tryz.underlying27) o;have t:Tryz.prog.cellsOf 27=10:=kR
 have u:cs.length=10:=r.trans t;have v:Tryz.prog.cellsOf 3=1:=kR
 have w:Tryz.prog.cellsOf 25=2:=kR
 match cs,u with
 |[v0,v1,v2,v3,v4,v5,v6,v7,v8,v9],_=>
 match q,s with
 |[y0,y1,y2,y3,y4,y5,y6,y7,x],_=>
  have b:=n 0 _ rfl;have c:=n 1 _ rfl;have d:=n 2 _ rfl;have e:=n 3 _ rfl;have f:=n 4 _ rfl;have g:=n 5 _ rfl;have h:=n 6 _ rfl;have i:=n 7 _ rfl;have j:=n 8 _ rfl;simp only[v,w,List.drop_zero,List.drop_succ_cons,Zw,List.take_zero,List.take_nil,ZJ,ZZ]at b c d e f g h i j;obtain⟨y,z,-,A⟩:=DataW.trod_int Tryz.underlying3 b;obtain⟨z1,B,-,C⟩:=DataW.trod_int Tryz.underlying3 c;obtain⟨E,F,-,H⟩:=DataW.trod_int Tryz.underlying3 d;obtain⟨I,J,-,K⟩:=DataW.trod_int Tryz.underlying3 e;obtain⟨L,M,-,N⟩:=DataW.trod_int Tryz.underlying3 f;obtain⟨O,Q,-,R⟩:=DataW.trod_int Tryz.underlying3 g;obtain⟨S,T,-,U⟩:=DataW.trod_int Tryz.underlying3 h;obtain⟨V,W,-,X⟩:=DataW.trod_int Tryz.underlying3 i;have Y:lC XP 25 x.1:=by
   intro Z hq;refine p Z ?_;have hu:Tryz.prog.underlying 27=_:=Tryz.underlying27;simp only[DataW.weights,hu,QY,List.map_nil,DataW.weightsEach,Q6];right;right;right;right;right;right;right;right;left;exact hq
  obtain⟨z8,r8⟩:=Kl k P l m _ _ _ j Y
  cases z;cases B;cases F;cases J;cases M;cases Q;cases T;cases W
  obtain⟨ta,tn,tc,pa,pn,pc,he,hd⟩:=r8
  cases he
  exact⟨⟨y,z1,E,I,L,O,S,V,z8⟩,ta,tn,tc,pa,pn,pc,rfl,hd,aX A,aX C,aX H,aX K,aX N,aX R,aX U,aX X⟩
def MY:Reads XP Ws 38:=λL h M N P cs O i Q=>by
 obtain⟨j,R,_,rfl,k,l,n⟩:=DataW.trod_struct (Tryz.underlying38) i;have m:Tryz.prog.cellsOf 38=7:=kR
 have o:cs.length=7:=k.trans m;have p:Tryz.prog.cellsOf 3=1:=kR
 match cs,o with
 |[S,T,U,V,W,X,Y],_=>
 match j,l with
 |[Z,y1,y2,y3,y4,y5,y6],_=>
  have a:=n 0 _ rfl;have b:=n 1 _ rfl;have c:=n 2 _ rfl;have d:=n 3 _ rfl;have e:=n 4 _ rfl;have f:=n 5 _ rfl;have g:=n 6 _ rfl;simp only[p,List.drop_zero,List.drop_succ_cons,Zw,List.take_zero,List.take_nil,ZJ,ZZ]at a b c d e f g;obtain⟨q,r,-,s⟩:=DataW.trod_int Tryz.underlying3 a;obtain⟨z1,t,-,u⟩:=DataW.trod_int Tryz.underlying3 b;obtain⟨v,w,-,x⟩:=DataW.trod_int Tryz.underlying3 c;obtain⟨y,z,-,A⟩:=DataW.trod_int Tryz.underlying3 d;obtain⟨B,C,-,E⟩:=DataW.trod_int Tryz.underlying3 e;obtain⟨F,H,-,w5⟩:=DataW.trod_int Tryz.underlying3 f;obtain⟨I,J,-,K⟩:=DataW.trod_int Tryz.underlying3 g
  cases r;cases t;cases w;cases z;cases C;cases H;cases J
  exact⟨⟨q,z1,v,y,B,F,I⟩,rfl,aX s,aX u,aX x,aX A,aX E,aX K⟩
end
section
open Go.au
def UU:jt (bQ×List fI) where
 k:=11
 rep:=λo D i cs=>∃n tn d P a e b c f,cs=jU i.1 n tn d P a e b c f/\bb o D i.1.decl n tn P a/\US i.1/\Row GX 80 o D b c i.2
 af:=λ⟨n,tn,d,P,a,e,b,c,f,g,j,k,l⟩ p h=>⟨n,tn,d,P,a,e,b,c,f,g,j.af p h,k,l.af p h⟩
 mono:=λ⟨n,tn,d,P,a,e,b,c,f,g,j,k,l⟩ h=>⟨n,tn,d,P,a,e,b,c,f,g,j.mono h,k,l.mono h⟩
 len:=λ⟨n,tn,d,P,a,e,b,c,f,g,_⟩=>by rw[g];rfl
 one:=λ⟨n,tn,d,P,a,e,b,c,f,g,_⟩ q m=>by rw[g]at m;simp[jU,dW]at m;rcases m with rfl|rfl|rfl|rfl|rfl|rfl|rfl|rfl|rfl|rfl|rfl<;>rfl
def Km:Reads XP GX 40:=λg P h i a cs L j k=>by
 obtain⟨l,M,_,rfl,m,o,n⟩:=DataW.trod_struct (Tryz.underlying40) j;have p:Tryz.prog.cellsOf 40=10:=kR
 have q:cs.length=10:=m.trans p;have r:Tryz.prog.cellsOf 3=1:=kR
 have s:Tryz.prog.cellsOf 38=7:=kR
 match cs,q with
 |[N,O,Q,R,S,T,U,V,W,X],_=>
 match l,o with
 |[Y,Z,y2,t],_=>
  have b:=n 0 _ rfl;have c:=n 1 _ rfl;have d:=n 2 _ rfl;have e:=n 3 _ rfl;simp only[r,s,List.drop_zero,List.drop_succ_cons,Zw,List.take_zero,List.take_nil,ZJ,ZZ]at b c d e;obtain⟨u,v,-,w⟩:=DataW.trod_int Tryz.underlying3 b;obtain⟨z1,x,-,y⟩:=DataW.trod_int Tryz.underlying3 c;obtain⟨z,A,-,B⟩:=DataW.trod_int Tryz.underlying3 d;have C:lC XP 38 t.1:=by
   intro E F;refine k E ?_;have H:Tryz.prog.underlying 40=_:=Tryz.underlying40;simp only[DataW.weights,H,QY,List.map_nil,DataW.weightsEach,Q6];right;right;right;left;exact F
  obtain⟨I,J⟩:=MY g P h i _ _ _ e C
  cases v;cases x;cases A
  obtain⟨f,K⟩:=J;simp only[gT,List.cons.injEq,and_true]at f;obtain⟨rfl,rfl,rfl,rfl,rfl,rfl,rfl⟩:=f;exact⟨⟨u,z1,z,I⟩,rfl,aX w,aX y,aX B,K⟩
def Jz:Reads XP UU 30:=λi n j k c cs O l d=>by
 obtain⟨m,Q,_,rfl,o,p,e⟩:=DataW.trod_struct (Tryz.underlying30) l;have q:Tryz.prog.cellsOf 30=11:=kR
 have r:cs.length=11:=o.trans q;have s:Tryz.prog.cellsOf 27=10:=kR
 have t:Tryz.prog.cellsOf 28=1:=kR
 match cs,r with
 |[R,S,T,U,V,W,X,Y,Z,v9,a0],_=>
 match m,p with
 |[u,v],_=>
  have f:=e 0 _ rfl;have g:=e 1 _ rfl;simp only[s,t,List.drop_zero,List.drop_succ_cons,Zw,List.take_zero,List.take_nil,ZJ,ZZ]at f g;have w:lC XP 27 u.1:=by
   intro P a;refine d P ?_;have b:Tryz.prog.underlying 30=_:=Tryz.underlying30;simp only[DataW.weights,b,QY,List.map_nil,DataW.weightsEach,Q6];left;exact a
  obtain⟨x,y⟩:=MX i n j k _ _ _ f w;have z:lC XP 28 v.1:=by
   intro P a;refine d P ?_;have b:Tryz.prog.underlying 30=_:=Tryz.underlying30;simp only[DataW.weights,b,QY,List.map_nil,DataW.weightsEach,Q6];right;left;exact a
  obtain⟨A,B,C,z1,E,-,-,F⟩:=open_row (bytes:=80) Tryz.underlying28 kR dC kR (Km) g z
  cases E
  obtain⟨H,tn,I,J,K,L,h,M,N⟩:=y;simp only[dW,List.cons.injEq,and_true]at h;obtain⟨rfl,rfl,rfl,rfl,rfl,rfl,rfl,rfl,rfl,rfl⟩:=h;exact⟨(x,z1),H,tn,I,J,K,L,A,B,C,rfl,M,N,F⟩

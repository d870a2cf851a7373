import Derived.Test.YtjgjkeponbeekaaGreatDoorKl18
import Derived.Test.YtjgjkeponbeekaaGreatDoorYlQue
set_option maxHeartbeats 4000000
set_option linter.all false
set_option maxRecDepth 100000
namespace Go.Proofs.YtjgjkeponbeekaaGreatDoor
open Go.au
def JK:aN:=⟨[[⟨1,1,true,[]⟩,⟨2,3,false,[]⟩,⟨3,2,false,[]⟩,⟨4,2,false,[⟨0,1,0,2⟩,⟨1,0,-1,0⟩,⟨0,2,-1,0⟩]⟩,⟨2,2,false,[]⟩,⟨1,1,false,[]⟩]],[⟨0,0,1,0,2⟩,⟨0,2,2,0,1⟩,⟨0,5,3,4,4⟩]⟩
def fW(n:Int):bF:=⟨n,131072,400,3,20,5,4,0,JK⟩
variable{l:Array Value}{A:ZT}{N e r:Int}{e7:List Gk}{a5:List PanicEntry->ZU}{d8:List aR}{a2:List bt}{E a c c2 i p:Nat}{f:ZN}{C:Nat×Nat}{d e5 u:YQ}{j:Type}{g:TypeId}{M:Value->Prop}{m:ZR}{b:World}{g5:World->(ZN)->cI->Prop}{h6:World->ZU}
def Row.z_{c:jF j}{bytes n:Nat}{D:ZN}(d:b.heap[n]? =some (.cells l g C)){xs:List j}(k:bK c b D xs l.toList)(q:0<c.k)(P:xs.length*bytes<=aK):Row c bytes b (λa=>a=n\/D a) (ZM n) xs.length xs:=
 ⟨rfl,P,λr s m=>by
  obtain⟨e,o,f⟩:=k.at m;have t:=c.len f;refine⟨n,0,e,rfl,ax d,.inl rfl,λh p=>?_,c.mono f λa P=>.inr P⟩;have i:=o h p;rw[Qq (show h<e.length by omega)]at i⊢;rw[Xz];exact ae d (by simpa using i)⟩
def i10(n:(decide (-1000000<=e)&&decide (e<=1000000))=true):aJ e:=by
 simp only[QK,Zk]at n;unfold aJ;omega
section
variable {w w' w0:World}
def LR:YX 60 #[] w (Ok λu w'=>∃m tn v o p x G,u= .agg #[.slice m tn v,.slice o p x]/\bf w' G JK m tn o p/\(∀n,G n->w.heap.size<=n/\n<w'.heap.size)/\ai w w'):=by
 refine FP (PA.mk λb y V z=>PA.mk λd A W B=>PA.mk λf q X C=>PA.mk λg k Y E=>PA.mk λr h Z F=>?_);have s:=((A.then q).then k).then h;refine PS.mk (s.get z id) sM λw6 H s6 I=>PS.mk I sM λc J s7 t=>⟨_,_,_,_,_,_,ae t rfl,ae t rfl,?_⟩
 have e:ak (λn=>n=w.heap.size) r c:=H.then J;have K:=e.get (h.get (k.get (q.get B id) id) id) (λP=>by have P:b.heap.size=w.heap.size:=P;omega);have L:=e.get (h.get (k.get C id) id) (λP=>by have P:d.heap.size=w.heap.size:=P;omega);have M:=e.get (h.get E id) (λP=>by have P:f.heap.size=w.heap.size:=P;omega);have N:=e.get F (λP=>by have P:g.heap.size=w.heap.size:=P;omega);have O:Row iN 32 c (λn=>n=b.heap.size\/False) (ZM b.heap.size) 3 [⟨0,1,0,2⟩,⟨1,0,-1,0⟩,⟨0,2,-1,0⟩]:=
  Row.z_ (c:=iN) (xs:=[⟨0,1,0,2⟩,⟨1,0,-1,0⟩,⟨0,2,-1,0⟩]) (D:=λ_=>False) K ⟨_,_,rfl,⟨rfl,i10 rfl,i10 rfl,i10 rfl,i10 rfl⟩,_,_,rfl,⟨rfl,i10 rfl,i10 rfl,i10 rfl,i10 rfl⟩,_,_,rfl,⟨rfl,i10 rfl,i10 rfl,i10 rfl,i10 rfl⟩,rfl⟩ dC dC
 have Q:Row rN 48 c (λn=>n=d.heap.size\/n=b.heap.size\/False) (ZM d.heap.size) 6 [⟨1,1,true,[]⟩,⟨2,3,false,[]⟩,⟨3,2,false,[]⟩,⟨4,2,false,[⟨0,1,0,2⟩,⟨1,0,-1,0⟩,⟨0,2,-1,0⟩]⟩,⟨2,2,false,[]⟩,⟨1,1,false,[]⟩]:=by
  have no:∀(i j:Int) (l:Bool),aJ i->aJ j->rN.rep c (λn=>n=b.heap.size\/False) ⟨i,j,l,[]⟩ [ZH i,ZH j,.bool l,.slice none 0 0]:=λi j l R S=>⟨none,0,0,rfl,cZ _ _,R,S⟩
  exact Row.z_ (c:=rN) (xs:=[⟨1,1,true,[]⟩,⟨2,3,false,[]⟩,⟨3,2,false,[]⟩,⟨4,2,false,[⟨0,1,0,2⟩,⟨1,0,-1,0⟩,⟨0,2,-1,0⟩]⟩,⟨2,2,false,[]⟩,⟨1,1,false,[]⟩]) (D:=λn=>n=b.heap.size\/False) L ⟨_,_,rfl,no 1 1 true (i10 rfl) (i10 rfl),_,_,rfl,no 2 3 false (i10 rfl) (i10 rfl),_,_,rfl,no 3 2 false (i10 rfl) (i10 rfl),_,_,rfl,⟨_,_,_,rfl,O,i10 rfl,i10 rfl⟩,_,_,rfl,no 2 2 false (i10 rfl) (i10 rfl),_,_,rfl,no 1 1 false (i10 rfl) (i10 rfl),rfl⟩ dC dC
 have T:Row BB 40 c (λn=>n=f.heap.size\/False) (ZM f.heap.size) 3 JK.projs:=
  Row.z_ (c:=BB) (xs:=[⟨0,0,1,0,2⟩,⟨0,2,2,0,1⟩,⟨0,5,3,4,4⟩]) (D:=λ_=>False) M ⟨_,_,rfl,⟨rfl,i10 rfl,i10 rfl,i10 rfl,i10 rfl,i10 rfl⟩,_,_,rfl,⟨rfl,i10 rfl,i10 rfl,i10 rfl,i10 rfl,i10 rfl⟩,_,_,rfl,⟨rfl,i10 rfl,i10 rfl,i10 rfl,i10 rfl,i10 rfl⟩,rfl⟩ dC dC
 have U:Row mT 24 c (λn=>n=g.heap.size\/n=d.heap.size\/n=b.heap.size\/False) (ZM g.heap.size) 1 JK.types:=
  Row.z_ (c:=mT) (xs:=[[⟨1,1,true,[]⟩,⟨2,3,false,[]⟩,⟨3,2,false,[]⟩,⟨4,2,false,[⟨0,1,0,2⟩,⟨1,0,-1,0⟩,⟨0,2,-1,0⟩]⟩,⟨2,2,false,[]⟩,⟨1,1,false,[]⟩]]) (D:=λn=>n=d.heap.size\/n=b.heap.size\/False) N ⟨_,_,rfl,⟨_,_,_,rfl,Q⟩,rfl⟩ dC dC
 refine Ok.mk ⟨_,_,_,_,_,_,λn=>(n=g.heap.size\/n=d.heap.size\/n=b.heap.size\/False)\/n=f.heap.size\/False,rfl,⟨U.mono λn a=>.inl a,T.mono λn a=>.inr a⟩,λn a=>?_,?_⟩
 ·have z7:c.heap.size=r.heap.size:=oM
  rcases a with(rfl|rfl|rfl|a)|rfl|a<;>first|omega|exact a.elim
 ·exact(y.then s).new e λn a=>.inr (by have a:n=w.heap.size:=a;omega)
def JL:YX 24 #[ZH e] w (Ok λk w'=>∃P tn d a b f G,k=wu (fW e) P tn d a b f/\bf w' G JK P tn a b/\(∀n,G n->w.heap.size<=n/\n<w'.heap.size)/\ai w w'):=by
 refine CN (PA.mk λq l r m=>PC.ok LR ?_);rintro _ s ⟨P,tn,d,a,b,f,G,rfl,o,g,h⟩;refine⟨_,_,_,_,_,_,rfl,az (HN (fW e) P tn d a b f) (h.get m id) rfl λt i u p=>ar (HN (fW e) P tn d a b f) p (Ok.mk ⟨P,tn,d,a,b,f,G,rfl,o.af i λn c j=>by have j:n=w.heap.size:=j;have:=g n c;omega,λn c=>by have:=g n c;omega,(l.then h).new i λn c=>.inr (by have c:n=w.heap.size:=c;omega)⟩)⟩
end
section
variable {w w' w0:World} {p q:Nat} {F G D E:ZN} {c e:bF} {self other:Int} {X Y:aR}
def AI(c:bF)(self:Int):(bP c self).2.dP.asked=[]:=by
 have n:(GN c).2.dP.asked=[]:=by unfold GN;rw[lJ]
 unfold bP;split
 ·exact n
 split<;>exact n
def bG.cl(n:bG w p F c self X):X.S.Cl/\X.S.n=c.ay.toNat:=by
 obtain⟨b,d,P,a⟩:=n;exact(a.at' 3).2
end
section
variable {w w' w0 w1 w2 wb:World} {p i k g:Nat} {F F1 F' G G' T D:ZN} {cls cls':Nat->Nat} {h:Kc} {c:bF} {X:cI} {s:eS} {x:eT} {v:Value} {r:eT×cI} {now:Int} {rs:List (Nat×aR)} {bE:List bt} {y:Nat×aR} {R R':aR} {ay:List aR}
def jG.base(b:jG w1 f x v w2)(r:w.heap.size<=w1.heap.size):jG w f x v w2:=by
 obtain⟨c,d,e,g,h,i,j,k,l,G,m,o,p,q,n⟩:=b;exact⟨c,d,e,g,h,i,j,k,l,G,m,o,p,q,λP a=>⟨by have:=(n P a).1;omega,(n P a).2⟩⟩
def jG.at'(b:jG w f x v w2):du w x v w2:=by
 obtain⟨c,d,e,g,h,i,j,k,l,G,m,o,p,q,n⟩:=b;exact⟨c,d,e,g,h,i,j,k,l,G,m,o,p,q,λP a=>⟨(n P a).1,(n P a).2.1⟩⟩
def jG.new(b:du w x v w2)(c:∀n,f n->n<w.heap.size):jG w f x v w2:=by
 obtain⟨d,e,g,h,i,j,k,l,m,G,o,p,q,r,P⟩:=b;exact⟨d,e,g,h,i,j,k,l,m,G,o,p,q,r,λn a=>⟨(P n a).1,(P n a).2,λs=>by have:=c n s;have:=P n a;omega⟩⟩
def Ay{n:jF j}{bytes:Nat}(h:Row n bytes w D d a []):Row n bytes w (λ_=>False) d a []:=by
 have:=h.len;simp at this;subst this;exact⟨rfl,by unfold aK;omega,λi y P=>by simp at P⟩
def jG.flat(e:du w x v w2)(n:x.st.cells=[])(P:x.FC=[])(a:x.rows=[]):jG w f x v w2:=by
 obtain⟨g,h,i,j,k,l,m,o,p,G,q,b,c,d,s⟩:=e;rw[n]at b;rw[P]at c;rw[a]at d;exact⟨g,h,i,j,k,l,m,o,p,λ_=>False,q,by rw[n];exact Ay b,by rw[P];exact Ay c,by rw[a];exact Ay d,λt r=>r.elim⟩
def TV(s:jG wb f x v w1)(t:w1.heap[g]? =some (.cells l 53 (0,0)))(u:8=l.size)(E:g<wb.heap.size)(w:∀w2,ak (·=g) w1 w2->jG wb f x v w2->m v w2):
  uc (dG ZP 53) λy=>v=y/\lr ZP 53 (ZL g) y w1 λw2=>ig ZP 53 (ZL g) w2 λr=>Ok m (.returned r) w2:=by
 obtain⟨a,b,c,d,e,h,i,j,k,G,rfl,z,A,B,o⟩:=s;have q:∀n,G n->¬n=g:=λn P F=>by have:=o n P;omega
 exact bT (HF x a b c d e h i j k) ⟨rfl,az (f_ x a b c d e h i j k) t u λw2 p H C=>ar (f_ x a b c d e h i j k) C (Ok.mk (w w2 p ⟨a,b,c,d,e,h,i,j,k,G,rfl,z.af p q,A.af p q,B.af p q,λn P=>⟨(o n P).1,by have:=(o n P).2.1;omega,(o n P).2.2⟩⟩))⟩
def Mb(i:Ma g5 a)(j:HD g5 wb F1 k r v w1)(c:bB F w F1 wb)(A:a<=w.heap.size)(d:wb.heap[g]? =some (.cells l 53 (0,0)))(m:8=l.size)(B:w.heap.size<=g)(e:¬F1 g):
  uc (dG ZP 53) λy=>v=y/\lr ZP 53 (ZL g) y w1 λw2=>ig ZP 53 (ZL g) w2 λo=>Ok (HD g5 w F k r) (.returned o) w2:=by
 obtain⟨p,q,s,t,b⟩:=j;have u:=ax d;exact TV q (b.af.get d e) m u λw2 f x=>⟨p,x.base c.af.size,i _ _ _ _ _ s f (λP z n=>by have n:P=g:=n;subst n;exact(b.new P z).elim e λh=>oM) (λP n=>by have n:P=g:=n;omega),t,(c.trans b).last f λP n=>by have n:P=g:=n;omega⟩
def Az(c:Ma g5 a){no:Int}(d:g5 w1 F1 X)(e:fm k X)(f:bB F w F1 w1)(q:a<=w.heap.size)(h:w1.heap[g]? =some (.cells l 53 (0,0)))(i:8=l.size)(r:w.heap.size<=g)(j:¬F1 g):
  lr ZP 53 (ZL g) (.agg #[ZH no,ZH 0,ZH 0,ZH 0,.slice none 0 0,.slice none 0 0,.slice none 0 0,.bool false]) w1 λw2=>ig ZP 53 (ZL g) w2 λm=>Ok (HD g5 w F k (aX no,X)) (.returned m) w2:=
 az (f_ (aX no) none 0 0 none 0 0 none 0 0) h i λw2 b s o=>ar (f_ (aX no) none 0 0 none 0 0 none 0 0) o (Ok.mk ⟨F1,.flat (du.plain rfl rfl rfl) rfl rfl rfl,c _ _ _ _ _ d b (λP p n=>by have n:P=g:=n;subst n;exact j p) (λP n=>by have n:P=g:=n;omega),e,f.last b λP n=>by have n:P=g:=n;omega⟩)
def pW(n:iI w0 wb p F1 c k r v w1)(P:bB F w F1 wb)(a:w0.heap.size<=w.heap.size)(b:wb.heap[g]? =some (.cells l 53 (0,0)))(d:8=l.size)(e:w.heap.size<=g)(f:¬F1 g):
  uc (dG ZP 53) λy=>v=y/\lr ZP 53 (ZL g) y w1 λw2=>ig ZP 53 (ZL g) w2 λh=>Ok (iI w0 w p F c k r) (.returned h) w2:=Mb DN n P a b d e f
def FD(n:b_ w0 w1 p F1 c X)(P:fm k X)(a:bB F w F1 w1)(b:w0.heap.size<=w.heap.size)(d:w1.heap[g]? =some (.cells l 53 (0,0)))(e:8=l.size)(f:w.heap.size<=g)(h:¬F1 g):
  lr ZP 53 (ZL g) (.agg #[ZH 0,ZH 0,ZH 0,ZH 0,.slice none 0 0,.slice none 0 0,.slice none 0 0,.bool false]) w1 λw2=>ig ZP 53 (ZL g) w2 λi=>Ok (iI w0 w p F c k (aX 0,X)) (.returned i) w2:=Az DN n P a b d e f h
def Pp{no:Int}:YX 35 #[ZH no] w (Ok λv w'=>du w (aX no) v w'/\ai w w'):=
 AA (PA.mk λw2 P e a=>az (f_ (aX no) none 0 0 none 0 0 none 0 0) a rfl λf b g c=>ar (f_ (aX no) none 0 0 none 0 0 none 0 0) c (Ok.mk ⟨du.plain rfl rfl rfl,P.new b λd n=>.inr (by have n:d=w.heap.size:=n;omega)⟩))
def gN{no:Int}(P:b_ w0 w p F c X)(a:fm k X):YX 35 #[ZH no] w (Ok (iI w0 w p F c k (aX no,X))):=
 Calls.ok Pp λv w' ⟨b,n⟩=>⟨F,.flat b rfl rfl rfl,P.ah n,a,bB.of n⟩
def FE:(cH d8 e).isSome=decide (0<=e/\e<d8.length):=by
 by_cases h:0<=e/\e<d8.length
 ·rw[Zy h];unfold cH
  rw[Zx h.1,Qq oM];rfl
 ·rw[Xv h,gC.2 oM];rfl
def cu.n(n:cu w F cls p h now c rs bE)(P:h.ps=rs.map (·.1)):h.n=rs.length:=by
 have:=n.mQ.len dC;rw[P,Q8]at this;exact this
def ng(b:b_ w0 w p F c X):YX 27 #[ZL p,ZH e] w (Ok λv w'=>v= .bool (cH X.ay e).isSome/\w=w'):=by
 obtain⟨h,cls,rs,a,d,f,i,j,k⟩:=b;have g:=a.n d;rw[FE,f,Q8];refine nh (al.dec (λP=>⟨p,0,rfl,_,_,_,ae a.cell rfl,Ok.mk ⟨?_,rfl⟩⟩) (λP=>Ok.mk ⟨?_,rfl⟩))
 ·rw[g];congr 1;exact decide_eq_decide.2 ⟨λn=>⟨P,n⟩,λn=>n.2⟩
 ·congr 1;exact(Xv λn=>P n.1).symm
def cu.ptr(b:cu w F cls p h now c rs bE)(d:h.ps=rs.map (·.1))(f:rs[i]? =some y)(q:rs.length<=1000):∃n P,h.a=some ⟨n,P,none⟩/\i<h.n/\w.cell? ⟨n,P+i,none⟩=some (ZL y.1)/\F n/\cls n=0:=by
 have r:=b.n d;have s:=(Qv.1 f).1;obtain⟨n,P,g,t,j,-,k,a,e,l⟩:=(b.mQ.row (bytes:=8) dC (by rw[d,Q8];unfold aK;omega)).vW (i:=i) oM;have m:g=y.1:=by rw[d,Q9,f]at a;injection a with a;exact a.symm
 obtain⟨rfl,-⟩:=l;have e:=e 0 dC;subst m;have o:=b.c0.2.2.2 n k;exact⟨n,P,j,oM,by simpa[show UR.k=1 from rfl]using e,o.1⟩
def cu.self(n:cu w F cls p h now c rs bE):F p/\cls p=0:=n.c0.1
def gg{c g:Type}{f:c->g}:∀{n:List c} {d:Nat} {a b:c},n[d]? =some a->f b=f a->(n.set d b).map f=n.map f
 |x::n,0,a,b,P,e=>by simp at P;subst P;simp[e]
 |x::n,d+1,a,b,P,e=>by simp at P;simp[gg P e]
def b_.tj(n:cu w F cls p h now c (rs.set i (y.1,R')) bE)(P:rs[i]? =some y)(a:h.ps=rs.map (·.1))(b:ay=rs.map (·.2))(d:rs.length=c.ay.toNat)(e:fZ c 0)(f:Env w0 w F):b_ w0 w p F c ⟨ay.set (i:Int).toNat R',bE,now⟩:=
 ⟨h,cls,_,n,by rw[a];exact(gg (f:=(·.1)) (b:=(y.1,R')) P rfl).symm,by dsimp only;rw[b,List.map_set,Qx],by rw[List.length_set];exact d,e,f⟩
def iI.rep{R':aR}(e:cu w F cls p h X.now c rs X.bE)(f:h.ps=rs.map (·.1))(g:X.ay=rs.map (·.2))(j:rs.length=c.ay.toNat)(l:fZ c 0)(m:Env w0 w F)(a:rs[i]? =some y)(o:du w x v w')(q:x.st.cells=[])(r:x.FC=[])(s:x.rows=[])(t:bG w' y.1 G' c i R')(u:bB (λb=>F b/\cls b=i+2) w G' w')(n:fm k X)(z:Fit (k+1) R'):
  iI w0 w p F c (k+1) (x,⟨X.ay.set (i:Int).toNat R',X.bE,X.now⟩) v w':=by
 obtain⟨F1,E,P,d,H,-⟩:=rr e fh a t u;refine⟨F1,.flat o q r s,b_.tj P a f g j l (m.fK d),?_,d⟩;exact⟨λA B=>(List.mem_or_eq_of_mem_set B).elim (λP=>(n.ay A P).mono) λC=>C▸z,n.HG,by have h:=n.now;show X.now<=_;omega⟩
def HH(a:aw)(n:Int)(P:bt)(b:Int):(j_ a n P b).length<=2:=by
 have d:∀(c:Prop) [Decidable c] (e:bt),(if c then [e]else([]:List bt)).length<=1:=λc _ e=>by split<;>simp
 unfold j_
 by_cases f:P.kind≠1/\P.kind≠2
 ·rw[Zx f];simp
 rw[Zq f];have h:=d (0<(a.missing P.vec (max 1 (min b 32))).length) ⟨3,n,P.bl,[],a.missing P.vec (max 1 (min b 32))⟩;have i:=d (P.kind=1/\(kv P.vec a.vec=2\/kv P.vec a.vec=3)) ⟨2,n,P.bl,a.vec,[]⟩;dsimp only;generalize(if 0<(a.missing P.vec (max 1 (min b 32))).length then [(⟨3,n,P.bl,[],a.missing P.vec (max 1 (min b 32))⟩:bt)]else [])=j at h;generalize(if P.kind=1/\(kv P.vec a.vec=2\/kv P.vec a.vec=3)then [(⟨2,n,P.bl,a.vec,[]⟩:bt)]else [])=k at i
 by_cases g:(j++k).isEmpty=true
 ·rw[Zx g];simp
 ·rw[Zq g,QX];omega
def xF(c:bF)(n:Int)(X:aR)(P:bt):(bD c n X P).1.length<=2:=by
 unfold bD
 cases X.log with
 |none=>simp
 |some a=>
  dsimp only;split
  ·simp
  split
  ·simp
  split
  ·unfold lZ
   dsimp only;split
   ·simp
   split<;>simp
  split
  ·exact HH _ _ _ _
  split<;>simp
def wo(n:cu w F cls p h now c rs bE)(P:rs[i]? =some y)(b:F a/\cls a=0):¬(F a/\cls a=i+2):=λd=>by omega
def DO(o:b_ w0 w p F c X)(q:fm k X)(hk:k<=1000)(b:Option bt){A M B N:Nat}(hv:Row aI 8 w D d A (b.getD uo).vec)(b1:Row jB 96 w D u B (b.getD uo).events)(r:∀P,D P->P<w.heap.size/\¬F P):
  YX 61 #[ZL p,ij (b.getD uo) d A M u B N,.bool b.isSome] w (Ok (iI w0 w p F c (k+1) (fp c X b))):=by
 have a1:=o.aC;have C:=o.env.gr.size;refine ni (PA.mk λw1 k1 s1 O=>PA.mk λw2 E s2 H=>?_);have i:=k1.then E;have I:=o.ah i;have z2:=i.size;have s:¬F w1.heap.size:=λa=>by have:=a1 _ a;omega
 cases b with
 |none=>exact al.tt rfl (PC.ok (gN I q.mono) λv w' j=>pW j (bB.of i) C H rfl oM s)
 |some n=>
  refine al.ff rfl ⟨_,ae (E.get O id) rfl,PC.ok (ng I) ?_⟩;rintro _ _ ⟨rfl,rfl⟩;refine⟨_,rfl,?_⟩;show al (!(cH X.ay n.lX).isSome) _ _
  cases J:cH X.ay n.lX with
  |none=>
   have a:fp c X (some n)=(aX 1,X):=by unfold fp;dsimp only;rw[J]
   rw[a];exact al.tt rfl (PC.ok (gN I q.mono) λv w' j=>pW j (bB.of i) C H rfl oM s)
  |some R=>
   obtain⟨e,Q,S⟩:=dV J;have a:fp c X (some n)=(aX (bD c e R n).2.1,X.put e (bD c e R n).2.2 (bD c e R n).1):=by unfold fp;dsimp only;rw[J];dsimp only;rw[Q]
   rw[a];refine al.ff rfl λT d3=>?_;have t:ai w2 T:=d3.af;have l:=i.then t;obtain⟨h,cls,rs,f,U,K,a5,L,V⟩:=o.ah l;obtain⟨a6,b8,b9⟩:=L.ay;rw[K,Q9]at S;obtain⟨y,g,rfl⟩:=Option.map_eq_some_iff.1 S;obtain⟨P,b,b2,c0,a2,c1⟩:=f.ptr U g oM;have W:=t.get (E.get O id) id;have Y:=cu.rep f g;have a7:y.2∈X.ay:=by rw[K];exact Xk.2 ⟨y,QZ g,rfl⟩
   have Z:=q.ay _ a7;have b3:=Y.waits;have b4:=L.Kd;have z3:=l.size;have c2:=t.size;refine⟨p,0,rfl,_,_,_,ae f.cell rfl,_,ae W rfl,P,b,b2,by show(0:Int)<=n.lX;omega,by show n.lX<_;omega,_,by show T.cell? ⟨P,b+Int.toNat n.lX,none⟩=_;rw[Q,Qx];exact a2,ar (dL n d A M u B N) W ?_⟩;refine PC.ok (xG Y V.part (hv.ah l) (λP m=>⟨by have:=(r P m).1;omega,λa=>(r P m).2 a.1⟩) (b1.ah l) (λP m=>⟨by have:=(r P m).1;omega,λa=>(r P m).2 a.1⟩) (by have:=Z.evs;omega)) ?_;rintro _ w4 ⟨v1,G',rfl,x,a8,a0⟩;have a9:=sC c e y.2 n b3 b4.2;have b0:=xF c e y.2 n;generalize bD c e y.2 n=dl at x a8 a9 b0;obtain⟨oa,on,oc,a3,Do,rfl,x⟩:=x;have np:=wo f g f.self;refine⟨oa,on,oc,_,rfl,p,0,rfl,_,ae (a0.af.get f.cell np) rfl,?_⟩;refine PC.ok (Ax f g a8 a0 ⟨oa,on,oc,a3,Do,rfl,x⟩ oM) ?_;rintro _ w5 ⟨a4,F5,c3,rfl,b5,z,-⟩;have b6:¬F5 w1.heap.size:=λa=>(z.new _ a).elim s λh=>by omega
   have b7:b_ w0 w5 p F5 c (X.put e dl.2.2 dl.1):=b_.tj b5 g U K a5 L (V.fK z);exact⟨a4,rfl,PC.ok (gN b7 (q.put (Z.xH a9))) λv w' j=>pW j (bB.after l z) C (z.af.get (t.get H id) s) rfl oM b6⟩
def cu.take(P:cu w F cls p h now c rs bE)(d:aJ e):YX 62 #[ZL h.q,ZH e] w (Ok λv w'=>AB w (cN bE e) v w'/\cu w' F cls p h now c rs (dv bE e)/\ak (λa=>F a/\cls a=1) w w'):=by
 refine Calls.ok (HI P.Vi d) λv w' ⟨f,g,b⟩=>⟨f,?_,b⟩
 refine aP.same P fh b g λi G j n=>?_
 match i,j,n with
 |0,_,n=>exact n
 |k+2,_,n=>exact n
def HJ(b:b_ w0 w p F c X)(q:fm k X)(r:k<=1000)(t:s.Ok):
  YX 29 #[ZL p,jj s] w (Ok (iI w0 w p F c (k+1) (fp c ⟨X.ay,dv X.bE s.n,X.now⟩ (cN X.bE s.n)))):=by
 have d:=b.aC;have u:=b.env.gr.size;refine lv (PA.mk λw1 x O y=>PA.mk λw2 e Q z=>λi A=>?_);have f:ai w2 i:=A.af;have g:=(x.then e).then f;have R:=g.size;have S:=e.size;obtain⟨h,cls,rs,j,B,C,E,H,I⟩:=b.ah g;refine⟨p,0,rfl,_,ae j.cell rfl,_,ae (f.get (e.get y id) id) rfl,PC.ok (j.take t.n) ?_⟩;rintro _ J ⟨⟨T,U,V,W,Y,Z,G,rfl,K,L,l⟩,M,m⟩;have o:bB F i F J:=⟨m.mono λP _ n=>n.1,λP n=>.inl n⟩
 refine bT (DP _ _ _ _ _ _ _) ⟨_,rfl,PC.ok (DO (X:=⟨X.ay,dv X.bE s.n,X.now⟩) ⟨h,cls,rs,M,B,C,E,H,I.fK o⟩ q.bE r _ K L λP n=>⟨(l P n).2,λa=>by have:=d P a;have:=l P n;omega⟩) λv w' N=>pW N (bB.after g o) u (m.get (f.get z id) λa=>by have:=d _ a.1;omega) rfl oM λa=>by have:=d _ a;omega⟩
def Ke(n:b_ w0 w p F c X)(m:fm k X)(o:k<=1000)(C:s.Ok):
  YX 30 #[ZL p,jj s] w (Ok (iI w0 w p F c (k+1) (fp c X (cN X.bE s.n)))):=by
 have g:=n.aC;have q:=n.env.gr.size;refine l_ (PA.mk λw1 r E t=>PA.mk λw2 a H u=>λx y=>?_);have b:ai w2 x:=y.af;have P:=(r.then a).then b;have I:=P.size;have J:=a.size;obtain⟨h,cls,rs,i,-⟩:=n.ah P;refine⟨p,0,rfl,_,ae i.cell rfl,_,ae (b.get (a.get t id) id) rfl,PC.ok (xI i.Vi) ?_⟩;rintro _ K ⟨⟨L,M,N,O,Q,R,G,rfl,z,A,j⟩,d⟩;refine bT (DP _ _ _ _ _ _ _) ⟨_,rfl,PC.ok (DO (n.ah (P.then d)) m o _ z A λe l=>⟨(j e l).2,λf=>by have:=g e f;have:=j e l;omega⟩) λv w' B=>pW B (bB.of (P.then d)) q (d.get (b.get u id) id) rfl oM λf=>by have:=g _ f;omega⟩
def Pq(u:b_ w0 w p F c X)(B:fm k X)(C:s.Ok):
  YX 31 #[ZL p,jj s] w (Ok (iI w0 w p F c k (aX (if(cN X.bE s.n).isSome then 0 else 14),⟨X.ay,dv X.bE s.n,X.now⟩))):=by
 have i:=u.aC;have E:=u.env.gr.size;refine nV (PA.mk λw1 O s1 Q=>PA.mk λw2 x s2 R=>λe S=>?_);have m:ai w2 e:=S.af;have j:=(O.then x).then m;have z3:=j.size;have z2:=x.size;have b0:=m.size;obtain⟨h,cls,rs,o,T,U,V,W,Y⟩:=u.ah j;have Z:=m.get (x.get Q id) id;have H:=m.get R id;have I:=o.self;have l:∀{b:World} (n:Bool),cu b F cls p h X.now c rs (dv X.bE s.n)->bB F e F b->b.heap[w1.heap.size]? =some (.cells (eU (aX 0) none 0 0 none 0 0 none 0 0).toArray 53 (0,0))->al (!n) (PC ZP 35 #[ZH 14] b (λa4 a5=>uc (dG ZP 53) λJ=>a4=J/\lr ZP 53 (ZL w1.heap.size) J a5 λK=>ig ZP 53 (ZL w1.heap.size) K λa6=>Ok (iI w0 w p F c k (aX (if n then 0 else 14),⟨X.ay,dv X.bE s.n,X.now⟩)) (.returned a6) K) (λch a0=>Ok (iI w0 w p F c k (aX (if n then 0 else 14),⟨X.ay,dv X.bE s.n,X.now⟩)) (.panicked ch) a0))
   (lr ZP 53 (ZL w1.heap.size) (.agg #[ZH 0,ZH 0,ZH 0,ZH 0,.slice none 0 0,.slice none 0 0,.slice none 0 0,.bool false]) b λL=>ig ZP 53 (ZL w1.heap.size) L λa7=>Ok (iI w0 w p F c k (aX (if n then 0 else 14),⟨X.ay,dv X.bE s.n,X.now⟩)) (.returned a7) L):=λ{b} n y z q=>by
  have M:b_ w0 b p F c ⟨X.ay,dv X.bE s.n,X.now⟩:=⟨h,cls,rs,y,T,U,V,W,Y.fK z⟩
  cases n with
  |false=>exact al.tt rfl (PC.ok (gN M B.bE) λv w' hq=>pW hq (bB.after j z) E q rfl oM λP=>by have:=i _ P;omega)
  |true=>exact al.ff rfl (FD M B.bE (bB.after j z) E q rfl oM λP=>by have:=i _ P;omega)
 have r:∀n,w.heap.size<=n->¬(F n/\cls n=1):=λn a P=>by have:=i _ P.1;omega
 have a8:=i p I.1;refine⟨λn=>(F n/\cls n=1)\/e.heap.size<=n,p,0,rfl,λP=>P.elim (λh=>by have:=h.2;have:=I.2;omega) (λh=>Nat.lt_irrefl _ (Qk a8 (Xx j.size h))),_,ae o.cell rfl,λP=>P.elim (r _ oM) (λh=>by have h:e.heap.size<=w.heap.size:=h;omega),_,ae Z rfl,PC.ok (o.take C.n) ?_,PA.mk λt d s4 g4=>⟨ai.af d,PC.ok (cu.take (cu.ah o d) C.n) ?_⟩⟩
 ·rintro _ t ⟨⟨va,vn,vc,ea,en,ec,G,rfl,-⟩,a9,d⟩
  have z4:=d.size;refine bT (DP _ _ _ _ _ _ _) ⟨_,rfl,d.mono λn _ a=>.inl a,PA.mk λb f s5 q=>⟨ai.af f,az (dL _ _ _ _ _ _ _) q rfl λN g s6 g6=>⟨g.mono λn a P=>.inr (by have P:n=t.heap.size:=P;omega),?_⟩⟩⟩;have A:ai t N:=f.new g λn a=>.inr (by have a:n=t.heap.size:=a;omega);exact l (cN X.bE s.n).isSome (cu.ah a9 A) ⟨(d.mono λn _ a=>a.1).then (ai.af A),λn a=>.inl a⟩ (A.get (d.get H (r _ oM)) id)
 ·rintro _ b ⟨⟨va,vn,vc,ea,en,ec,G,rfl,-⟩,y,f⟩
  have z5:=f.size;refine bT (DP _ _ _ _ _ _ _) ⟨_,rfl,f.mono λn _ a=>.inl a,az (dL _ _ _ _ _ _ _) (f.get g4 (r _ oM)) rfl λN g s6 g6=>⟨g.mono λn a P=>.inr (by have P:n=e.heap.size:=P;omega),?_⟩⟩;refine l (cN X.bE s.n).isSome (aP.af y fh g λn a P=>by have P:n=e.heap.size:=P;have:=i _ a;omega) ⟨?_,λn a=>.inl a⟩ (g.get (f.get (d.get H id) (r _ oM)) λP=>by have P:w1.heap.size=e.heap.size:=P;omega);exact((ai.af d).then (f.mono λn _ a=>a.1)).new g λn P=>.inr (by have P:n=e.heap.size:=P;omega)
end
section
variable {w w' w0 w1 w2 wb:World} {p i k g:Nat} {F F1 F' G G' T D:ZN} {cls cls':Nat->Nat} {h:Kc} {c:bF} {X:cI} {s:eS} {x:eT} {v:Value} {r:eT×cI} {now:Int} {rs:List (Nat×aR)} {bE:List bt} {y:Nat×aR} {R R':aR} {ay:List aR}
def HK(c:bF)(n:Int)(X:aR)(P now:Int):(eV c n X P now).1.length<=1:=by
 unfold eV;split<;>simp
def FF(j:b_ w0 w p F c X)(b:cH X.ay i=some R):∃h cls rs y,cu w F cls p h X.now c rs X.bE/\h.ps=rs.map (·.1)/\X.ay=rs.map (·.2)/\rs.length=c.ay.toNat/\fZ c 0/\Env w0 w F/\rs[i]? =some y/\y.2=R/\(∃n d,h.a=some ⟨n,d,none⟩/\i<h.n/\w.cell? ⟨n,d+i,none⟩=some (ZL y.1)/\F n/\cls n=0)/\R∈X.ay:=by
 obtain⟨h,cls,rs,e,f,P,k,g,l⟩:=j;obtain⟨m,o,q⟩:=g.ay;rw[wq,P,Q9]at b;obtain⟨y,a,rfl⟩:=Option.map_eq_some_iff.1 b;exact⟨h,cls,rs,y,e,f,P,k,g,l,a,rfl,e.ptr f a oM,by rw[P];exact Xk.2 ⟨y,QZ a,rfl⟩⟩
def Ps(b:b_ w0 w p F c X)(t:fm k X)(Q:s.Ok)(u:cH X.ay s.n=some R):
  YX 33 #[ZL p,jj s] w (Ok (iI w0 w p F c (k+1) (if(cH X.ay s.m).isNone\/s.m=s.n then(aX 1,X)else(aX 0,X.put s.n (eV c s.n R s.m X.now).2 (eV c s.n R s.m X.now).1)))):=by
 have S:=b.aC;have C:=b.env.gr.size;refine nW (PA.mk λw1 T s1 U=>PA.mk λw2 E s2 H=>?_);have d:=T.then E;have z2:=d.size;have x:∀n,w.heap.size<=n->¬F n:=λn f a=>by have:=S _ a;omega
 have g:=E.get U id;have no:∀{r},r=(aX 1,X)->PC ZP 35 #[ZH 1] w2 (λv w'=>uc (dG ZP 53) λy=>v=y/\lr ZP 53 (ZL w1.heap.size) y w' λw2=>ig ZP 53 (ZL w1.heap.size) w2 λV=>Ok (iI w0 w p F c (k+1) r) (.returned V) w2) (λW w'=>Ok (iI w0 w p F c (k+1) r) (.panicked W) w'):=λa=>by
  rw[a];exact PC.ok (gN (b.ah d) t.mono) λv w' Y=>pW Y (bB.of d) C H rfl oM (x _ oM)
 refine⟨_,ae g rfl,PC.ok (ng (b.ah d)) ?_⟩;rintro _ _ ⟨rfl,rfl⟩;refine⟨_,rfl,al.mk (λe=>no (Zx (.inl (by simpa using e)))) (λe=>⟨_,ae g rfl,_,ae g rfl,al.cW (λz=>no (Zx (.inr z))) (λz=>?_)⟩)⟩;rw[Zq (by
         rintro(i|i);·simp at e;rw[Option.isNone_iff_eq_none]at i;rw[i]at e;simp at e
         ·exact z i)]
 intro Z d3;have j:ai w2 Z:=d3.af;have A:=d.then j;have z3:=A.size;have b3:=j.size;have I:=j.get g id;obtain⟨B,l,-⟩:=dV u;rw[l]at u⊢;obtain⟨h,cls,rs,y,P,a4,hX,a0,a5,he,m,rfl,⟨n,a1,a6,b4,a2,b5⟩,a3⟩:=FF (b.ah A) u;have hr:=cu.rep P m;have np:=wo P m P.self;have a7:=P.self;refine⟨λn=>F n/\cls n≠0,p,0,rfl,λa=>a.2 a7.2,_,ae P.cell rfl,p,0,rfl,_,_,_,ae P.cell rfl,_,ae I rfl,n,a1,a6,by rw[l];omega,by rw[l];omega,_,by rw[l,Qx];exact a2,_,ae I rfl,p,0,rfl,_,ae P.cell rfl,PC.ok (uq hr Q.m) ?_⟩;rintro _ w4 ⟨G',o,J,K⟩;have L:=AD c B y.2 s.m X.now;have a8:=HK c B y.2 s.m X.now;generalize eV c B y.2 s.m X.now=dl at o J L a8;obtain⟨M,N,O,a9,Do,rfl,o⟩:=o;refine⟨M,N,O,rfl,K.af.mono λn _ f=>⟨f.1,oM⟩,PC.ok (Ax P m J K ⟨M,N,O,a9,Do,rfl,o⟩ oM) ?_⟩;rintro _ w5 ⟨b0,F5,b6,rfl,b1,q,b2⟩;exact⟨b0,rfl,b2.mono λn _ f=>⟨f.1,oM⟩,FD (b_.tj b1 m a4 hX a0 a5 (he.fK q)) (t.put ((t.ay _ a3).xH L)) (bB.after A q) C (q.af.get (j.get H id) (x _ oM)) rfl oM λa=>(q.new _ a).elim (x _ oM) λh=>oM⟩
def RW(N:b_ w0 w p F c X)(J:fm k X)(hk:k<=1000)(O:s.Ok)(K:cH X.ay s.n=some R):
  YX 34 #[ZL p,jj s] w (Ok (iI w0 w p F c (k+1) ((eD c s.n R s).1,⟨X.ay.set s.n.toNat (eD c s.n R s).2,X.bE,X.now⟩))):=by
 have Q:=N.aC;have S:=N.env.gr.size;obtain⟨n,z,-⟩:=dV K;rw[z]at K⊢;refine pf (PA.mk λw1 k1 s1 g1=>PA.mk λw2 k2 s2 g2=>λe d3=>?_);have T:ai w2 e:=d3.af;have a3:=(k1.then k2).then T;have z3:=a3.size;have z2:=k2.size;have b9:=T.size;have a4:=T.get (k2.get g1 id) id;obtain⟨h,cls,rs,y,a5,a6,hX,a1,a7,b3,U,V,⟨P,b4,b5,c0,b6,b7⟩,b1⟩:=FF (N.ah a3) K;have c1:=Q p a5.self.1;have c2:=Q P b7.1;have n1:¬e.heap.size<=p:=oM
 have n2:¬e.heap.size<=w.heap.size:=oM
 have n3:¬e.heap.size<=P:=oM
 refine⟨λP=>e.heap.size<=P,p,0,rfl,n1,_,_,_,ae a5.cell rfl,n2,_,ae a4 rfl,P,b4,b5,by rw[z];omega,by rw[z];omega,n3,_,by rw[z,Qx];exact b6,n2,?_⟩;refine FG (es:=fB s.cmd) (pX s.cmd) a4 (λn z=>by rcases n with _|_|_|_|_|_|_|n<;>first|rfl|exact Zz z (by simp[fB])) (PA.mk λw4 k4 s4 g4=>⟨ai.af k4,az (pX s.cmd) g4 rfl λi k5 s5 A=>⟨k5.mono λP _ a=>by have a:P=e.heap.size:=a;omega,?_⟩⟩);have B:ai e i:=k4.new k5 λP W=>.inr (by have W:P=e.heap.size:=W;omega);have a9:=a3.then B;have z5:=a9.size;have c3:=B.size;have L:=B.get a4 id;have Y:=B.get (T.get g2 id) id;have C:¬F w1.heap.size:=λa=>by have:=Q _ a;omega
 have Z:bB F w F i:=bB.of a9;have hp:=cu.ah a5 B;have E:=b3.ah B;rw[<-V];rw[<-V]at b1;have j:=cu.rep hp U;have a0:=J.ay _ b1;have hl:=a0.evs;have a2:∀{x:eT} {R':aR} {v:Value} {w':World} {G':ZN},eD c n y.2 s=(x,R')->du i x v w'->x.st.cells=[]/\x.FC=[]/\x.rows=[]->bG w' y.1 G' c n R'->bB (λP=>F P/\cls P=n+2) i G' w'->il y.2 R'->uc (dG ZP 53) λb=>v=b/\lr ZP 53 (ZL w1.heap.size) b w' λw2=>ig ZP 53 (ZL w1.heap.size) w2 λb=>Ok (iI w0 w p F c (k+1) ((eD c n y.2 s).1,⟨X.ay.set (n:Int).toNat (eD c n y.2 s).2,X.bE,X.now⟩)) (.returned b) w2:=λ{x R' v w' G'} a d ⟨e1,e2,e3⟩ l b0 hg=>by
  rw[a];exact pW (iI.rep hp a6 hX a1 a7 E U d e1 e2 e3 l b0 J (a0.xH hg)) Z S Y rfl oM C
 have b2:∀{no:Int} {R':aR} {w':World} {G':ZN},eD c n y.2 s=(aX no,R')->bG w' y.1 G' c n R'->bB (λP=>F P/\cls P=n+2) i G' w'->il y.2 R'->PC ZP 35 #[ZH no] w' (λv w'=>uc (dG ZP 53) λb=>v=b/\lr ZP 53 (ZL w1.heap.size) b w' λw2=>ig ZP 53 (ZL w1.heap.size) w2 λb=>Ok (iI w0 w p F c (k+1) ((eD c n y.2 s).1,⟨X.ay.set (n:Int).toNat (eD c n y.2 s).2,X.bE,X.now⟩)) (.returned b) w2) (λch w'=>Ok (iI w0 w p F c (k+1) ((eD c n y.2 s).1,⟨X.ay.set (n:Int).toNat (eD c n y.2 s).2,X.bE,X.now⟩)) (.panicked ch) w'):=λ{no R' w' G'} a l b0 hg=>by
  obtain⟨F',-,m,o,q⟩:=iI.rep (x:=aX no) (v:=.agg (eU (aX no) none 0 0 none 0 0 none 0 0).toArray) hp a6 hX a1 a7 E U (du.plain rfl rfl rfl) rfl rfl rfl l b0 J (a0.xH hg);rw[a];exact PC.ok (gN m o) λv w2 hq=>pW hq (Z.trans q) S (q.af.get Y C) rfl oM λa=>(q.new _ a).elim C λh=>by omega
 have a8:∀{x:eT} {v:Value} {w':World},eD c n y.2 s=(x,y.2)->du i x v w'->ai i w'->uc (dG ZP 53) λb=>v=b/\lr ZP 53 (ZL w1.heap.size) b w' λw2=>ig ZP 53 (ZL w1.heap.size) w2 λb=>Ok (iI w0 w p F c (k+1) ((eD c n y.2 s).1,⟨X.ay.set (n:Int).toNat (eD c n y.2 s).2,X.bE,X.now⟩)) (.returned b) w2:=λ{x v w'} a d f=>by
  rw[a];refine pW ⟨F,.new d λP W=>by have:=Q P W;omega,?_,?_,bB.of f⟩ Z S Y rfl oM C
  ·show b_ w0 w' p F c ⟨X.ay.set (n:Int).toNat y.2,X.bE,X.now⟩
   rw[V,FH K];exact N.ah (a9.then f)
  ·show fm (k+1) ⟨X.ay.set (n:Int).toNat y.2,X.bE,X.now⟩
   rw[V,FH K];exact J.mono
 refine⟨_,ae L rfl,al.cW (λg=>?_) (λg=>?_)⟩
 ·refine ar (pX s.cmd) A (PC.ok (xJ j E.part O.cmd oM) ?_)
  rintro _ H ⟨G',d,r,t⟩;exact a2 (by unfold eD;rw[Zx g]) d (by split<;>exact⟨rfl,rfl,rfl⟩) r t (AE c n y.2 s.cmd)
 refine al.cW (λu=>?_) (λu=>?_)
 ·refine⟨_,ae L rfl,PC.ok (DQ j E.part O.m) ?_⟩
  rintro _ H ⟨G',rfl,r,t,b8⟩;exact⟨_,rfl,b2 (by unfold eD;rw[Zq g,Zx u]) r t ⟨.inr b8,by unfold p_;rw[lJ];exact Qj _⟩⟩
 refine al.cW (λI=>?_) (λI=>?_)
 ·refine PC.ok (xK j E.part oM) ?_
  rintro _ H ⟨G',rfl,r,t⟩;exact⟨_,rfl,b2 (by unfold eD;rw[Zq g,Zq u,Zx I]) r t (sD c y.2)⟩
 refine al.cW (λM=>?_) (λM=>?_)
 ·refine⟨_,ae A rfl,_,ae A rfl,_,ae L rfl,PC.ok (AF j O.m) ?_⟩
  rintro _ H ⟨d,f⟩;exact a8 (by unfold eD;rw[Zq g,Zq u,Zq I,Zx M]) d f
 refine al.cW (λh4=>?_) (λh4=>?_)
 ·refine⟨_,ae A rfl,_,ae A rfl,PC.ok (Mc j) ?_⟩
  rintro _ H ⟨d,f⟩;exact a8 (by unfold eD;rw[Zq g,Zq u,Zq I,Zq M,Zx h4]) d f
 refine al.cW (λh5=>?_) (λh5=>?_)
 ·refine⟨_,ae A rfl,_,ae L rfl,PC.ok (DS j) ?_⟩
  rintro _ H ⟨d,f⟩;exact a8 (by unfold eD;rw[Zq g,Zq u,Zq I,Zq M,Zq h4,Zx h5]) d f
 ·refine⟨_,ae L rfl,PC.ok (HL j O.m) ?_⟩
  rintro _ H ⟨G',rfl,r,t⟩;have a:eD c n y.2 s=(aX 0,{y.2 with D:=y.2.D.Pt s.m}):=by unfold eD;rw[Zq g,Zq u,Zq I,Zq M,Zq h4,Zq h5]
  obtain⟨F',-,m,o,q⟩:=iI.rep (x:=aX 0) (v:=.agg (eU (aX 0) none 0 0 none 0 0 none 0 0).toArray) hp a6 hX a1 a7 E U (du.plain rfl rfl rfl) rfl rfl rfl r t J (a0.xH ⟨.inl bn,by dsimp only;omega⟩);rw[a];exact⟨rfl,FD m o (Z.trans q) S (q.af.get Y C) rfl oM λa=>(q.new _ a).elim C λh=>oM⟩
def Pu(q:b_ w0 w p F c X)(r:fm k X)(hk:k<=999):
  YX 32 #[ZL p,jj s] w (Ok (iI w0 w p F c (k+1) (aX 0,xL X))):=by
 have a6:=q.aC;have b7:=q.env.gr.size;refine nX (PA.mk λw1 k1 s1 g1=>PA.mk λw2 k2 s2 g2=>?_);have t:=k1.then k2;have z2:=t.size;obtain⟨h,cls,rs,j,C,u,c6,E,H⟩:=q.ah t;obtain⟨a4,a7,a8⟩:=E.ay;have I:∀P,w.heap.size<=P->¬F P:=λP f d=>by have:=a6 _ d;omega
 have c8:=r.HG;have c9:=r.now;have b8:IntKind.wrap .i64 (X.now+1)=X.now+1:=wrap_i64 bc;have d0:=j.self;refine⟨p,0,rfl,_,ae j.cell rfl,p,0,rfl,PS.mk j.cell sM λw3 k3 s3 J=>?_⟩;rw[b8]at J;obtain⟨l,K⟩:=cu.Wt (now':=X.now+1) j k3 (by rw[J];rfl);have c7:=l.mQ;have hn:=cu.n l C;refine⟨p,0,rfl,_,_,_,ae l.cell rfl,λL a0 w'=>∃(n:Nat) (F1:ZN) (m:Nat->Nat) (a:List (Nat×aR)) (g:List bt),a0=n/\n<=h.n/\L=h.n-n/\cu w' F1 m p h (X.now+1) c a g/\h.ps=a.map (·.1)/\a.length=rs.length/\
  (List.range n).foldl gv ⟨X.ay,X.bE,X.now+1⟩=⟨a.map (·.2),g,X.now+1⟩/\bB F w3 F1 w'/\fm (k+1) ⟨a.map (·.2),g,X.now+1⟩,
  ⟨_,0,F,cls,rs,X.bE,rfl,Qj _,rfl,l,C,rfl,by rw[u];rfl,bB.refl _ _,?_⟩,?_⟩
 ·rw[<-u];exact⟨λR hR=>(r.ay R hR).mono,by show 0<=X.now+1;omega,by show X.now+1<=_;omega⟩
 rintro L _ _ w4 ⟨n,F1,m,a,g,rfl,hj,rfl,v,x,b9,M,N,z⟩;have z3:=K.af.size;have i:=K.trans N;have c1:∀P,w.heap.size<=P->P<w2.heap.size->¬F1 P:=λP f d1 d=>(i.new P d).elim (I P f) λh=>by omega
 refine al.dec (λd2=>?_) (λd3=>?_)
 ·have b:a[n]? =some a[n]:=Qq oM
  generalize a[n]=y at b;obtain⟨P,a1,c2,d4,a5,d6⟩:=cu.ptr v x b oM;refine⟨P,a1,c2,oM,oM,_,by rw[Qx];exact a5,λO d5=>?_⟩;have A:ai w4 O:=d5.af;have e:=cu.ah v A;have hr:=cu.rep e b;have d7:Env w0 O F1:=(H.fK i).ah A;have np:=wo e b e.self;have c3:=e.self;have b1:y.2∈a.map (·.2):=Xk.2 ⟨y,QZ b,rfl⟩;have B:=z.ay _ b1;refine⟨λP=>F1 P/\m P≠0,p,0,rfl,λd=>d.2 c3.2,_,ae e.cell rfl,p,0,rfl,_,ae e.cell rfl,PC.ok (HM hr (by have:=B.asked;omega)) ?_⟩;rintro _ w6 ⟨G',o,Q,S⟩;have T:=B.tick n (X.now+1);have b4:(im n y.2 (X.now+1)).1.length<=1001:=by unfold im;dsimp only;rw[Q8];have:=FI y.2.dP (X.now+1);have:=B.asked;omega
  have U:(List.range (n+1)).foldl gv ⟨X.ay,X.bE,X.now+1⟩=(⟨a.map (·.2),g,X.now+1⟩:cI).put n (im n y.2 (X.now+1)).2 (im n y.2 (X.now+1)).1:=by
   rw[List.range_succ,List.foldl_append,M];show gv _ n=_;unfold gv;dsimp only;rw[Q9,b];rfl
  generalize im n y.2 (X.now+1)=V at o Q T b4 U;obtain⟨W,Y,Z,a2,Do,rfl,o⟩:=o;refine⟨W,Y,Z,rfl,S.af.mono λP _ f=>⟨f.1,oM⟩,PC.ok (Ax e b Q S ⟨W,Y,Z,a2,Do,rfl,o⟩ oM) ?_⟩;rintro _ w7 ⟨a3,F7,b5,rfl,c4,b6,c5⟩;refine⟨a3,rfl,c5.mono λP _ f=>⟨f.1,oM⟩,_,oM,n+1,F7,b5,_,_,aq oM,oM,rfl,c4,by rw[x];exact(gg (f:=(·.1)) (b:=(y.1,V.2)) b rfl).symm,by rw[List.length_set];exact b9,?_,N.trans (bB.after A b6),?_⟩
  ·rw[U,List.map_set];rfl
  ·have:=z.stay (j:=n) (ms:=V.1) T
   unfold cI.put at this;dsimp only at this;rw[Qx]at this;rw[List.map_set];exact this
 ·have d:xL X=⟨a.map (·.2),g,X.now+1⟩:=by
   unfold xL;rw[<-M,u,Q8,show rs.length=n by omega]
  rw[d];exact FD ⟨h,m,a,v,x,rfl,oM,E,H.fK i⟩ z (bB.after t i) b7 (i.af.get g2 (I _ oM)) rfl oM (c1 _ oM oM)
def RX(n:b_ w0 w p F c X):YX 10 #[ZL p,ZH e] w (Ok λv w'=>(cH X.ay e=none/\v= .slice none 0 0/\w=w')\/∃R,cH X.ay e=some R/\oW aI 3 w R.S.vec v w'):=by
 refine pg (PC.ok (ng n) ?_);rintro _ _ ⟨rfl,rfl⟩;refine⟨_,rfl,?_⟩
 cases P:cH X.ay e with
 |none=>exact al.tt rfl (Ok.mk (.inl ⟨rfl,rfl,rfl⟩))
 |some R=>
  obtain⟨m,rfl,-⟩:=dV P;obtain⟨h,cls,rs,y,a,o,q,r,s,t,b,rfl,⟨d,f,g,u,i,x⟩,z⟩:=FF n P;refine al.ff rfl ⟨p,0,rfl,_,_,_,ae a.cell rfl,d,f,g,oM,oM,_,by rw[Qx];exact i,PC.ok (Md (cu.rep a b)) ?_⟩;rintro _ A ⟨j,e,k,G,rfl,l⟩;exact⟨_,_,_,rfl,Ok.mk (.inr ⟨_,rfl,j,e,k,G,rfl,l⟩)⟩
def Kf(n:b_ w0 w p F c X)(b:∀R∈X.ay,R.S.l.length<=20000000):YX 18 #[ZL p,ZH e] w (Ok λv w'=>(cH X.ay e=none/\v= .slice none 0 0/\w=w')\/∃R,cH X.ay e=some R/\oW jB 63 w R.S.l v w'):=by
 refine mf (PC.ok (ng n) ?_);rintro _ _ ⟨rfl,rfl⟩;refine⟨_,rfl,?_⟩
 cases P:cH X.ay e with
 |none=>exact al.tt rfl (Ok.mk (.inl ⟨rfl,rfl,rfl⟩))
 |some R=>
  obtain⟨q,rfl,-⟩:=dV P;obtain⟨h,cls,rs,y,a,r,s,t,u,x,d,rfl,⟨f,g,i,z,j,A⟩,k⟩:=FF n P;refine al.ff rfl ⟨p,0,rfl,_,_,_,ae a.cell rfl,f,g,i,oM,oM,_,by rw[Qx];exact j,PC.ok (AG (cu.rep a d) (b _ k)) ?_⟩;rintro _ B ⟨l,e,m,G,rfl,o⟩;exact⟨_,_,_,rfl,Ok.mk (.inr ⟨_,rfl,l,e,m,G,rfl,o⟩)⟩
def AH(P:b_ w0 w p F c X):YX 12 #[ZL p] w (Ok λv w'=>v= ZH (X.bE.length:Int)/\w=w'):=by
 obtain⟨h,cls,rs,n,-⟩:=P;refine mg ⟨p,0,rfl,_,ae n.cell rfl,PC.ok (Kg n.Vi) ?_⟩;rintro _ _ ⟨rfl,rfl⟩;exact⟨_,rfl,Ok.mk ⟨rfl,rfl⟩⟩
def Me(n:b_ w0 w p F c X):YX 11 #[ZL p] w (Ok λv w'=>v= ZH X.now/\w=w'):=by
 obtain⟨h,cls,rs,P,-⟩:=n;exact ph ⟨p,0,rfl,_,ae P.cell rfl,Ok.mk ⟨rfl,rfl⟩⟩
end
def lK:lW ZP 84 3 54 .nilFunc:=⟨kR,kR⟩
abbrev Kh(n:Int):Nat:=if n=3 then 29 else if n=5 then 30 else if n=4 then 31 else 32
abbrev yF(n:Int):Nat:=if n=2 then 33 else 34
abbrev bound(n P:Nat):Value:=.func (.func n) #[ZL P] #[]
abbrev Vj(n:Nat):List (Int×Value):=[(3,bound (Kh 3) n),(5,bound (Kh 5) n),(4,bound (Kh 4) n),(6,bound (Kh 6) n)]
abbrev Ti(n:Nat):List (Int×Value):=[(2,bound (yF 2) n),(1,bound (yF 1) n),(7,bound (yF 7) n),(8,bound (yF 8) n),(9,bound (yF 9) n),(10,bound (yF 10) n),(11,bound (yF 11) n),(12,bound (yF 12) n)]
def Pv(a:Nat)(n:Int):aF (Vj a) n=if n=3\/n=5\/n=4\/n=6 then some (bound (Kh n) a)else none:=by
 by_cases P:n=3\/n=5\/n=4\/n=6
 ·rw[Zx P];rcases P with rfl|rfl|rfl|rfl<;>rfl
 ·rw[Zq P];exact km.2 be
def Nh(P:Nat)(n:Int):aF (Ti P) n=if n=2\/n=1\/7<=n/\n<=12 then some (bound (yF n) P)else none:=by
 by_cases a:n=2\/n=1\/7<=n/\n<=12
 ·rw[Zx a]
  have:n=2\/n=1\/n=7\/n=8\/n=9\/n=10\/n=11\/n=12:=oM
  rcases this with rfl|rfl|rfl|rfl|rfl|rfl|rfl|rfl<;>rfl
 ·rw[Zq a];exact km.2 be
def XD(n:Int):enters ZP (Kh n)=true:=by unfold Kh;split;rfl;split;rfl;split<;>rfl
def Xo(n:Int):enters ZP (yF n)=true:=by unfold yF;split<;>rfl
section
variable {w w' w0 w1 w2 wb:World} {p i k g:Nat} {F F1 F' G G' T D:ZN} {c:bF} {X:cI} {s:eS} {R:aR}
def Ki(r:b_ w0 w p F c X)(g:fm k X)(hk:k<=999)(i:s.Ok):
  YX 13 #[ZL p,jj s] w (Ok (iI w0 w p F c (k+1) (bk c X s))):=by
 have b2:=r.aC;have b3:=r.env.gr.size;refine qb (PA.mk λw1 k1 s1 g1=>PA.mk λw2 t s2 g2=>PA.mk λw3 k3 s3 C=>?_);have m:∀{w:World} b,b=w2.heap.size->False\/w2.heap.size<=b:=λb n=>.inr (Nat.le_of_eq n.symm);refine dd (k:=(3:Int)) lK ku (bI.new C) λw4 E H s4=>dd (k:=(5:Int)) lK ku E λw5 I J s5=>dd (k:=(4:Int)) lK ku I λw6 K L s6=>dd (k:=(6:Int)) lK ku K λu M N s7=>PA.mk λw8 k8 s8 O=>?_;have b4:ai w2 u:=(((k3.new H λb d=>.inr oM).new J λb d=>.inr oM).new L λb d=>.inr oM).new N λb d=>.inr oM;refine dd (k:=(2:Int)) lK ku (bI.new O) λw9 Q S s9=>dd (k:=(1:Int)) lK ku Q λb8 T U b9=>dd (k:=(7:Int)) lK ku T λc0 V W c1=>dd (k:=(8:Int)) lK ku V λc2 Y Z c3=>dd (k:=(9:Int)) lK ku Y λc4 a1 a2 c5=>dd (k:=(10:Int)) lK ku a1 λc6 a3 a4 c7=>dd (k:=(11:Int)) lK ku a3 λc8 a5 a6 c9=>dd (k:=(12:Int)) lK ku a5 λo a7 a8 d0=>?_;have a0:ai u o:=(((((((k8.new S λb d=>.inr oM).new U λb d=>.inr oM).new W λb d=>.inr oM).new Z λb d=>.inr oM).new a2 λb d=>.inr oM).new a4 λb d=>.inr oM).new a6 λb d=>.inr oM).new a8 λb d=>.inr oM;have mA:bI o w2.heap.size (Value.int .i64) (Vj p):=M.ah a0;have mO:bI o u.heap.size (Value.int .i64) (Ti p):=a7;have v:=b4.then a0;have a9:=(k1.then t).then v;have j:=v.get (t.get g1 id) id;have b5:=v.get g2 id;have f:=r.ah a9;have z2:=t.size;have b6:¬F w1.heap.size:=λn=>by have:=b2 _ n;omega
 have P:∀{b0:eT×cI} {e:Value} {w':World},iI w0 o p F c (k+1) b0 e w'->uc (dG ZP 53) λb1=>e=b1/\lr ZP 53 (ZL w1.heap.size) b1 w' λw2=>ig ZP 53 (ZL w1.heap.size) w2 λb7=>Ok (iI w0 w p F c (k+1) b0) (.returned b7) w2:=λa=>pW a (bB.of a9) b3 b5 rfl oM b6
 clear E I K M Q T V Y a1 a3 a5 a7 H J L N S U W Z a2 a4 a6 a8 C O
 refine⟨_,ae j rfl,iZ lK ku mA ?_⟩;rw[Pv]
 by_cases x:s.kind=3\/s.kind=5\/s.kind=4\/s.kind=6
 ·rw[Zx x]
  refine⟨_,_,rfl,al.tt rfl (ar (Kb s) j ⟨_,_,_,rfl,XD _,?_⟩)⟩;rcases x with h|h|h|h
  ·rw[h]
   have n:bk c X s=fp c ⟨X.ay,dv X.bE s.n,X.now⟩ (cN X.bE s.n):=by unfold bk;rw[Zx h]
   rw[n];exact PC.ok (HJ f g oM i) λe w' a=>P a
  ·rw[h]
   have n:bk c X s=fp c X (cN X.bE s.n):=by unfold bk;rw[Zq oM,Zx h]
   rw[n];exact PC.ok (Ke f g oM i) λe w' a=>P a
  ·rw[h]
   have n:bk c X s=(aX (if(cN X.bE s.n).isSome then 0 else 14),⟨X.ay,dv X.bE s.n,X.now⟩):=by unfold bk;rw[Zq oM,Zq oM,Zx h]
   rw[n];exact PC.ok (Pq f g.mono i) λe w' a=>P a
  ·rw[h]
   have n:bk c X s=(aX 0,xL X):=by unfold bk;rw[Zq oM,Zq oM,Zq oM,Zx h]
   rw[n];exact PC.ok (Pu f g hk) λe w' a=>P a
 rw[Zq x];refine⟨_,_,rfl,al.ff rfl ⟨_,ae j rfl,iZ lK ku mO ?_⟩⟩;rw[Nh]
 by_cases hO:s.kind=2\/s.kind=1\/7<=s.kind/\s.kind<=12
 ·rw[Zx hO]
  refine⟨_,_,rfl,al.ff rfl ⟨_,ae j rfl,PC.ok (ng f) ?_⟩⟩;rintro _ _ ⟨rfl,rfl⟩;refine⟨_,rfl,?_⟩;have e0:¬s.kind=3/\¬s.kind=5/\¬s.kind=4/\¬s.kind=6/\¬(s.kind<1\/12<s.kind):=oM
  obtain⟨y,z,m,A,B⟩:=e0
  cases l:cH X.ay s.n with
  |none=>
   have n:bk c X s=(aX 1,X):=by unfold bk;rw[Zq y,Zq z,Zq m,Zq A,Zq B,l]
   rw[n];exact al.tt rfl (PC.ok (gN f g.mono) λe w' a=>P a)
  |some R=>
   refine al.ff rfl (ar (Kb s) j ⟨_,_,_,rfl,Xo _,?_⟩)
   by_cases q:s.kind=2
   ·have n:bk c X s=(if(cH X.ay s.m).isNone\/s.m=s.n then(aX 1,X)else(aX 0,X.put s.n (eV c s.n R s.m X.now).2 (eV c s.n R s.m X.now).1)):=by unfold bk;rw[Zq y,Zq z,Zq m,Zq A,Zq B,l];exact Zx q
    rw[n,q];exact PC.ok (Ps f g i l) λe w' a=>P a
   ·have n:bk c X s=((eD c s.n R s).1,⟨X.ay.set s.n.toNat (eD c s.n R s).2,X.bE,X.now⟩):=by unfold bk;rw[Zq y,Zq z,Zq m,Zq A,Zq B,l];exact Zq q
    rw[n];have:yF s.kind=34:=Zq q
    rw[this];exact PC.ok (RW f g oM i l) λe w' a=>P a
 ·rw[Zq hO]
  have n:bk c X s=(aX 2,X):=by unfold bk;rw[Zq oM,Zq oM,Zq oM,Zq oM,Zx oM]
  rw[n];exact⟨_,_,rfl,al.tt rfl (PC.ok (gN f g.mono) λe w' a=>P a)⟩
end
section
variable {w w' w0 w1 w2 wb:World} {p q i k g:Nat} {F F1 F' G G' T D:ZN} {cls:Nat->Nat} {h:Kc} {c:bF} {X:cI} {s:eS} {R:aR} {now:Int} {rs:List (Nat×aR)} {bE:List bt}
def cu.more(i:cu w F cls p h now c rs bE)(j:ai w w')(e:bG w' q G' c rs.length R)(l:∀d,G' d->w.heap.size<=d):
  ∃F' a,cu w' F' a p h now c (rs++[(q,R)]) bE/\bB F w F' w':=by
 obtain⟨m,b,o,r,-⟩:=aP.fK i fh (k:=rs.length+2) (G':=G') (C2:=fw (FB p h now) (λw G=>dK w h.q G bE) c (rs++[(q,R)])) ⟨ai.af j,λd s=>.inr (l d s)⟩ e.aC (λf n=>by
  rw[X8 (Q4 _),Nat.sub_self]at n
  injection n with n;subst n;exact e) λt G g P=>by
  match t,g,P with
  |0,_,P=>exact P
  |1,_,P=>exact P
  |k+2,g,P=>
   intro f n;refine P f ?_;rcases Nat.lt_trichotomy k rs.length with h|h|h
   ·rwa [XW h]at n
   ·omega
   ·rw[Q7 be]at n;cases n
 exact⟨m,b,o,r⟩
def Pw(w0 w:World)(c:bF)(n:Value)(w':World):Prop:=ai w w'/\
 (((ur c).1≠0/\n= .tuple #[.pointer none,ZH (ur c).1])\/
  ((ur c).1=0/\∃p F,n= .tuple #[ZL p,ZH 0]/\b_ w0 w' p F c (ur c).2/\(∀P,F P->w.heap.size<=P)/\fm 0 (ur c).2))
def Mf(V:eP w0)(W:Laid w0)(C:ai w0 w){tn X E Y:Nat}(hd:bf w D c.decl d tn u E)(hD:∀n,D n->n<w.heap.size)(hs:aJ c.bU)(a9:aJ c.every)(b0:aJ c.start):
  YX 9 #[wu c d tn X u E Y] w (Ok (Pw w0 w c)):=by
 refine CI (PA.mk λw1 Z s1 g1=>PC.ok Kj ?_);rintro _ w2 ⟨q,Fq,rfl,H,b1,x⟩;have z2:=x.size;refine⟨_,rfl,PA.mk λw3 l s3 g3=>?_⟩;have c4:=(Z.then x).then l;have z3:=l.size;have z0:=C.size;have b2:=l.get (x.get g1 id) id;obtain⟨j,hB⟩:∃j:Nat,(if(if(64:Int)<c.ay then 64 else c.ay)>1 then(if(64:Int)<c.ay then 64 else c.ay)else 1)=(j:Int):=⟨(if(if(64:Int)<c.ay then 64 else c.ay)>1 then(if(64:Int)<c.ay then 64 else c.ay)else 1).toNat,by repeat' split<;>omega⟩
 have c5:(j:Int)=max 1 (min c.ay 64):=by rw[<-hB];repeat' split<;>omega
 obtain⟨m,I⟩:=aP.join (w:=w3) (C:=fw (FB w2.heap.size ⟨q,none,0,0,[]⟩ 0) (λw G=>dK w q G []) c []) (G:=λa n=>match a with|0=>n=w2.heap.size|1=>Fq n|_=>False)
  (λa=>by
   match a with
   |0=>exact⟨rfl,g3,(aM.nil w3).mono (λn P=>P.elim) (λn P=>(by cases P)),λn P=>(by cases P)⟩
   |1=>exact H.ah l
   |a+2=>exact λc6 J=>by simp at J)
  (λi a n b g=>by
   have hq:=H.aC n
   match i,a,b,g with
   |0,0,_,_=>rfl
   |1,1,_,_=>rfl
   |0,1,b,g=>have b:n=w2.heap.size:=b;have:=hq g;omega
   |1,0,b,g=>have g:n=w2.heap.size:=g;have:=hq b;omega)
  (λa n P=>by
   match a,P with
   |0,P=>have P:n=w2.heap.size:=P;omega
   |1,P=>have:=H.aC n P;omega)
 refine⟨_,ae b2 rfl,λa0 b3 w'=>∃(a:Nat) (h:Kc) (F:ZN) (cls:Nat->Nat) (rs:List (Nat×aR)),b3=a/\a<=j/\a0=j-a/\(a=0\/(bP c 0).1=0/\(bP c 0).2.S.l.length<=16777216)/\cu w' F cls w2.heap.size h 0 c rs []/\h.ps=rs.map (·.1)/\rs.length=a/\rs.map (·.2)=List.replicate a (bP c 0).2/\(∀n,F n->w1.heap.size<=n)/\ai w1 w',
  ⟨_,0,⟨q,none,0,0,[]⟩,_,m,[],rfl,Qj _,rfl,.inl rfl,I,rfl,rfl,rfl,λn ⟨a,P⟩=>?_,x.then l⟩,?_⟩
 ·match a,P with
  |0,P=>have P:n=w2.heap.size:=P;omega
  |1,P=>exact b1 n P
 rintro a0 _ _ w4 ⟨a,h,F,cls,rs,rfl,g,rfl,b4,K,o,a1,a2,y,z⟩;have k:=Z.then z;have b5:=z.get g1 id;rw[hB];refine al.dec (λb6=>?_) (λc7=>?_)
 ·have b6:a<j:=oM
  obtain⟨L,e2⟩:=DT (c:=c) (i:=(a:Int)) oM oM;refine ar (HN c d tn X u E Y) b5 (PC.ok (FJ (self:=(a:Int)) V W (C.then k) (hd.ah k) (λn P=>by have:=hD n P;have:=k.size;omega) hs a9 b0) ?_);rintro v5 M ⟨N,⟨a3,rfl⟩|⟨p,A,G',rfl,hA,hG,a4⟩⟩
  ·refine⟨_,_,rfl,al.dQ (λ_=>Ok.mk ⟨k.then N,.inl ⟨?_,?_⟩⟩) (λh=>Zz h a3)⟩
   ·show(bP c 0).1≠0
    rw[<-L];exact a3
   ·show _=Value.tuple #[.pointer none,ZH (bP c 0).1]
    rw[<-L]
  refine⟨_,_,rfl,al.dQ (λh=>Zz rfl h) (λ_=>?_)⟩;rw[L]at p;rw[e2]at hA a4;have z4:=z.size;obtain⟨F2,a5,a6,b7⟩:=cu.more (R:=(bP c 0).2) K N (by rw[a1];exact hA) hG;have b8:FB w2.heap.size h 0 M (λn=>F2 n/\a5 n=0):=a6.at' 0;obtain⟨c1,O,c3,B⟩:=b8;have hn:=c3.len dC;rw[o,Q8]at hn;refine⟨_,0,rfl,_,_,_,ae O rfl,Hn (x:=A) (D:=λ_=>False) c3 Vh ⟨rfl,trivial⟩ (λn P=>P.elim) (by rw[o,Q8];unfold aK;omega) (by rw[o,Q8];unfold maxLen;omega) λr e w7 F7 Q S c8 b9=>⟨_,_,_,rfl,_,0,rfl,PS.mk (S.get O λf=>(B _ f).2 rfl) sM λw8 k8 s8 g8=>?_⟩⟩;have z5:=N.size;have z7:=S.size;have c9:=ax O;have T:∀n,aD r=some n->(aD h.a=some n\/M.heap.size<=n)/\n<w7.heap.size:=λn P=>⟨b9 n P,Q.aC n (Q.self n P)⟩
  have a7:∀n,aD r=some n->n≠w2.heap.size:=λn P f=>by rcases(T n P).1 with h|h;exact(B n h).2 f;omega
  have kk:ak (λn=>F2 n/\a5 n=0) M w8:=(S.mono λn _ P=>(B n P).1).then (k8.mono λn _ P=>by have P:n=w2.heap.size:=P;rw[P];exact c1);obtain⟨F8,s,U,t,-⟩:=aP.fK a6 fh (k:=0) (G':=λn=>n=w2.heap.size\/aD r=some n) (C2:=fw (FB w2.heap.size ⟨h.q,r,h.n+1,e,h.ps++[A]⟩ 0) (λw G=>dK w h.q G []) c (rs++[(A,(bP c 0).2)]))
   ⟨kk,λn P=>P.elim (λf=>.inl (f▸c1)) λP=>(T n P).1.imp (λh=>(B n h).1) id⟩ (λn P=>P.elim (λf=>oM) λP=>by have:=(T n P).2;omega)
   ⟨.inl rfl,g8,Q.alone.af k8 λn P f=>a7 n P f,λn P=>⟨.inr P,a7 n P⟩⟩ λi G b v=>by
    match i,b,v with
    |1,_,v=>exact v
    |i+2,_,v=>exact v
  have a8:=b7.trans t;refine⟨_,oM,a+1,⟨h.q,r,h.n+1,e,h.ps++[A]⟩,F8,s,_,aq oM,oM,rfl,.inr ⟨p,a4⟩,U,by rw[o,Q3];rfl,by rw[QX,a1];rfl,by rw[Q3,a2,List.replicate_succ'];rfl,λn P=>(a8.new n P).elim (y n) λh=>oM,z.new a8.af λn P=>.inr (y n P)⟩
 ·have c0:a≠0:=oM
  obtain⟨p,d0⟩:=b4.resolve_left c0;obtain⟨r1,r2,-,-⟩:=HO p;have c2:a=c.ay.toNat:=oM
  have J:rs[0]? =some rs[0]:=Qq oM;refine Ok.mk ⟨k,.inr ⟨p,_,F,rfl,⟨h,cls,rs,K,o,?_,oM,(cu.rep K J).ok,⟨V,W,C.then k,λn P=>by have:=y n P;omega⟩⟩,λn P=>by have:=y n P;omega,⟨λR hR=>?_,Int.le_refl 0,Int.le_refl 0⟩⟩⟩
  ·rw[a2,c2];rfl
  ·have:=(List.mem_replicate.1 hR).2
   subst this;exact⟨oM,by rw[AI];exact Qj _⟩
end
def Bh:jW:=⟨[],[],[],[],[]⟩
def Bi(x:PC_ 24 #[.ii 2] b (kX_ 27 λy z=>PC_ 9 #[y] z (λB j=>∃P k,B= .tuple #[.pointer P,.ii k]/\al (k !=0) (rt A ((.bool false)) j) (PR_ (eq_ .eql 33 (.tmp 18) (.const (.pointer none)) (.pointer P) (.pointer none)) j (kB λC l=>al C (rt A ((.bool false)) l) (PC_ 25 #[.ii 0,.ii 3] l (λD E=>∃m o p q r s t,D= .agg #[.ii m,.ii o,.ii p,.ii q,.ii r,.ii s,.ii t]/\PC_ 13 #[.pointer P,.agg #[.ii 1,.ii 0,.ii 0,.ii m,.ii o,.ii p,.ii q,.ii r,.ii s,.ii t]] E (kX_ 53 λF a=>PA a (.cells #[.ii 0,.ii 0,.ii 0,.ii 0,.slice none 0 0,.slice none 0 0,.slice none 0 0,.bool false] 53) λG=>St 53 (ab_ a 0) F G λH=>PC_ 13 #[.pointer P,.agg #[.ii 2,.ii 1,.ii 0,.ii 0,.ii 0,.ii 0,.ii 0,.ii 0,.ii 0,.ii 0]] H (kX_ 53 λI d=>PA d (.cells #[.ii 0,.ii 0,.ii 0,.ii 0,.slice none 0 0,.slice none 0 0,.slice none 0 0,.bool false] 53) λJ=>St 53 (ab_ d 0) I J λK=>PC_ 13 #[.pointer P,.agg #[.ii 3,.ii 0,.ii 0,.ii 0,.ii 0,.ii 0,.ii 0,.ii 0,.ii 0,.ii 0]] K (kX_ 53 λL e=>PA e (.cells #[.ii 0,.ii 0,.ii 0,.ii 0,.slice none 0 0,.slice none 0 0,.slice none 0 0,.bool false] 53) λM=>St 53 (ab_ e 0) L M λN=>PC_ 13 #[.pointer P,.agg #[.ii 3,.ii 0,.ii 0,.ii 0,.ii 0,.ii 0,.ii 0,.ii 0,.ii 0,.ii 0]] N (kX_ 53 λO f=>PA f (.cells #[.ii 0,.ii 0,.ii 0,.ii 0,.slice none 0 0,.slice none 0 0,.slice none 0 0,.bool false] 53) λQ=>St 53 (ab_ f 0) O Q λR=>PC_ 13 #[.pointer P,.agg #[.ii 10,.ii 1,.ii 0,.ii 0,.ii 0,.ii 0,.ii 0,.ii 0,.ii 0,.ii 0]] R (kX_ 53 λS c=>PA c (.cells #[.ii 0,.ii 0,.ii 0,.ii 0,.slice none 0 0,.slice none 0 0,.slice none 0 0,.bool false] 53) λT=>St 53 (ab_ c 0) S T λU=>PC_ 13 #[.pointer P,.agg #[.ii 3,.ii 9,.ii 0,.ii 0,.ii 0,.ii 0,.ii 0,.ii 0,.ii 0,.ii 0]] U (kX_ 53 λV g=>PA g (.cells #[.ii 0,.ii 0,.ii 0,.ii 0,.slice none 0 0,.slice none 0 0,.slice none 0 0,.bool false] 53) λW=>St 53 (ab_ g 0) V W λX=>PC_ 13 #[.pointer P,.agg #[.ii 2,.ii 1,.ii 1,.ii 0,.ii 0,.ii 0,.ii 0,.ii 0,.ii 0,.ii 0]] X (kX_ 53 λY h=>PA h (.cells #[.ii 0,.ii 0,.ii 0,.ii 0,.slice none 0 0,.slice none 0 0,.slice none 0 0,.bool false] 53) λZ=>St 53 (ab_ h 0) Y Z λa1=>PC_ 13 #[.pointer P,.agg #[.ii 6,.ii 0,.ii 0,.ii 0,.ii 0,.ii 0,.ii 0,.ii 0,.ii 0,.ii 0]] a1 (kX_ 53 λb8 i=>(∃u v,i.cell? (ab_ a (0+1))=some (.ii u)/\i.cell? (ab_ a (0+1+1))=some (.ii v)/\PR_ (eq_ .eql 46 (.tmp 47) (.tmp 48) (.agg #[.ii u,.ii v]) (.agg #[.ii 0,.ii 1])) i (kB λa2 n=>al a2 ((rI n (ab_ a 0) λa3=>al (a3==0) ((rI n (ab_ d 0) λa4=>al (a4==0) ((rI n (ab_ e 0) λa5=>al (a5==0) ((rI n (ab_ f 0) λa6=>al (a6==0) ((rS n (ab_ c (0+3+1)) λb9 a7 c0=>al ((a7:Int)==6) ((rS n (ab_ c (0+3+1)) λa8 a9 c1=>(ix_ a8 0 a9 λb0 b1=>(rI n (ad b0 (b1+Int.toNat 0*2)) λb2=>al (b2==3) ((rI n (ab_ g 0) λb3=>al (b3==14) ((rI n (ab_ h 0) λb4=>al (b4==1) (PC_ 11 #[.pointer P] n (kI_ λb5 w=>al (b5==1) (PC_ 12 #[.pointer P] w (kI_ λb6 b7=>rt A ((.bool (b6==1))) b7) (pE A)) (rt A ((.bool false)) w)) (pE A)) (rt A ((.bool false)) n))) (rt A ((.bool false)) n))) (rt A ((.bool false)) n))))) (rt A ((.bool false)) n))) (rt A ((.bool false)) n))) (rt A ((.bool false)) n))) (rt A ((.bool false)) n))) (rt A ((.bool false)) n))) (rt A ((.bool false)) n)) (pV A))) (pE A)) (pE A)) (pE A)) (pE A)) (pE A)) (pE A)) (pE A)) (pE A)) (pE A))) (pV A))) (pE A)) (pE A)):YX 8 #[] b A:=DC Bh Tryz.func8 rfl x
def lG:lx:=⟨0,0,0,0,0,0,0⟩
def vV:Bool:=
 let n:=fW 2
 let P:=bk n (ur n).2 ⟨1,0,0,⟨0,0,0,1,3,-1,0⟩⟩
 let b:=bk n P.2 ⟨2,1,0,lG⟩
 let c:=bk n b.2 ⟨3,0,0,lG⟩
 let d:=bk n c.2 ⟨3,0,0,lG⟩
 let a:=bk n d.2 ⟨10,1,0,lG⟩
 let e:=bk n a.2 ⟨3,9,0,lG⟩
 let f:=bk n e.2 ⟨2,1,1,lG⟩
 let g:=bk n f.2 ⟨6,0,0,lG⟩
 (ur n).1==0&&(P.1.id.1==(0:Int)&&(P.1.id.2==(1:Int)&&(P.1.code==0&&(b.1.code==0&&(c.1.code==0&&(d.1.code==0&&(a.1.st.cells.length==6&&((a.1.st.cells.getD 0 ⟨0,[]⟩).n==3&&(e.1.code==14&&(f.1.code==1&&(g.2.now==1&&g.2.bE.length==1)))))))))))
def RD:vV=true:=by decide+kernel
def OL:∃(h:cI) (n a b c P d e f:eT×cI),ur (fW 2)=(0,h)/\bk (fW 2) h ⟨1,0,0,⟨0,0,0,1,3,-1,0⟩⟩=n/\bk (fW 2) n.2 ⟨2,1,0,lG⟩=a/\bk (fW 2) a.2 ⟨3,0,0,lG⟩=b/\bk (fW 2) b.2 ⟨3,0,0,lG⟩=c/\bk (fW 2) c.2 ⟨10,1,0,lG⟩=P/\bk (fW 2) P.2 ⟨3,9,0,lG⟩=d/\bk (fW 2) d.2 ⟨2,1,1,lG⟩=e/\bk (fW 2) e.2 ⟨6,0,0,lG⟩=f/\
  n.1.id.1=0/\n.1.id.2=1/\n.1.code=0/\a.1.code=0/\b.1.code=0/\c.1.code=0/\P.1.st.cells.length=6/\(P.1.st.cells.getD 0 ⟨0,[]⟩).n=3/\d.1.code=14/\e.1.code=1/\f.2.now=1/\f.2.bE.length=1:=by
 have g:=RD;unfold vV at g;simp only[QK,beq_iff_eq]at g;obtain⟨i,j⟩:=g;exact⟨_,_,_,_,_,_,_,_,_,Prod.ext i rfl,rfl,rfl,rfl,rfl,rfl,rfl,rfl,rfl,j⟩
section
variable {w w' w0 w1 w2 wb:World} {p i k g:Nat} {F F1 F' G G' T D:ZN} {c:bF} {X:cI} {s:eS} {x:eT} {v:Value}
def ES(w:World)(g:Nat)(F:ZN)(x:eT):Prop:=∃(P:YQ) (a b:Nat) (c:YQ) (d e:Nat) (f:YQ) (h i:Nat) (G:ZN),w.heap[g]? =some (.cells (eU x P a b c d e f h i).toArray 53 (0,0))/\Row eG 32 w G P a x.st.cells/\(∀n,G n->n<w.heap.size/\¬F n)/\¬F g
def ES.fK(c:ES w g F x)(P:bB F w F' w'):ES w' g F' x:=by
 obtain⟨h,i,j,k,l,m,o,p,q,G,e,r,b,f⟩:=c;have s:=P.af.size;have t:=ax e;exact⟨h,i,j,k,l,m,o,p,q,G,P.af.get e f,r.af P.af λn a=>(b n a).2,λn a=>⟨by have:=(b n a).1;omega,λd=>(P.new n d).elim (b n a).2 λc=>by have:=(b n a).1;omega⟩,λd=>(P.new g d).elim f λc=>oM⟩
def ES.get(n:ES w g F x):∃cs:Array Value,w.heap[g]? =some (.cells cs 53 (0,0))/\cs[0]? =some (ZH x.code)/\cs[1]? =some (ZH x.id.1)/\cs[2]? =some (ZH x.id.2):=by
 obtain⟨a,b,c,d,e,f,h,i,j,G,P,k,l,m⟩:=n;exact⟨_,P,rfl,rfl,rfl⟩
def ub(A:b_ w0 w p F c X)(E:fm k X)(H:k<=999)(I:s.Ok)(f:∀n b F',w.heap.size<=n.heap.size->b_ w0 b p F' c (bk c X s).2->fm (k+1) (bk c X s).2->bB F w F' b->ES b n.heap.size F' (bk c X s).1->h6 n b):
  PC ZP 13 #[ZL p,jj s] w (λv n=>uc (dG ZP 53) λx=>v=x/\PA n (.cells #[ZH 0,ZH 0,ZH 0,ZH 0,.slice none 0 0,.slice none 0 0,.slice none 0 0,.bool false] 53) λw2=>lr ZP 53 (ZL n.heap.size) x w2 λb=>h6 n b) a5:=by
 have N:=A.env.gr.size;refine PC.ok (Ki A E H I) ?_;rintro _ n ⟨F',⟨g,h,i,j,l,m,o,q,r,G,rfl,J,O,Q,t⟩,e,u,B⟩;have C:=e.aC;have K:=B.af.size;refine bT (HF _ g h i j l m o q r) ⟨rfl,PA.mk λw2 y R L=>az (f_ _ g h i j l m o q r) L rfl λb z S M=>f n b F' K ?_ u ?_ ?_⟩
 ·exact(e.ah y).af z (λa d P=>by have P:a=n.heap.size:=P;have:=C a d;omega) λa P=>by have P:a=n.heap.size:=P;omega
 ·exact(B.ah y).last z λa P=>by have P:a=n.heap.size:=P;omega
 ·exact⟨g,h,i,j,l,m,o,q,r,G,M,(J.ah y).af z λa d P=>by have P:a=n.heap.size:=P;have:=(t a d).2.1;omega,λa d=>⟨by have:=(t a d).2.1;omega,(t a d).2.2⟩,λP=>by have:=C _ P;omega⟩
def ll(n:(decide (-1000000<=e)&&decide (e<=1000000)&&(decide (-1000000<=r)&&decide (r<=1000000))&&(decide (-1000000<=N)&&decide (N<=1000000)))=true):eS.Ok ⟨e,r,N,lG⟩:=by
 simp only[QK,Zk]at n;exact⟨by show aJ e;unfold aJ;omega,by show aJ r;unfold aJ;omega,by show aJ N;unfold aJ;omega,i10 rfl,i10 rfl,i10 rfl,i10 rfl,i10 rfl,i10 rfl⟩
def OM{n arg:Int}:YX 25 #[ZH n,ZH arg] w (Ok λv w'=>v=wv ⟨0,n,0,1,arg,-1,0⟩/\ai w w'):=
 Ie (PA.mk λw1 a f b=>az (pX ⟨0,n,0,1,arg,-1,0⟩) b rfl λw2 c g d=>ar (pX ⟨0,n,0,1,arg,-1,0⟩) d (Ok.mk ⟨rfl,a.new c λe P=>.inr (by have P:e=w.heap.size:=P;omega)⟩))
set_option maxHeartbeats 2000000 in
def HQ(Y:eP w0)(Z:Laid w0)(h0:ai w0 w):YX 8 #[] w (Ok λv w'=>v= .bool true/\ai w w'):=by
 obtain⟨X,a0,f,a1,a2,g,a3,s,a4,e0,e1,e2,e3,e4,e5,e6,e7,e8,q1,q2,q3,q4,q5,q6,q7,q8,q9,a6,a7,a8⟩:=OL;refine Bi (PC.ok JL ?_);rintro _ w2 ⟨ta,tn,tc,pa,pn,pc,G2,rfl,a9,b0,r⟩;refine bT (VE (fW 2) ta tn tc pa pn pc) ⟨rfl,PC.ok (Mf (c:=fW 2) Y Z (h0.then r) a9 (λf l=>(b0 f l).2) (i10 rfl) (i10 rfl) (i10 rfl)) ?_⟩;rintro v5 w5 t;unfold Pw at t;rw[e0]at t;obtain⟨k5,⟨b1,-⟩|⟨-,p,F,rfl,z,hF,A⟩⟩:=t
 ·exact Zz rfl b1
 dsimp only at z A;generalize fW 2=c2 at*;have b2:=r.then k5;have b3:∀f,F f->w.heap.size<=f:=λf l=>by have:=hF f l;have:=r.size;omega
 refine⟨_,_,rfl,al.dQ (λa=>Zz rfl a) (λ_=>fz Tryz.underlying33 ⟨_,rfl,al.ff rfl (PC.ok OM ?_)⟩)⟩;rintro _ w7 ⟨rfl,B⟩;refine⟨_,_,_,_,_,_,_,rfl,?_⟩;have b4:=b2.then B;refine ub (k:=0) (s:=⟨1,0,0,⟨0,0,0,1,3,-1,0⟩⟩) (z.ah B) A oM ⟨i10 rfl,i10 rfl,i10 rfl,i10 rfl,i10 rfl,i10 rfl,i10 rfl,i10 rfl,i10 rfl⟩ λwa w8 Fa za C E c b=>?_;rw[e1]at C E b;refine ub (s:=⟨2,1,0,lG⟩) C E oM (ll rfl) λwb w9 Fb zb H I J d=>?_;rw[e2]at H I d;have b:=b.fK J;have c:=c.trans J;refine ub (s:=⟨3,0,0,lG⟩) H I oM (ll rfl) λwd c8 Fd zd K L u P=>?_;rw[e3]at K L P;have b:=b.fK u;have d:=d.fK u;have c:=c.trans u;refine ub (s:=⟨3,0,0,lG⟩) K L oM (ll rfl) λwf c9 Ff zf M N q n=>?_;rw[e4]at M N n;have b:=b.fK q;have d:=d.fK q;have P:=P.fK q;have c:=c.trans q;refine ub (s:=⟨10,1,0,lG⟩) M N oM (ll rfl) λwg d0 Fg zg O Q m h=>?_;rw[e5]at O Q h;have b:=b.fK m;have d:=d.fK m;have P:=P.fK m;have n:=n.fK m;have c:=c.trans m;refine ub (s:=⟨3,9,0,lG⟩) O Q oM (ll rfl) λwn d1 Fn zn R S k e=>?_;rw[e6]at R S e;have b:=b.fK k;have d:=d.fK k;have P:=P.fK k;have n:=n.fK k;have h:=h.fK k;have c:=c.trans k;refine ub (s:=⟨2,1,1,lG⟩) R S oM (ll rfl) λws d2 Fs zs T U j is=>?_;rw[e7]at T U is;have b:=b.fK j;have d:=d.fK j;have P:=P.fK j;have n:=n.fK j;have h:=h.fK j;have e:=e.fK j;have c:=c.trans j;refine PC.ok (Ki (s:=⟨6,0,0,lG⟩) T U oM (ll rfl)) ?_;rintro _ b5 ⟨Ft,⟨sa,sn,sc,ea,en,ec,ra,rn,rc,-,rfl,-⟩,x,b6,i⟩;rw[e8]at x b6;have b:=b.fK i;have d:=d.fK i;have P:=P.fK i;have n:=n.fK i;have h:=h.fK i;have e:=e.fK i;have is:=is.fK i;have c:=c.trans i;refine bT (HF _ sa sn sc ea en ec ra rn rc) ⟨rfl,?_⟩;obtain⟨za,y,b7,b8,c1⟩:=b.get;obtain⟨zb,yb,c3,-⟩:=d.get;obtain⟨zd,yd,c4,-⟩:=P.get;obtain⟨zf,yf,c5,-⟩:=n.get;obtain⟨zn,yn,c6,-⟩:=e.get;obtain⟨zs,ys,c7,-⟩:=is.get;obtain⟨d3,d4,d5,d6,Xo,d7,d8,d9,e9,Gg,V,W,-,-⟩:=h;have f2:=W.len;obtain⟨b9,o9,f3,f4,f5,rfl,f8,-,a5,-⟩:=mS (i:=0) W oM;have o:ai w b5:=b4.new c.af λf l=>.inr (b3 f l);refine⟨_,_,ae y b8,ae y c1,aG.mk Gt ⟨_,rfl,al.tt (by rw[q1,q2];rfl) ⟨_,ae y b7,al.cW (λ_=>⟨_,ae yb c3,al.cW (λ_=>⟨_,ae yd c4,al.cW (λ_=>⟨_,ae yf c5,al.cW (λ_=>⟨_,_,_,ae V rfl,al.cW (λ_=>⟨_,_,_,ae V rfl,b9,o9,rfl,oM,oM,_,a5,al.cW (λ_=>⟨_,ae yn c6,al.cW (λ_=>⟨_,ae ys c7,al.cW (λ_=>?_) (λa=>Zz a6 a)⟩) (λa=>Zz q9 a)⟩) (λa=>Zz q8 a)⟩) (λa=>Zz oM a)⟩) (λa=>Zz q6 a)⟩) (λa=>Zz q5 a)⟩) (λa=>Zz q4 a)⟩) (λa=>Zz q3 a)⟩⟩⟩;refine PC.ok (Me x) ?_;rintro _ _ ⟨rfl,rfl⟩;refine⟨_,rfl,al.cW (λ_=>PC.ok (AH x) ?_) (λa=>Zz a7 a)⟩;rintro _ _ ⟨rfl,rfl⟩;refine⟨_,rfl,Ok.mk ⟨?_,o⟩⟩;rw[a8];rfl
end
def ko(n:bF)(P:YQ)(tn a:Nat)(b:YQ)(c d:Nat)(e:YQ)(f g:Nat):List Value:=ep n P tn a b c d++[.slice e f g]
abbrev Mg(n:bF)(P:YQ)(tn a:Nat)(b:YQ)(c d:Nat)(e:YQ)(f g:Nat):Value:=.agg (ko n P tn a b c d e f g).toArray
def TW(n:bF)(P:YQ)(tn a:Nat)(b:YQ)(c d:Nat)(e:YQ)(f g:Nat):ia ZP 30 (ko n P tn a b c d e f g)=true:=kR
def HP:jF eS:=flat 10 nd eS.Ok (λ_=>rfl) (λP a n=>by simp[nd,fB]at n;rcases n with rfl|rfl|rfl|rfl|rfl|rfl|rfl|rfl|rfl|rfl<;>rfl)
section
variable {w w' w0 w1 w2 wb:World} {p q i k g:Nat} {F F1 F' G G' T D E:ZN} {c:bF} {X Y:cI} {s:eS} {x:eT} {v:Value} {ta pa la:YQ} {tn tc pn pc ln lc:Nat} {l:List eS}
def Kk(f:bf w D c.decl ta tn pa pn)(g:Row HP 80 w E la ln l):
  YX 7 #[Mg c ta tn tc pa pn pc la ln lc] w (Ok λv w'=>(∃P:Bool,v= .bool P/\(P=false->l.length<=300))/\ai w w'):=by
 have h:=g.len;refine FK (PA.mk λw1 d i a=>⟨_,_,_,_,_,_,ae a rfl,ae a rfl,PC.ok (Kl (f.ah d)) ?_⟩);rintro _ w2 ⟨⟨P,rfl⟩,e⟩;have n:=d.then e;have b:=e.get a id;exact⟨_,rfl,al.mk (λ_=>Ok.mk ⟨⟨_,rfl,sM⟩,n⟩) (λ_=>⟨_,_,_,ae b rfl,al.dec (λ_=>Ok.mk ⟨⟨_,rfl,sM⟩,n⟩) (λj=>⟨_,ae b rfl,al.dec (λ_=>⟨_,ae b rfl,Ok.mk ⟨⟨_,rfl,λ_=>oM⟩,n⟩⟩) (λ_=>Ok.mk ⟨⟨_,rfl,λ_=>oM⟩,n⟩)⟩)⟩)⟩
def Px(a:eP w0)(b:Laid w0)(n:ai w0 w):PC ZP 8 #[] w (λv w2=>∃P:Bool,v= .bool P/\Ok (λv w'=>v= .bool true/\ai w0 w') (.returned (.bool P)) w2) a5:=by
 refine PC.ok (HQ a b n) ?_;rintro _ w' ⟨rfl,k⟩;exact⟨_,rfl,Ok.mk ⟨rfl,n.then k⟩⟩
def FL(P:w.heap[g]? =some (.cells (ko c ta tn tc pa pn pc la ln lc).toArray 30 (0,0)))(a:M (wu c ta tn tc pa pn pc)):ig ZP 27 (ZL g) w M:=
 FG (es:=ep c ta tn tc pa pn pc) (HN c ta tn tc pa pn pc) P (λn b=>by rcases n with _|_|_|_|_|_|_|_|_|_|n<;>first|rfl|exact Zz b (by simp[ep])) a
def HR(c:Row HP 80 w E la ln l){j:Nat}(d:j<ln):∃n P s,la=some ⟨n,P,none⟩/\n<w.heap.size/\E n/\l[j]? =some s/\s.Ok/\∀a:Value->Prop,a (jj s)->ig ZP 40 (.pointer (some ⟨n,P+j*10,none⟩)) w a:=by
 obtain⟨n,P,s,p,e,f,g,h,i,rfl,k⟩:=c.vW (i:=j) d;exact⟨n,P,s,e,f,g,h,k,λa b=>bA (es:=nd s) (k:=10) (Kb s) rfl (λm o=>i m o) b⟩
def du.af(d:du w1 x v w)(a:ak T w w')(e:∀n,w1.heap.size<=n->n<w.heap.size->¬T n):du w1 x v w':=by
 obtain⟨f,g,h,i,j,k,l,m,o,G,p,q,r,s,b⟩:=d;have c:∀n,G n->¬T n:=λn P=>e n (b n P).1 (b n P).2;exact⟨f,g,h,i,j,k,l,m,o,G,p,q.af a c,r.af a c,s.af a c,λn P=>⟨(b n P).1,Qk (b n P).2 a.size⟩⟩
def Vk(P:du w1 x v w)(a:M v):uc (dG ZP 53) λn=>v=n/\M n:=by
 obtain⟨b,c,d,e,f,g,h,i,j,G,rfl,-⟩:=P;exact bT (HF x b c d e f g h i j) ⟨rfl,a⟩
end
def tR:jW:=⟨[(11,[(8,ZH 0)]),(18,[(11,ZH 0)]),(24,[(13,ZH 0)])],[],[21,26],[1000021],[(21,⟨[0,0,0,4,0,24,32,66,129,256,768,1024,3072,1024,9216,17408,33792,66560,136192,263168,528384,1048576,3145728,1048576,9437184,17825792,34603008,72351744,135266304],[536870911,536870911,536870911,536870907,536870911,536870887,536870879,536870845,536870782,536870655,536870399,536869887,536867839,536869887,536861695,536853503,536837119,536804351,536734719,536607743,536346623,535822335,533725183,535822335,527433727,519045119,502267903,464519167,401604607],[1,0,0,1,0,0,1,2,2,0,0,0,2,0,0,0,1,0,0,0,0,0,2,0,0,0,1,0,0]⟩),(26,⟨[0,0,3,0,8,16,32,0,192,256,516,1028,2048,6144,8192,8192,57344,8192,139264,270336,532480,8192,3153920,4202496,8462336,16850944,33562624,67117056],[268435455,268435455,268435452,268435455,268435447,268435439,268435423,268435455,268435263,268435199,268434943,268434427,268433407,268431359,268427263,268427263,268378111,268427263,268296191,268165119,267902975,268427263,265281535,264232959,260038655,251584511,234872831,201318399],[0,0,2,0,0,0,1,0,0,1,2,2,0,0,0,0,2,0,0,0,1,0,0,1,2,2,0,0]⟩)]⟩
def tk{U V W X Y Z a0 a1:Int}(a3:PA b (.cells #[.ii U,.ii V,.ii W,.ii X,.ii Y,.ii Z,.ii a0,.ii a1,.slice d a c,.slice u i p,.slice e5 E c2] 30) λa6=>(Ld 30 (ab_ b 0) a6 λc8=>PC_ 7 #[c8] a6 (kB λc9 B=>al c9 (PC_ 8 #[] B (kB λd0 d1=>rt A ((.bool d0)) d1) (pE A)) ((Ld 27 (ab_ b 0) B λd2=>PC_ 9 #[d2] B (λd3 C=>∃f F,d3= .tuple #[.pointer f,.ii F]/\al (F !=0) ((Ld 27 (ab_ b 0) C λd4=>PC_ 19 #[d4,.ii 0] C (λd5 a7=>∃d6 a8,d5= .tuple #[.pointer d6,.ii a8]/\al (a8==F) (PC_ 8 #[] a7 (kB λd7 d8=>rt A ((.bool d7)) d8) (pE A)) (rt A ((.bool false)) a7)) (pE A))) (PR_ (eq_ .eql 33 (.tmp 37) (.const (.pointer none)) (.pointer f) (.pointer none)) C (kB λd9 n=>al d9 (rt A ((.bool false)) n) ((rI n (ab_ b 0) λe0=>al (decide (e0>64)) (rt A ((.bool false)) n) (PA n (.cells #[.slice none 0 0,.slice none 0 0,.ii 0] 71) λe1=>(∃H:Nat->Int->ZU,(∃q,H q 0 e1)/\∀(q:Nat) (r:Int) (k2:Nat->Value) (l:World),H q r l->(rI l (ab_ b 0) λe2=>al (decide (r<e2)) ((Ld 27 (ab_ b 0) l λe3=>PC_ 19 #[e3,.ii r] l (λe4 a9=>∃I b0,e4= .tuple #[.pointer I,.ii b0]/\al (b0 !=0) (rt A ((.bool false)) a9) (PR_ (eq_ .eql 64 (.tmp 64) (.const (.pointer none)) (.pointer I) (.pointer none)) a9 (kB λa4 s=>al a4 (rt A ((.bool false)) s) ((∃b1 b2,((some (ab_ n 0)):YQ)=some ⟨b1,b2,none⟩/\(rS s (ad b1 b2) λe6 e7 e8=>PA s (.cells #[.pointer I] 64) λe9=>PR_ (ap_ 68 (.slice e6 e7 e8) (.slice (some (ab_ s 0)) 1 1)) e9 (kS_ λf0 f1 f2 f3=>(∃b3 b4,((some (ab_ n 0)):YQ)=some ⟨b3,b4,none⟩/\PS f3 (ad b3 b4) (.slice f0 f1 f2) λf4=>(∃b5,b5<q/\H b5 (IntKind.wrap .i64 (r+1)) f4))) (pV A))))) (pV A))) (pE A))) ((∃J:Nat->Int->ZU,(∃t,J t 0 l)/\∀(t:Nat) (g:Int) (k3:Nat->Value) (h:World),J t g h->(rS h (ab_ b (0+10)) λk4 f5 k5=>al (decide (g<(f5:Int))) ((rS h (ab_ b (0+10)) λf6 f7 k6=>(ix_ f6 g f7 λf8 f9=>(Ld 40 (ad f8 (f9+Int.toNat g*10)) h λg0=>PC_ 13 #[.pointer f,g0] h (kX_ 53 λg1 v=>PA v (.cells #[.ii 0,.ii 0,.ii 0,.ii 0,.slice none 0 0,.slice none 0 0,.slice none 0 0,.bool false] 53) λg2=>St 53 (ab_ v 0) g1 g2 λg3=>(∀j,br g3 j->∃b6:ZN,(¬b6 v.heap.size/\(Ld 53 (ab_ v 0) j λg4=>(rS j (ab_ b (0+10)) λg5 g6 k7=>(ix_ g5 g g6 λg7 g8=>(Ld 40 (ad g7 (g8+Int.toNat g*10)) j λg9=>PC_ 20 #[.pointer (some (ab_ n 0)),g9] j (kX_ 53 λh0 b7=>(ak b6 j b7/\PC_ 16 #[g4,h0] b7 (kB λh1 w=>(∃x:ZN,al (!h1) (rt A ((.bool false)) w) ((∃K b8,((some (ab_ n 0)):YQ)=some ⟨K,b8,none⟩/\(¬x K/\(rS w (ad K (b8+1)) λk8 h2 k9=>PC_ 12 #[.pointer f] w (kI_ λh3 m=>(ak x w m/\al (h3 !=(h2:Int)) (rt A ((.bool false)) m) ((∃D b9,((some (ab_ n 0)):YQ)=some ⟨D,b9,none⟩/\(¬x D/\(rI m (ad D (b9+2)) λh4=>PC_ 11 #[.pointer f] m (kI_ λh5 L=>(ak x m L/\al (h5 !=h4) (rt A ((.bool false)) L) ((∃c0,c0<t/\J c0 (IntKind.wrap .i64 (g+1)) L)))) (pZ A))))))) (pZ A))))))) (pZ A))) (pZ A)))))))) (pE A))))) ((∃M:Nat->Int->ZU,(∃y,M y 0 h)/\∀(y:Nat) (e:Int) (l0:Nat->Value) (z:World),M y e z->(∃c1 a2,((some (ab_ n 0)):YQ)=some ⟨c1,a2,none⟩/\(rS z (ad c1 a2) λl1 h6 l2=>al (decide (e<(h6:Int))) ((∀o,br z o->∃P:ZN,(∃G c3,((some (ab_ n 0)):YQ)=some ⟨G,c3,none⟩/\(¬P G/\(rS o (ad G c3) λh7 h8 l3=>(ix_ h7 e h8 λc4 h9=>(¬P c4/\(rP o (ad c4 (h9+Int.toNat e)) λi0=>PC_ 10 #[.pointer f,.ii e] o (kS_ λi1 i2 i3 N=>(ak P o N/\PC_ 21 #[.pointer i0] N (kS_ λi4 i5 i6 O=>(ak P N O/\PC_ 14 #[.slice i1 i2 i3,.slice i4 i5 i6] O (kB λi7 k=>(ak P O k/\al (!i7) (rt A ((.bool false)) k) ((∃Q c5,((some (ab_ n 0)):YQ)=some ⟨Q,c5,none⟩/\(¬P Q/\(rS k (ad Q c5) λi8 i9 l4=>(ix_ i8 e i9 λc6 j0=>(¬P c6/\(rP k (ad c6 (j0+Int.toNat e)) λj1=>PC_ 18 #[.pointer f,.ii e] k (kS_ λj2 j3 j4 R=>(ak P k R/\PC_ 22 #[.pointer j1] R (kS_ λj5 j6 j7 S=>(ak P R S/\PC_ 17 #[.slice j2 j3 j4,.slice j5 j6 j7] S (kB λj8 T=>(ak P S T/\al (!j8) (rt A ((.bool false)) T) ((∃c7,c7<y/\M c7 (IntKind.wrap .i64 (e+1)) T)))) (pZ A))) (pZ A))) (pZ A)))))))))) (pZ A))) (pZ A))) (pZ A))))))))) (PC_ 8 #[] z (kB λj9 k1=>rt A ((.bool j9)) k1) (pE A))))))))))))))) (pV A))) (pE A)))) (pE A))):YX 6 #[.agg #[.ii U,.ii V,.ii W,.ii X,.ii Y,.ii Z,.ii a0,.ii a1,.slice d a c,.slice u i p,.slice e5 E c2]] b A:=DC tR Tryz.func6 rfl a3
def wY:jW:=⟨[(10,[(6,ZH 0)])],[(6,[(12,.bool false)]),(14,[]),(18,[])],[],[],[(12,⟨[0,0,2,4,8,0,48,64,0,256,512,1024,2176,4097],[16383,16383,16381,16379,16375,16383,16335,16319,16383,16127,15871,15359,14207,12286],[0,0,0,0,1,0,0,1,0,0,0,1,2,2]⟩),(23,⟨[0,0,0,4,0,16,32,64,138,257],[1023,1023,1023,1019,1023,1007,991,959,885,766],[0,0,0,1,0,0,0,1,2,2]⟩)]⟩
def wZ{u v w x y z B D C E:Int}(a0:PA b (.cells #[.ii u,.ii v,.ii w,.ii x,.ii y,.ii z,.ii B,.ii D,.ii C,.ii E] 40) λn=>PA n (.cells #[.ii 0,.ii 0,.ii 0,.ii 0,.slice none 0 0,.slice none 0 0,.slice none 0 0,.bool false] 53) λe=>(Ld 38 (ab_ b (0+3)) e λa4=>PA e (.cells #[.ii 0,.ii 0,.ii 0,.ii 0,.ii 0,.ii 0,.ii 0] 38) λa5=>St 38 (ab_ e 0) a4 a5 λm=>(∃G:ZU,((rI m (ab_ b 0) λi=>(∃o:Bool->ZU,(al (i==3) (o (i==3) m) (al (i==4) (o (i==4) m) (o (i==5) m)))/\∀(F:Bool) (k7:Nat->Value) (f:World),o F f->al F ((rI f (ab_ b (0+1)) λa6=>(rI f (ab_ b 0) λa7=>(rI f (ab_ b 0) λa8=>PC_ 47 #[.pointer d,.ii a6,.bool (a7==5),.bool (a8==4)] f (kX_ 53 λa9 b0=>St 53 (ab_ n 0) a9 b0 λH=>(Ld 53 (ab_ n 0) H λb1=>rt A b1 H)) (pE A))))) (al (i==6) ((dr d λb2 b3=>(rI f (ad b2 (b3+2)) λb4=>(dr d λb5 b6=>PS f (ad b5 (b6+2)) (.ii (IntKind.wrap .i64 (b4+1))) λb7=>(∃s:Nat->Int->ZU,(∃p,s p 0 b7)/\∀(p:Nat) (j:Int) (k8:Nat->Value) (q:World),s p j q->(dr d λb8 b9=>(rS q (ad b8 b9) λk9 c0 l0=>al (decide (j<(c0:Int))) ((∀k,br q k->(dr d λc1 c2=>(rS k (ad c1 c2) λc3 c4 l1=>(ix_ c3 j c4 λc5 c6=>(rP k (ad c5 (c6+Int.toNat j)) λc7=>(dr d λc8 c9=>(rI k (ad c8 (c9+2)) λd0=>PC_ 49 #[.pointer c7,.ii d0] k (kS_ λd1 d2 d3 d4=>PC_ 48 #[.pointer d,.slice d1 d2 d3] d4 (k0_ λd5=>(∃I,I<p/\s I (IntKind.wrap .i64 (j+1)) d5)) (pZ A)) (pZ A))))))))) (St 53 (ab_ n 0) (.agg #[.ii 0,.ii 0,.ii 0,.ii 0,.slice none 0 0,.slice none 0 0,.slice none 0 0,.bool false]) q λJ=>(Ld 53 (ab_ n 0) J λd6=>rt A d6 J))))))))) (G f)))))/\∀(l2:Nat->Value) (a:World),G a->(rI a (ab_ b 0) λd7=>al (decide (d7<1)) (St 53 (ab_ n 0) (.agg #[.ii 2,.ii 0,.ii 0,.ii 0,.slice none 0 0,.slice none 0 0,.slice none 0 0,.bool false]) a λK=>(Ld 53 (ab_ n 0) K λd8=>rt A d8 K)) ((rI a (ab_ b 0) λd9=>al (decide (d9>12)) (St 53 (ab_ n 0) (.agg #[.ii 2,.ii 0,.ii 0,.ii 0,.slice none 0 0,.slice none 0 0,.slice none 0 0,.bool false]) a λL=>(Ld 53 (ab_ n 0) L λe0=>rt A e0 L)) ((∃t:ZU,((rI a (ab_ b (0+1)) λe1=>al (decide (e1<0)) ((∀c,br a c->St 53 (ab_ n 0) (.agg #[.ii 1,.ii 0,.ii 0,.ii 0,.slice none 0 0,.slice none 0 0,.slice none 0 0,.bool false]) c λM=>(Ld 53 (ab_ n 0) M λe2=>rt A e2 M))) ((rI a (ab_ b (0+1)) λe3=>(dr d λe4 e5=>(rS a (ad e4 e5) λl3 e6 l4=>al (decide (e3>=(e6:Int))) ((∀c,br a c->St 53 (ab_ n 0) (.agg #[.ii 1,.ii 0,.ii 0,.ii 0,.slice none 0 0,.slice none 0 0,.slice none 0 0,.bool false]) c λN=>(Ld 53 (ab_ n 0) N λe7=>rt A e7 N))) ((rI a (ab_ b 0) λe8=>al (e8==2) ((rI a (ab_ b (0+2)) λe9=>al (decide (e9<0)) ((∀c,br a c->St 53 (ab_ n 0) (.agg #[.ii 1,.ii 0,.ii 0,.ii 0,.slice none 0 0,.slice none 0 0,.slice none 0 0,.bool false]) c λO=>(Ld 53 (ab_ n 0) O λf0=>rt A f0 O))) ((rI a (ab_ b (0+2)) λf1=>(dr d λf2 f3=>(rS a (ad f2 f3) λl5 f4 l6=>al (decide (f1>=(f4:Int))) ((∀c,br a c->St 53 (ab_ n 0) (.agg #[.ii 1,.ii 0,.ii 0,.ii 0,.slice none 0 0,.slice none 0 0,.slice none 0 0,.bool false]) c λQ=>(Ld 53 (ab_ n 0) Q λf5=>rt A f5 Q))) ((rI a (ab_ b (0+2)) λf6=>(rI a (ab_ b (0+1)) λf7=>(∀c,br a c->al (f6==f7) (St 53 (ab_ n 0) (.agg #[.ii 1,.ii 0,.ii 0,.ii 0,.slice none 0 0,.slice none 0 0,.slice none 0 0,.bool false]) c λR=>(Ld 53 (ab_ n 0) R λf8=>rt A f8 R)) (t c))))))))))) ((∀c,br a c->t c))))))))))/\∀(l7:Nat->Value) (l:World),t l->(dr d λf9 g0=>(rS l (ad f9 g0) λg1 g2 l8=>(rI l (ab_ b (0+1)) λS=>(ix_ g1 S g2 λg3 g4=>(rP l (ad g3 (g4+Int.toNat S)) λg=>(∀P,br l P->(rI P (ab_ b 0) λh=>al (h==1) ((Ld 38 (ab_ e 0) P λg5=>PC_ 50 #[.pointer g,g5] P (kX_ 53 λg6 g7=>St 53 (ab_ n 0) g6 g7 λT=>(Ld 53 (ab_ n 0) T λg8=>rt A g8 T)) (pE A))) (al (h==2) ((∀r,br P r->(rI r (ab_ b (0+2)) λg9=>(dr d λh0 h1=>(rI r (ad h0 (h1+2)) λh2=>PC_ 51 #[.pointer g,.ii g9,.ii h2] r (kS_ λh3 h4 h5 h6=>PC_ 48 #[.pointer d,.slice h3 h4 h5] h6 (k0_ λh7=>St 53 (ab_ n 0) (.agg #[.ii 0,.ii 0,.ii 0,.ii 0,.slice none 0 0,.slice none 0 0,.slice none 0 0,.bool false]) h7 λU=>(Ld 53 (ab_ n 0) U λh8=>rt A h8 U)) (pZ A)) (pZ A)))))) (al (h==7) ((rI P (ab_ b (0+2)) λh9=>PC_ 52 #[.pointer g,.ii h9] P (kI_ λi0 i1=>St 53 (ab_ n 0) (.agg #[.ii i0,.ii 0,.ii 0,.ii 0,.slice none 0 0,.slice none 0 0,.slice none 0 0,.bool false]) i1 λV=>(Ld 53 (ab_ n 0) V λi2=>rt A i2 V)) (pE A))) (al (h==8) (PC_ 53 #[.pointer g] P (kI_ λi3 i4=>St 53 (ab_ n 0) (.agg #[.ii i3,.ii 0,.ii 0,.ii 0,.slice none 0 0,.slice none 0 0,.slice none 0 0,.bool false]) i4 λW=>(Ld 53 (ab_ n 0) W λi5=>rt A i5 W)) (pE A)) (al (h==9) ((rI P (ab_ e 0) λi6=>(rI P (ab_ e (0+1)) λi7=>(rI P (ab_ b (0+2)) λi8=>PC_ 54 #[.pointer g,.ii i6,.ii i7,.ii i8] P (kX_ 53 λi9 j0=>St 53 (ab_ n 0) i9 j0 λX=>(Ld 53 (ab_ n 0) X λj1=>rt A j1 X)) (pE A))))) (al (h==10) ((rI P (ab_ e 0) λj2=>(rI P (ab_ e (0+1)) λj3=>PC_ 55 #[.pointer g,.ii j2,.ii j3] P (kX_ 53 λj4 j5=>St 53 (ab_ n 0) j4 j5 λY=>(Ld 53 (ab_ n 0) Y λj6=>rt A j6 Y)) (pE A)))) (al (h==11) ((rI P (ab_ e (0+2)) λj7=>(rI P (ab_ b (0+2)) λj8=>PC_ 56 #[.pointer g,.ii j7,.ii j8] P (kX_ 53 λj9 k1=>St 53 (ab_ n 0) j9 k1 λZ=>(Ld 53 (ab_ n 0) Z λk2=>rt A k2 Z)) (pE A)))) (al (h==12) ((rI P (ab_ b (0+2)) λk3=>PC_ 57 #[.pointer g,.ii k3] P (k0_ λk4=>St 53 (ab_ n 0) (.agg #[.ii 0,.ii 0,.ii 0,.ii 0,.slice none 0 0,.slice none 0 0,.slice none 0 0,.bool false]) k4 λa2=>(Ld 53 (ab_ n 0) a2 λk5=>rt A k5 a2)) (pE A))) (St 53 (ab_ n 0) (.agg #[.ii 0,.ii 0,.ii 0,.ii 0,.slice none 0 0,.slice none 0 0,.slice none 0 0,.bool false]) P λa3=>(Ld 53 (ab_ n 0) a3 λk6=>rt A k6 a3)))))))))))))))))))))))):YX 20 #[.pointer d,.agg #[.ii u,.ii v,.ii w,.ii x,.ii y,.ii z,.ii B,.ii D,.ii C,.ii E]] b A:=DC wY Tryz.func20 rfl a0
def Ud(P:bF)(n:Int):Prop:=0<=n/\n<P.ay
def lQ(n:bF)(P:aR):Prop:=∀a∈P.dP.asked.map (·.1),Ud n a
def Bz(n:bF)(P:bt):Prop:=Ud n P.lX/\Ud n P.bl
structure fT (c:bF) (X:cI):Prop where
 bE:∀m∈X.bE,Bz c m
 dP:∀R∈X.ay,lQ c R
 len:X.ay.length=c.ay.toNat
section
variable {c:bF} {X:cI} {k j:Nat} {i:Int} {R R':aR} {s:eS} {ms:List bt} {m:bt}
def lQ.of(n:lQ c R)(P:R'.dP=R.dP):lQ c R':=by unfold lQ;rw[P];exact n
def PT{n ms:List bt}(P:m∈sB n ms):m∈n\/m∈ms:=(Q6.1 P).imp id List.mem_of_mem_take
def fT.put(n:fT c X)(a:lQ c R')(b:∀m∈ms,Bz c m):fT c (X.put j R' ms):=
 ⟨λm P=>(PT P).elim (n.bE m) (b m),λd e=>(List.mem_or_eq_of_mem_set e).elim (n.dP d) λf=>f▸a,by show(X.ay.set _ R').length=_;rw[List.length_set];exact n.len⟩
def fT.set(n:fT c X)(P:lQ c R'):fT c ⟨X.ay.set j R',X.bE,X.now⟩:=
 ⟨n.bE,λa b=>(List.mem_or_eq_of_mem_set b).elim (n.dP a) λd=>d▸P,by show(X.ay.set _ R').length=_;rw[List.length_set];exact n.len⟩
def PU(n:m∈dv a2 e):m∈a2:=by
 unfold dv at n;split at n
 ·exact(List.eraseIdx_sublist ..).subset n
 ·exact n
def BA(n:cN a2 e=some m):m∈a2:=by
 unfold cN at n;split at n
 ·exact QZ n
 ·cases n
def fT.take(n:fT c X):fT c ⟨X.ay,dv X.bE e,X.now⟩:=⟨λm P=>n.bE m (PU P),n.dP,n.len⟩
def PV(c:bF)(i:Int)(R:aR)(n:lx):(et c i R n).2.2.dP=R.dP:=by
 unfold et
 cases R.log with
 |none=>rfl
 |some P=>
  dsimp only;split
  ·rfl
  split
  ·split<;>exact(rA c R _).2
  ·rfl
def Iu(c:bF)(R:aR):(eW c R).2.dP=R.dP:=by
 unfold eW
 cases R.log with
 |none=>rfl
 |some n=>
  dsimp only;split<;>rfl
def Sh(n:lQ c R):lQ c (eD c i R s).2:=by
 unfold eD;split
 ·exact n.of (PV c i R s.cmd)
 split
 ·intro a P
  unfold p_ at P;rw[lJ]at P;simp at P
 split
 ·exact n.of (Iu c R)
 split
 ·exact n
 split
 ·exact n
 split
 ·exact n
 ·exact n
def Iv(P:lQ c R)(d:Ud c i)(e:Bz c m):lQ c (bD c i R m).2.2/\∀a∈(bD c i R m).1,Bz c a:=by
 have g:lQ c {R with dP:=R.dP.tT m.bl m.vec R.S.vec}:=λh b=>by
  have b:h∈(R.dP.tT m.bl m.vec R.S.vec).asked.map (·.1):=b;unfold iO.tT at b;dsimp only at b;split at b
  ·exact P h (Iw b)
  ·exact P h b
 unfold bD
 cases R.log with
 |none=>exact⟨P,sM⟩
 |some u=>
  dsimp only;split
  ·exact⟨P,sM⟩
  split
  ·exact⟨P,sM⟩
  split
  ·unfold lZ
   dsimp only;split
   ·exact⟨P.of rfl,λa n=>by rw[List.mem_singleton.1 n];exact⟨e.2,d⟩⟩
   ·have o:=(rA c {R with waits:=(je c R m.events).2} (je c R m.events).1).2
    split
    ·exact⟨P.of o,sM⟩
    ·exact⟨P.of o,λa n=>by rw[List.mem_singleton.1 n];exact⟨e.2,d⟩⟩
  split
  ·refine⟨g,λa n=>?_⟩
   unfold j_ at n;split at n
   ·simp at n
   have f:∀(j:Prop) [Decidable j] (k:bt),a∈(if j then [k]else [])->a=k:=λj _ k l=>by
    split at l
    ·exact List.mem_singleton.1 l
    ·simp at l
   dsimp only at n;generalize q:(if 0<(R.S.missing m.vec (max 1 (min c.chunk 32))).length then [(⟨3,i,m.bl,[],R.S.missing m.vec (max 1 (min c.chunk 32))⟩:bt)]else [])=r at n;generalize s:(if m.kind=1/\(kv m.vec R.S.vec=2\/kv m.vec R.S.vec=3)then [(⟨2,i,m.bl,R.S.vec,[]⟩:bt)]else [])=t at n
   by_cases p:(r++t).isEmpty=true
   ·rw[Zx p]at n
    rw[List.mem_singleton.1 n];exact⟨e.2,d⟩
   ·rw[Zq p]at n
    rcases Q6.1 n with n|n
    ·rw[<-q]at n;rw[f _ _ n];exact⟨e.2,d⟩
    ·rw[<-s]at n;rw[f _ _ n];exact⟨e.2,d⟩
  split
  ·exact⟨g,sM⟩
  ·exact⟨g,λa n=>by rw[List.mem_singleton.1 n];exact⟨e.2,d⟩⟩
def Ix(n:fT c X){P:Option bt}(f:∀m,P=some m->Bz c m):fT c (fp c X P).2:=by
 unfold fp
 cases P with
 |none=>exact n
 |some m=>
  dsimp only;split
  ·exact n
  ·rename_i R a
   obtain⟨j,g,a⟩:=dV a;have b:=f m rfl;obtain⟨d,e⟩:=Iv (n.dP R (QZ a)) b.1 b;rw[g]at d e⊢;exact n.put d e
def PW(d:lQ c R)(f:Ud c i)(P:Int):lQ c (im i R P).2/\∀e∈(im i R P).1,Bz c e:=by
 unfold im;dsimp only;refine⟨λb n=>?_,λe g=>?_⟩
 ·have h:=oA R.dP.cO P (R.dP.open.take R.dP.open.length) ([],R.dP.asked) λb n=>by
   have n:=List.mem_of_mem_take n;unfold iO.open at n;exact(List.mergeSort_perm _ _).mem_iff.1 n
  have n:b∈(R.dP.KN P).asked.map (·.1):=n;unfold iO.KN iO.ix at n;rw[h]at n;exact d b n
 ·obtain⟨a,j,rfl⟩:=Xk.1 g
  have:=Mn _ _ _ j;exact⟨d a ((List.mergeSort_perm _ _).mem_iff.1 this),f⟩
def KO(n:fT c X):fT c (gv X j):=by
 unfold gv;split
 ·exact n
 ·rename_i R P
  have a:=(Qv.1 P).1;rw[n.len]at a;obtain⟨b,d⟩:=PW (c:=c) (i:=(j:Int)) (n.dP R (QZ P)) ⟨oM,oM⟩ X.now;exact n.put b d
def Iy:∀(n:List Nat) {X:cI},fT c X->fT c (n.foldl gv X)
 |[],_,P=>P
 |j::n,_,P=>Iy n (KO P)
def Py(n:fT c X):fT c (bk c X s).2:=by
 unfold bk;split
 ·exact Ix n.take λm P=>n.bE m (BA P)
 split
 ·exact Ix n λm P=>n.bE m (BA P)
 split
 ·exact n.take
 split
 ·exact Iy _ (X:=⟨X.ay,X.bE,X.now+1⟩) ⟨n.bE,n.dP,n.len⟩
 split
 ·exact n
 split
 ·exact n
 ·rename_i R a
  obtain⟨j,f,a⟩:=dV a;have g:=(Qv.1 a).1;rw[n.len]at g;have b:=n.dP R (QZ a);rw[f];split
  ·split
   ·exact n
   ·rename_i P
    have d:Ud c s.m:=by
     cases e:cH X.ay s.m with
     |none=>exact Zz (.inl (by rw[e];rfl)) P
     |some l=>
      obtain⟨o,p,h⟩:=dV e;have:=(Qv.1 h).1;rw[n.len]at this;exact⟨oM,oM⟩
    unfold eV;split
    ·exact n.put b sM
    ·refine n.put (λi H=>?_) λq k=>by rw[List.mem_singleton.1 k];exact⟨d,show Ud c (j:Int)from⟨oM,oM⟩⟩
     rcases Iz.1 H with rfl|H
     ·exact d
     ·exact b i H
  ·exact n.set (Sh b)
def RY(d:(ur c).1=0)(a:(bP c 0).2.dP.asked=[]):fT c (ur c).2 where
 bE:=λm b=>by cases b
 dP:=λR n=>by
  have n:R∈List.replicate c.ay.toNat (bP c 0).2:=n;rw[(List.mem_replicate.1 n).2];intro e P;rw[a]at P;simp at P
 len:=by show(List.replicate c.ay.toNat (bP c 0).2).length=_;simp
end
structure qd where
 ra:YQ
 rn:Nat
 rc:Nat
 ps:List Nat
 fa:YQ
 fn:Nat
 fc:Nat
def xM(a:Nat)(n:qd)(c:Int)(e:List bt)(b:World)(G:ZN):Prop:=G a/\b.heap[a]? =some (.cells #[.slice n.ra n.rn n.rc,.slice n.fa n.fn n.fc,ZH c] 71 (0,0))/\aM UR 64 (λP=>aD n.ra=some P) b n.ra n.rn n.rc n.ps/\(∀P,aD n.ra=some P->G P/\P≠a)/\
 ∃(d:List Gk) (D:ZN),aM Eg 127 (λP=>aD n.fa=some P) b n.fa n.fn n.fc d/\d.map (·.m)=e/\(∀P∈d,P.In b D)/\(∀P,D P->G P/\aD n.fa≠some P/\P≠a/\aD n.ra≠some P)/\(∀P,aD n.fa=some P->G P/\P≠a/\aD n.ra≠some P)/\e.length<=1024
abbrev dH(a:World)(b:ZN)(n:Nat->Nat)(c:Nat)(d:qd)(P:Int)(e:bF)(f:List (Nat×aR))(g:List bt):Prop:=aP a b n (fw (xM c d P g) (λ_ _=>True) e f)
section
variable {w w' w0 w1 w2 wb:World} {p q i k g:Nat} {F F1 F' G G' T D E:ZN} {cls:Nat->Nat} {h h2:qd} {c:bF} {X Y:cI} {s:eS} {x:eT} {v:Value} {now:Int} {rs:List (Nat×aR)} {bE ms:List bt} {y:Nat×aR} {R R':aR}
def fC:kr (fw (xM q h now bE) (λ_ _=>True) c rs):=Av (λw w' G T i a b=>by
 obtain⟨d,j,k,e,l,D,m,h2,o,f,g,p⟩:=i;exact⟨d,a.get j (b q d),k.af a λn P=>b n (e n P).1,e,l,D,m.af a λn P=>b n (g n P).1,h2,λn P=>(o n P).af a λn P=>b n (f n P).1,f,g,p⟩) λ_ _ _ _ _ _ _=>trivial
def dH.ah(n:dH w F cls q h now c rs bE)(P:ai w w'):dH w' F cls q h now c rs bE:=aP.ah n fC P
def dH.s0(P:dH w F cls q h now c rs bE):xM q h now bE w (λn=>F n/\cls n=0):=P.at' 0
def dH.cell(n:dH w F cls q h now c rs bE):w.heap[q]? =some (.cells #[.slice h.ra h.rn h.rc,.slice h.fa h.fn h.fc,ZH now] 71 (0,0)):=n.s0.2.1
def dH.fn(n:dH w F cls q h now c rs bE):h.fn=bE.length/\bE.length<=1024:=by
 obtain⟨-,-,-,-,b,D,P,h2,d,e,f,a⟩:=n.s0;have:=P.len dC;exact⟨by rw[this,<-h2,Q8],a⟩
def dH.rn(n:dH w F cls q h now c rs bE)(P:h.ps=rs.map (·.1)):h.rn=rs.length:=by
 have:=n.s0.2.2.1.len dC;rw[P,Q8]at this;exact this
def dH.ptr(b:dH w F cls q h now c rs bE)(d:h.ps=rs.map (·.1))(f:rs[i]? =some y)(o:rs.length<=1000):∃n P,h.ra=some ⟨n,P,none⟩/\i<h.rn/\w.cell? ⟨n,P+i,none⟩=some (ZL y.1)/\F n/\cls n=0:=by
 have p:=b.rn d;have r:=(Qv.1 f).1;obtain⟨n,P,g,s,j,-,h2,a,e,k⟩:=(b.s0.2.2.1.row (bytes:=8) dC (by rw[d,Q8];unfold aK;omega)).vW (i:=i) oM;have l:g=y.1:=by rw[d,Q9,f]at a;injection a with a;exact a.symm
 obtain⟨rfl,-⟩:=k;have e:=e 0 dC;subst l;have m:=b.s0.2.2.2.1 n h2;exact⟨n,P,j,oM,by simpa[show UR.k=1 from rfl]using e,m.1⟩
def dH.dU(e:dH w F cls q h now c rs bE){f g:Nat}{D1:ZN}{fly':List bt}{now':Int}(j:ak (λn=>(F n/\cls n=0)/\aD h.ra≠some n) w w')(s:w'.heap[q]? =some (.cells #[.slice h.ra h.rn h.rc,.slice d f g,ZH now'] 71 (0,0)))(m:aM Eg 127 (λn=>aD d=some n) w' d f g e7)(t:e7.map (·.m)=fly')(u:∀n∈e7,n.In w' D1)(a:∀n,D1 n->n<w'.heap.size/\aD d≠some n/\n≠q/\aD h.ra≠some n/\(F n->cls n=0))(k:∀n,aD d=some n->n≠q/\aD h.ra≠some n/\(F n->cls n=0))(v:fly'.length<=1024):
  ∃F' P,dH w' F' P q ⟨h.ra,h.rn,h.rc,h.ps,d,f,g⟩ now' c rs fly'/\ak F w w'/\(∀n,F' n->F n\/D1 n\/aD d=some n)/\(∀n,D1 n->P n=0)/\∀n,D1 n->F' n:=by
 obtain⟨l,J,x,i,-⟩:=e.s0;have y:=m.aC;have K:=e.aC q l.1;have L:=j.size;have z:∀n,aD h.ra=some n->n<w.heap.size:=λn B=>e.aC n (i n B).1.1;obtain⟨F',P,A,h2,C,M,E⟩:=aP.DI e fC (k:=0) (w':=w') (G':=λn=>n=q\/aD h.ra=some n\/D1 n\/aD d=some n) (C2:=fw (xM q ⟨h.ra,h.rn,h.rc,h.ps,d,f,g⟩ now' fly') (λ_ _=>True) c rs) (j.mono λn _ B=>B.1)
  (λn B o=>by
   rcases B with rfl|B|B|B
   ·exact l.2
   ·exact(i n B).1.2
   ·exact(a n B).2.2.2.2 o
   ·exact(k n B).2.2 o)
  (λn B=>by
   rcases B with rfl|B|B|B
   ·omega
   ·have:=z n B;omega
   ·exact(a n B).1
   ·exact y n B)
  ⟨.inl rfl,s,x.af j λn B H=>H.2 B,λn B=>⟨.inr (.inl B),(i n B).2⟩,e7,D1,m,t,u,λn B=>⟨.inr (.inr (.inl B)),(a n B).2.1,(a n B).2.2.1,(a n B).2.2.2.1⟩,λn B=>⟨.inr (.inr (.inr B)),(k n B).1,(k n B).2.1⟩,v⟩
  (λp G I b=>by
   match p,I,b with
   |1,_,b=>exact b
   |p+2,_,b=>exact b)
 have r:∀n,D1 n->F' n/\P n=0:=λn B=>by
  have:(λn=>F' n/\P n=0) n:=by rw[E];exact .inr (.inr (.inl B))
  exact this
 refine⟨F',P,A,h2,λn B=>?_,λn B=>(r n B).2,λn B=>(r n B).1⟩;rcases C n B with B|rfl|B|B
 ·exact .inl B.1
 ·exact .inl l.1
 ·exact .inl (i n B).1.1
 ·exact .inr B
def OD(T:dH w F cls q h now c rs bE){l lc:Nat}(K:aM Eg 127 (λn=>aD d=some n) w d l lc e7)(a6:e7.map (·.m)=ms)(b3:∀n∈e7,n.In w f)(L:∀n,f n->n<w.heap.size/\¬F n)(b4:∀n,aD d=some n->¬F n/\¬f n)(d4:l<=1000000):
  YX 48 #[ZL q,.slice d l lc] w (Ok λv w'=>v= .tuple #[]/\∃(h':qd) (F':ZN) (u:Nat->Nat),dH w' F' u q h' now c rs (sB bE ms)/\h'.ps=h.ps/\ak F w w'/\∀n,F' n->F n\/f n\/w.heap.size<=n):=by
 have b5:=K.len dC;have d5:=K.jD;have d7:=K.aC;have d6:ms.length=l:=by rw[b5,<-a6,Q8]
 have d8:=T.fn.2;refine uR ⟨λa3 a5 w'=>∃(a:Nat) (h2:qd) (m:ZN) (p:Nat->Nat),a5=a/\a<=l/\a3=l-a/\dH w' m p q h2 now c rs (bE++ms.take a)/\h2.ps=h.ps/\bE.length+a<=1024/\ak F w w'/\(∀n,m n->F n\/f n\/w.heap.size<=n)/\(∀n,m n->f n->p n=0)/\∀n,f n->aD h2.fa≠some n/\n≠q/\aD h2.ra≠some n,
  ⟨_,0,h,F,cls,rfl,Qj _,rfl,by simpa using T,rfl,oM,ak.refl _,λn B=>.inl B,λn B b=>Zz B (L n b).2,λn B=>?_⟩,?_⟩
 ·obtain⟨y,a4,a7,M,U,D,V,W,e3,g,e,e6⟩:=T.s0
  have N:=(L n B).2;exact⟨λP=>N (e n P).1.1,λP=>N (P▸y.1),λP=>N (M n P).1.1⟩
 rintro a3 _ _ w1 ⟨a,h2,m,p,rfl,hj,rfl,z,X,d9,O,o,b6,i⟩;have e0:=z.fn;have a8:(bE++ms.take a).length=bE.length+a:=by rw[QX,Qy];omega
 have j:(a=l\/bE.length+a=1024)->bE++ms.take a=sB bE ms:=λb=>by
  unfold sB;rcases b with b|b
  ·rw[Qz oM,Qz oM]
  ·rw[show 1024-bE.length=a by omega]
 refine al.dec (λe1=>⟨q,0,rfl,_,_,_,ae z.cell rfl,al.dec (λe2=>?_) (λe4=>Ok.mk ⟨rfl,h2,m,p,by rw[<-j (.inr oM)];exact z,X,O,o⟩)⟩) (λe8=>Ok.mk ⟨rfl,h2,m,p,by rw[<-j (.inl oM)];exact z,X,O,o⟩);intro w2 d2;have Q:ai w1 w2:=d2.af;have a9:=z.ah Q;have R:ak F w w2:=O.then (ai.af Q);have e9:=R.size;have b9:=K.af R λn B=>(b4 n B).1;obtain⟨n,b0,x,es,rfl,B,-,hx,A,rfl,-⟩:=(b9.row (bytes:=72) dC ba).vW (i:=a) oM;have b7:=(b3 x (QZ hx)).af R λn B=>(L n B).2;have c0:=A 0 dC;have c1:=A 1 dC;have c2:=A 2 dC;have c3:=A 3 dC;have c4:=A 4 dC;refine⟨λ_=>False,q,0,rfl,id,_,_,_,ae a9.cell rfl,n,b0,rfl,oM,oM,_,_,_,_,_,_,_,_,_,c0,c1,c2,c3,c4,PA.mk λr C s3 g3=>⟨ai.af C,?_⟩⟩;have Y:=a9.ah C;obtain⟨y,a4,a7,M,U,D,V,W,e3,g,e,e6⟩:=Y.s0;have N:=V.len dC;have f2:U.length=bE.length+a:=by rw[<-a8,<-W,Q8]
 have S:=Y.aC;have c5:ak F w r:=R.then (ai.af C);have f3:=c5.size;have f4:=Q.size;refine eH (c:=Eg) (x:=x) (D:=λ_=>False) V x_ g3 ⟨rfl,trivial⟩ (λn B=>B.elim) ba (by unfold maxLen;omega) λs c7 w7 F7 b1 t c6=>⟨_,_,_,rfl,q,0,rfl,PS.mk (t.get a4 λP=>(e q P).2.1 rfl) sM λZ E s8 g8=>?_⟩
 have H:∀n,aD s=some n->aD h2.fa=some n\/r.heap.size<=n:=λn B=>(c6 n (b1.self n B)).imp id λh=>h.resolve_left id;have z7:=t.size;have f5:=S q y.1;have b2:∀n,aD s=some n->n≠q:=λn B P=>by
  rcases H n B with h|h
  ·exact(e n h).2.1 P
  ·omega
 have c8:∀n,aD s=some n->aD h2.ra≠some n:=λn B P=>(H n B).elim (λh=>(e n h).2.2 P) λh=>by have:=S n (M n P).1.1;omega
 have a0:∀n,n<r.heap.size->aD h2.fa≠some n->aD s≠some n:=λn B I P=>(H n P).elim I oM;have k:∀n,f n->n<r.heap.size:=λn B=>by have:=(L n B).1;omega
 have kk:ak (λn=>(m n/\p n=0)/\aD h2.ra≠some n) r Z:=(t.mono λn _ B=>⟨(e n B).1,(e n B).2.2⟩).then (E.mono λn _ B=>by
  have B:n=q:=B;subst B;exact⟨y,λP=>(M n P).2 rfl⟩)
 have c9:ak (λn=>aD h2.fa=some n\/n=q) r Z:=(t.mono λn _ B=>.inl B).then (E.mono λn _ B=>.inr B);have d0:aM Eg 127 (λn=>aD s=some n) Z s (h2.fn+1) c7 (U++[x]):=b1.alone.af E λn B P=>b2 n B P;have d1:ms[a]? =some x.m:=by rw[<-a6,Q9,hx];rfl
 obtain⟨F9,J,a1,b8,d3,a2,-⟩:=Y.dU (D1:=λn=>D n\/f n) (fly':=bE++ms.take (a+1)) kk g8 d0 (by rw[Q3,W,Qw,d1,XQ];rfl)
  (λn B=>by
   rcases Q6.1 B with B|B
   ·exact(((e3 n B).af t λn B=>(g n B).2.1).af E λn B P=>(g n B).2.2.1 P).mono λn B=>.inl B
   ·simp at B;subst B
    exact((((b7.af C λ_ _ h=>h).af t λn B=>(i n B).1).af E λn B P=>(i n B).2.1 P).mono λn B=>.inr B))
  (λn B=>by
   rcases B with B|B
   ·have h1:=S n (g n B).1.1
    exact⟨oM,a0 n h1 (g n B).2.1,(g n B).2.2.1,(g n B).2.2.2,λ_=>(g n B).1.2⟩
   ·have h1:=k n B
    exact⟨oM,a0 n h1 (i n B).1,(i n B).2.1,(i n B).2.2,λI=>b6 n I B⟩)
  (λn B=>⟨b2 n B,c8 n B,λI=>(H n B).elim (λh=>(e n h).1.2) λh=>by have:=S n I;omega⟩)
  (by rw[QX,Qy];omega)
 refine⟨_,oM,a+1,_,F9,J,aq oM,oM,rfl,a1,X,oM,(O.then (ai.af (Q.then C))).new c9 (λn B=>?_),λn B=>?_,λn _ b=>a2 n (.inr b),λn b=>⟨a0 n (k n b) (i n b).1,(i n b).2⟩⟩
 ·have h9:F n\/f n\/w.heap.size<=n:=B.elim (λh=>o n (e n h).1.1) λP=>o n (by rw[P];exact y.1)
  rcases h9 with h|h|h
  ·exact .inl h
  ·exact(B.elim (λP=>(i n h).1 P) λP=>(i n h).2.1 P).elim
  ·exact .inr h
 ·rcases d3 n B with B|(B|B)|B
  ·exact o n B
  ·exact o n (g n B).1.1
  ·exact .inr (.inl B)
  ·rcases H n B with h|h
   ·exact o n (e n h).1.1
   ·exact .inr (.inr oM)
end
section
variable {w w' w0 w1 w2 wb:World} {p q i k g:Nat} {F F1 F' G G' T D E:ZN} {cls:Nat->Nat} {h h2:qd} {c:bF} {X Y:cI} {s:eS} {x:eT} {v:Value} {now:Int} {rs:List (Nat×aR)} {bE ms:List bt} {y:Nat×aR} {R R':aR} {ay:List aR}
def dq(w0 w:World)(q:Nat)(F:ZN)(c:bF)(X:cI):Prop:=
 ∃h cls rs,dH w F cls q h X.now c rs X.bE/\h.ps=rs.map (·.1)/\X.ay=rs.map (·.2)/\rs.length=c.ay.toNat/\fZ c 0/\Env w0 w F
def dq.af(b:dq w0 w q F c X)(a:ak T w w')(d:∀n,F n->¬T n)(e:∀n,T n->w0.heap.size<=n):dq w0 w' q F c X:=by
 obtain⟨h,cls,rs,f,h2,g,i,j,P⟩:=b;exact⟨h,cls,rs,aP.af f fC a d,h2,g,i,j,⟨P.nU,P.laid,P.gr.new a λn k=>.inr (e n k),P.aC⟩⟩
def dq.ah(n:dq w0 w q F c X)(P:ai w w'):dq w0 w' q F c X:=n.af P (λ_ _ h=>h) λ_ h=>h.elim
def dq.aC(P:dq w0 w q F c X):∀n,F n->n<w.heap.size:=by
 obtain⟨h,cls,rs,a,-⟩:=P;exact a.aC
def dq.env(n:dq w0 w q F c X):Env w0 w F:=by
 obtain⟨h,cls,rs,a,h2,b,d,e,P⟩:=n;exact P
def lk:Ma (λw F X=>dq w0 w q F c X) w0.heap.size:=λ_ _ _ _ _ h n P a=>h.af n P a
abbrev nP(w0 w:World)(q:Nat)(F:ZN)(c:bF)(k:Nat)(n:eT×cI)(v:Value)(w':World):Prop:=HD (λw F X=>dq w0 w q F c X) w F k n v w'
def dq.tj(n:dH w F cls q h now c (rs.set i (y.1,R')) bE)(P:rs[i]? =some y)(a:h.ps=rs.map (·.1))(b:ay=rs.map (·.2))(d:rs.length=c.ay.toNat)(e:fZ c 0)(f:Env w0 w F):dq w0 w q F c ⟨ay.set (i:Int).toNat R',bE,now⟩:=
 ⟨h,cls,_,n,by rw[a];exact(gg (f:=(·.1)) (b:=(y.1,R')) P rfl).symm,by dsimp only;rw[b,List.map_set,Qx],by rw[List.length_set];exact d,e,f⟩
def Ct(e:dH w F cls q h now c rs bE)(l:rs[i]? =some y)(m:bG w1 y.1 G' c i R')(o:bB (λn=>F n/\cls n=i+2) w G' w1)(p:eI w G' ms v w1)(J:ms.length<=10000):
  YX 48 #[ZL q,v] w1 (Ok λv w'=>v= .tuple #[]/\∃(d:qd) (F':ZN) (P:Nat->Nat),dH w' F' P q d now c (rs.set i (y.1,R')) (sB bE ms)/\d.ps=h.ps/\bB F w F' w'):=by
 obtain⟨F1,K,r,h2,-,-,s⟩:=rr e fC l m o;obtain⟨L,M,N,t,D,rfl,f,g,u,b,j⟩:=p;have x:=e.aC;have O:=f.len dC;have Q:t.length=ms.length:=by rw[<-g,Q8]
 have k:∀n,w.heap.size<=n->¬G' n->¬F1 n:=λn a z A=>(s n A).elim (λh=>by have:=x n h.1;omega) z;refine Calls.ok (OD r f g u (λn a=>⟨(b n a).2.1,k n (b n a).1 (b n a).2.2.2⟩) (λn a=>⟨k n (j n a).1 (j n a).2,λB=>(b n B).2.2.1 a⟩) oM) ?_;rintro _ w2 ⟨rfl,d,F',P,C,E,H,I⟩;have z1:=h2.af.size;exact⟨rfl,d,F',P,C,E,h2.af.new H h2.new,λn a=>(I n a).elim (h2.new n) λh=>h.elim (λh=>.inr (b n h).1) λh=>.inr oM⟩
def Ta(h:cN a2 e=none):dv a2 e=a2:=by unfold dv;rw[h];rfl
def LN(J:dq w0 w q F c X)(g7:fT c X)(A:fm k X)(hk:k<=1000){at':Int}{stays lost:Bool}(g8:lost=true->stays=false):
  YX 47 #[ZL q,ZH at',.bool stays,.bool lost] w (Ok (nP w0 w q F c (k+1) (if lost then(aX (if(cN X.bE at').isSome then 0 else 14),⟨X.ay,dv X.bE at',X.now⟩)else fp c ⟨X.ay,if stays then X.bE else dv X.bE at',X.now⟩ (cN X.bE at')))):=by
 have d3:=J.aC;have U:=J.env.gr.size;refine tO (PA.mk λw1 K s1 g1=>?_);obtain⟨h,cls,rs,f,d4,L,b3,M,he⟩:=J.ah K;have V:∀n,w.heap.size<=n->¬F n:=λn B P=>by have:=d3 _ P;omega
 have i9:=f.fn;have no:(at'<0\/(X.bE.length:Int)<=at')->lr ZP 53 (ZL w.heap.size) (.agg #[ZH 14,ZH 0,ZH 0,ZH 0,.slice none 0 0,.slice none 0 0,.slice none 0 0,.bool false]) w1 λw2=>ig ZP 53 (ZL w.heap.size) w2 λa5=>Ok (nP w0 w q F c (k+1) (if lost then(aX (if(cN X.bE at').isSome then 0 else 14),⟨X.ay,dv X.bE at',X.now⟩)else fp c ⟨X.ay,if stays then X.bE else dv X.bE at',X.now⟩ (cN X.bE at'))) (.returned a5) w2:=λW=>by
  have hl:=AM W;have P:(if lost then(aX (if(cN X.bE at').isSome then 0 else 14),(⟨X.ay,dv X.bE at',X.now⟩:cI))else fp c ⟨X.ay,if stays then X.bE else dv X.bE at',X.now⟩ (cN X.bE at'))=(aX 14,X):=by
   rw[Ta hl,hl]
   cases lost
   ·rw[ite_self];rfl
   ·rfl
  rw[P];exact Az lk (J.ah K) A.mono (bB.of K) U g1 rfl (Q4 _) (V _ (Q4 _))
 refine al.dec (λh1=>no (.inl h1)) (λh1=>⟨q,0,rfl,_,_,_,ae f.cell rfl,al.dec (λh2=>no (.inr oM)) (λh2=>⟨q,0,rfl,_,_,_,ae f.cell rfl,?_⟩)⟩);obtain⟨a,rfl⟩:∃a:Nat,at'=a:=⟨at'.toNat,oM⟩
 obtain⟨C,a8,a9,a4,d,D,e1,Y,e3,p,e5,e6⟩:=f.s0;have j0:d.length=X.bE.length:=by rw[<-Y,Q8]
 have b4:=e1.row (bytes:=72) dC ba;obtain⟨n,a7,x,es,g9,B,-,Z,W,rfl,-⟩:=b4.vW (i:=a) oM;have b7:=e3 x (QZ Z);have a0:cN X.bE (a:Int)=some x.m:=by
  unfold cN;rw[Zx oM,Qx,<-Y,Q9,Z];rfl
 have d0:dv X.bE (a:Int)=X.bE.eraseIdx a:=by unfold dv;rw[a0];rfl
 have d6:Bz c x.m:=g7.bE x.m (BA a0);rw[a0,d0];obtain⟨g,N⟩:∃g,(if stays then X.bE else X.bE.eraseIdx a)=g:=⟨_,rfl⟩
 rw[N];have d1:∀n,D n->n<w1.heap.size:=λn B=>f.aC n (p n B).1.1;refine⟨n,a7,g9,oM,oM,bA (es:=cV x.m x.va x.vn x.vc x.ea x.en x.ec) (k:=5) (dL _ _ _ _ _ _ _) rfl (λa1 ht=>by rw[Qx];exact W a1 ht) (PA.mk λw2 k2 s2 g2=>az (dL _ _ _ _ _ _ _) g2 rfl λs k3 s3 g3=>?_)⟩;have j:ai w1 s:=k2.new k3 λn B=>.inr (by have B:n=w1.heap.size:=B;omega);have z3:=j.size;have d7:=f.ah j;have h0:=j.get g1 id;refine⟨λw'=>∃(h2:qd) (m:ZN) (t:Nat->Nat),dH w' m t q h2 X.now c rs g/\h2.ps=h.ps/\bB F s m w'/\(∀n,D n->t n=0)/\x.In w' D/\w'.heap[w1.heap.size]? =some (.cells (cV x.m x.va x.vn x.vc x.ea x.en x.ec).toArray 127 (0,0)),?_,?_⟩
 ·refine al.mk (λu=>?_) (λu=>⟨h,F,cls,?_,rfl,bB.refl _ _,λn B=>(p n B).1.2,b7.af j λ_ _ h=>h,g3⟩)
  ·have u:stays=false:=by simpa using u
   obtain rfl:X.bE.eraseIdx a=g:=by rw[<-N,u];rfl
   refine⟨λa3 O ln lc a1 w'=>∃b:Nat,a1=b/\b<=h.fn/\a3=h.fn-b/\ai s w'/\aM Eg 127 (λn=>aD O=some n) w' O ln lc ((d.take b).eraseIdx a)/\∀n,aD O=some n->s.heap.size<=n,
    ⟨_,0,rfl,Qj _,rfl,ak.refl _,(aM.nil s).mono (λn B=>B.elim) (λn B=>(by cases B)),λn B=>(by cases B)⟩,?_⟩
   rintro a3 O ln lc _ _ w4 ⟨b,rfl,j1,rfl,l,E,o⟩;have r:=d7.ah l;have j3:=E.len dC;have i6:((d.take b).eraseIdx a).length<=1024:=by have:=List.length_eraseIdx_le (l:=d.take b) (i:=a);rw[Qy]at this;omega
   refine⟨q,0,rfl,_,_,_,ae r.cell rfl,al.dec (λj4=>al.dQ (λj5=>?_) (λd8=>?_)) (λj6=>?_)⟩
   ·obtain⟨b5,o5,x5,j7,d9,j8,-,h4,H,rfl,-⟩:=((b4.ah j).ah l).vW (i:=b) oM
    have c0:=H 0 dC;have c1:=H 1 dC;have c2:=H 2 dC;have c3:=H 3 dC;have c4:=H 4 dC;refine⟨q,0,rfl,_,_,_,ae r.cell rfl,b5,o5,d9,oM,oM,_,_,_,_,_,_,_,_,_,c0,c1,c2,c3,c4,?_⟩;refine Hn (c:=Eg) (x:=x5) (D:=λ_=>False) E x_ ⟨rfl,trivial⟩ (λn B=>B.elim) ba (by unfold maxLen;omega) λb0 c7 w7 F7 h6 k7 j9 h8=>⟨_,_,_,rfl,_,oM,b+1,aq oM,oM,rfl,l.new k7 λn B=>.inr (o n B),?_,λn B=>(h8 n B).elim (o n) λh=>by have:=l.size;omega⟩
    have P:(d.take (b+1)).eraseIdx a=(d.take b).eraseIdx a++[x5]:=by
     rw[Qw,h4];rcases Nat.lt_or_ge a b with h3|h3
     ·rw[List.eraseIdx_append_of_lt_length (by rw[Qy];omega)];rfl
     ·rw[List.eraseIdx_of_length_le (l:=d.take b) (by rw[Qy];omega),List.eraseIdx_of_length_le (by rw[QX,Qy];simp;omega)];rfl
    rw[P];exact h6.alone
   ·have d8:b=a:=oM
    refine⟨_,oM,b+1,aq oM,oM,rfl,l,?_,o⟩;have P:(d.take (b+1)).eraseIdx a=(d.take b).eraseIdx a:=by
     have h5:(d.take a).length=a:=by rw[Qy];omega
     rw[d8,Qw,Z,List.eraseIdx_append_of_length_le oM,h5,Nat.sub_self,List.eraseIdx_of_length_le (l:=d.take a) oM];show d.take a++[x].eraseIdx 0=d.take a;simp
    rw[P];exact E
   ·refine⟨q,0,rfl,PS.mk r.cell sM λQ e s5 g5=>?_⟩
    have h9:d.take b=d:=Qz oM;rw[h9]at E;have k0:=r.aC;obtain⟨m,t,q1,q2,q3,q4,-⟩:=r.dU (D1:=D) (fly':=X.bE.eraseIdx a) (now':=X.now) (e.mono λn _ P=>by
      have P:n=q:=P;subst P;exact⟨C,λP=>(a4 n P).2 rfl⟩) (by rw[g5];rfl) (E.af e λn B P=>by have P:n=q:=P;have:=o n B;have:=f.aC q C.1;omega) (by rw[map_eraseIdx,Y])
     (λn B=>(((e3 n ((List.eraseIdx_sublist ..).subset B)).af j λ_ _ h=>h).af l λ_ _ h=>h).af e λn B P=>(p n B).2.2.1 P)
     (λn B=>⟨by have:=d1 n B;have:=l.size;omega,λP=>by have:=o n P;have:=d1 n B;omega,(p n B).2.2.1,(p n B).2.2.2,λ_=>(p n B).1.2⟩)
     (λn B=>⟨λP=>by have:=o n B;have:=f.aC q C.1;omega,λP=>by have:=o n B;have:=f.aC n (a4 n P).1.1;omega,λA=>by have:=o n B;have:=f.aC n A;omega⟩)
     (by have:=List.length_eraseIdx_le (l:=X.bE) (i:=a);omega)
    refine⟨_,m,t,q1,rfl,⟨(ai.af l).then (e.mono λn _ P=>by have P:n=q:=P;rw[P];exact C.1),λn B=>?_⟩,q4,((b7.af j λ_ _ h=>h).af l λ_ _ h=>h).af e λn B P=>(p n B).2.2.1 P,e.get (l.get g3 id) λP=>by have P:w1.heap.size=q:=P;have:=f.aC q C.1;omega⟩;rcases q3 n B with B|B|B
    ·exact .inl B
    ·exact .inl (p n B).1.1
    ·exact .inr (o n B)
  ·have u:stays=true:=by simpa using u
   obtain rfl:X.bE=g:=by rw[<-N,u];rfl
   exact d7
 ·rintro _ w4 ⟨h2,m,t,r,b8,v,i0,e0,i1⟩
  have d2:∀n,w.heap.size<=n->n<s.heap.size->¬m n:=λn B k6 P=>(v.new n P).elim (V n B) λh=>by omega
  have b9:bB F w m w4:=bB.after (K.then j) v;have e7:=v.af.get h0 (V _ (Q4 _));have zz:w.heap.size<s.heap.size:=oM
  refine al.mk (λR=>?_) (λR=>?_)
  ·rw[Zx R]
   obtain rfl:X.bE.eraseIdx a=g:=by rw[<-N,g8 R];rfl
   exact Az lk ⟨h2,t,rs,r,by rw[b8];exact d4,L,b3,M,he.fK (bB.after j v)⟩ A.bE.mono b9 U e7 rfl (Q4 _) (d2 _ (Q4 _) zz)
  ·rw[Zq (by rw[R];simp)]
   intro Q d5;have e:ai w4 Q:=d5.af;have I:=r.ah e;have e8:=e.get i1 id;have a6:h2.ps=rs.map (·.1):=by rw[b8];exact d4
   have k8:=I.rn a6;obtain⟨m1,m2⟩:=d6.1;obtain⟨i,hi⟩:∃i:Nat,x.m.lX=i:=⟨x.m.lX.toNat,oM⟩
   have z:rs[i]? =some rs[i]:=Qq oM;generalize rs[i]=y at z;obtain⟨r1,r2,r3⟩:=M.ay;obtain⟨b6,o6,i2,i7,b1,k9⟩:=I.ptr a6 z oM;have hr:=cu.rep I z;have e9:Env w0 Q m:=(he.fK (bB.after j v)).ah e;have f3:y.2∈X.ay:=by rw[L];exact Xk.2 ⟨y,QZ z,rfl⟩
   have c5:=A.ay _ f3;have i3:=hr.waits;have i4:=M.Kd;have c6:=e0.af e λ_ _ h=>h;have f4:∀n,D n->n<Q.heap.size/\¬(m n/\t n=i+2):=λn B=>⟨by have:=d1 n B;have:=v.af.size;have:=e.size;omega,λP=>by have:=i0 n B;have:=P.2;omega⟩
   have a2:fp c ⟨X.ay,g,X.now⟩ (some x.m)=(aX (bD c i y.2 x.m).2.1,(⟨X.ay,g,X.now⟩:cI).put i (bD c i y.2 x.m).2.2 (bD c i y.2 x.m).1):=by
    unfold fp;dsimp only;rw[hi,wq,L,Q9,z];rfl
   rw[a2];refine⟨q,0,rfl,_,_,_,ae I.cell rfl,_,ae e8 rfl,b6,o6,i2,m1,oM,_,by rw[hi,Qx];exact b1,ar (dL _ _ _ _ _ _ _) e8 (PC.ok (xG hr e9.part c6.1 f4 c6.2 f4 (by have:=c5.evs;omega)) ?_)⟩;rintro _ w6 ⟨v1,G',rfl,S,f5,f8⟩;have g0:=sC c i y.2 x.m i3 i4.2;have g4:=xF c i y.2 x.m;generalize bD c i y.2 x.m=dl at S f5 g0 g4;obtain⟨oa,on,oc,L6,Do,rfl,S⟩:=S;refine⟨oa,on,oc,_,rfl,PC.ok (Ct I z f5 f8 ⟨oa,on,oc,L6,Do,rfl,S⟩ oM) ?_⟩;rintro _ w7 ⟨rfl,h7,F7,i8,i5,g6,T⟩;have hA:dq w0 w7 q F7 c ((⟨X.ay,g,X.now⟩:cI).put i dl.2.2 dl.1):=dq.tj i5 z (by rw[g6];exact a6) L b3 M (e9.fK T);have l0:=e.size;have l3:=v.af.size;exact⟨rfl,Az lk hA ((A.bE (f:=g)).put (c5.xH g0)) ((b9.ah e).trans T) U (T.af.get (e.get e7 id) (d2 _ (Q4 _) zz)) rfl (Q4 _) λP=>(T.new _ P).elim (d2 _ (Q4 _) zz) λh=>oM⟩
end
section
variable {w w' w0 w1 w2 wb:World} {p q i k g:Nat} {F F1 F' G G' T D E:ZN} {cls:Nat->Nat} {h h2:qd} {c:bF} {X Y:cI} {s:eS} {x:eT} {v:Value} {now:Int} {rs:List (Nat×aR)} {bE ms:List bt} {y:Nat×aR} {R R':aR} {ay:List aR}
def nP.rep{R':aR}(d:dH w F cls q h X.now c rs X.bE)(e:h.ps=rs.map (·.1))(f:X.ay=rs.map (·.2))(g:rs.length=c.ay.toNat)(j:fZ c 0)(l:Env w0 w F)(a:rs[i]? =some y)(m:du w x v w')(o:x.st.cells=[])(p:x.FC=[])(r:x.rows=[])(s:bG w' y.1 G' c i R')(t:bB (λb=>F b/\cls b=i+2) w G' w')(n:fm k X)(u:Fit (k+1) R'):
  nP w0 w q F c (k+1) (x,⟨X.ay.set (i:Int).toNat R',X.bE,X.now⟩) v w':=by
 obtain⟨F1,C,P,h2,E,-⟩:=rr d fC a s t;refine⟨F1,.flat m o p r,dq.tj P a e f g j (l.fK h2),?_,h2⟩;exact⟨λz A=>(List.mem_or_eq_of_mem_set A).elim (λP=>(n.ay z P).mono) λB=>B▸u,n.HG,by have h:=n.now;show X.now<=_;omega⟩
set_option maxHeartbeats 2000000 in
def RZ(hs:dq w0 w q F c X)(i4:fT c X)(r:fm k X)(hk:k<=999)(b5:s.Ok):
  YX 20 #[ZL q,jj s] w (Ok (nP w0 w q F c (k+1) (bk c X s))):=by
 have d2:=hs.aC;have f3:=hs.env.gr.size;refine wZ (PA.mk λw1 k1 s1 g1=>PA.mk λw2 k2 s2 g2=>?_);have f4:=k1.then k2;have f5:=k2.get g1 id;refine FG (es:=fB s.cmd) (pX s.cmd) f5 (λn M=>by rcases n with _|_|_|_|_|_|_|n<;>first|rfl|exact Zz M (by simp[fB])) (PA.mk λw3 k3 s3 g3=>az (pX s.cmd) g3 rfl λu k4 s4 g4=>?_);have c7:ai w2 u:=k3.new k4 λP o=>.inr (by have o:P=w2.heap.size:=o;omega);have Z:=f4.then c7;have z4:=Z.size;have j8:=c7.size;have j9:=f4.size;have j:=c7.get f5 id;have f8:=c7.get g2 id;have d4:∀P,w.heap.size<=P->¬F P:=λP o a=>by have:=d2 _ a;omega
 have i5:=hs.ah Z;obtain⟨h,cls,rs,L,b6,T,d3,c8,he⟩:=i5;obtain⟨j6,j7,k0⟩:=c8.ay;have k5:=L.rn b6;have k6:=L.s0.1;have z:∀{f:eT×cI} {v:Value} {b w':World},bk c X s=f->ai u b->nP w0 b q F c (k+1) f v w'->uc (dG ZP 53) λy=>v=y/\lr ZP 53 (ZL w1.heap.size) y w' λw2=>ig ZP 53 (ZL w1.heap.size) w2 λq'=>Ok (nP w0 w q F c (k+1) (bk c X s)) (.returned q') w2:=λ{f v b w'} a g0 hq=>by
  rw[a];exact Mb lk hq (bB.of (Z.then g0)) f3 (g0.get f8 id) rfl oM (d4 _ oM)
 have a3:∀{no:Int} {Y:cI} {F5:ZN} {b:World},bk c X s=(aX no,Y)->dq w0 b q F5 c Y->fm (k+1) Y->bB F u F5 b->lr ZP 53 (ZL w1.heap.size) (.agg #[ZH no,ZH 0,ZH 0,ZH 0,.slice none 0 0,.slice none 0 0,.slice none 0 0,.bool false]) b λw2=>ig ZP 53 (ZL w1.heap.size) w2 λq'=>Ok (nP w0 w q F c (k+1) (bk c X s)) (.returned q') w2:=λ{no Y F5 b} a h5 i6 b7=>by
  rw[a];exact Az lk h5 i6 (bB.after Z b7) f3 (b7.af.get f8 (d4 _ oM)) rfl oM λa=>(b7.new _ a).elim (d4 _ oM) λh=>by omega
 have d:∀{b:World},ai u b->dq w0 b q F c X/\fm (k+1) X/\bB F u F b:=λ{b} A=>⟨hs.ah (Z.then A),r.mono,bB.of A⟩
 refine⟨λw'=>u=w'/\¬(s.kind=3\/s.kind=4\/s.kind=5\/s.kind=6),⟨_,ae j rfl,λP w'=>u=w'/\P=decide (s.kind=3\/s.kind=4\/s.kind=5),?_,?_⟩,?_⟩
 ·refine al.cW (λh3=>⟨rfl,by simp[h3]⟩) (λh3=>al.cW (λh4=>⟨rfl,by simp[h4]⟩) (λh4=>⟨rfl,?_⟩))
  by_cases h5:s.kind=5
  ·simp[h5]
  ·rw[Xv oM];simpa using h5
 ·rintro P _ _ ⟨rfl,rfl⟩
  refine al.dec (λg6=>⟨_,ae j rfl,_,ae j rfl,_,ae j rfl,?_⟩) (λhn=>al.cW (λh6=>?_) (λh6=>⟨rfl,oM⟩))
  ·have i7:(s.kind==4)=true->(s.kind==5)=false:=λh=>by
    have:s.kind=4:=by simpa using h
    rw[this];rfl
   refine PC.ok (LN (at':=s.n) (stays:=s.kind==5) (lost:=s.kind==4) (hs.ah Z) i4 r oM i7) λv w' hq=>z ?_ (ak.refl _) hq;unfold bk;rcases g6 with h3|h4|h5
   ·rw[Zx h3,h3];rfl
   ·rw[Zq oM,Zq oM,Zx h4,h4];rfl
   ·rw[Zq oM,Zx h5,h5];rfl
  ·
   have i8:=r.HG;have k8:=r.now;have i9:IntKind.wrap .i64 (X.now+1)=X.now+1:=wrap_i64 bc;have B:bk c X s=(aX 0,xL X):=by unfold bk;rw[Zq oM,Zq oM,Zq oM,Zx h6]
   refine⟨q,0,rfl,_,ae L.cell rfl,q,0,rfl,PS.mk L.cell sM λb A s5 g5=>?_⟩;rw[i9]at g5;have h0:=L.s0;obtain⟨d6,k7,f1,e4,b4,D,e1,e2,e3,e5,e6,f6⟩:=h0;obtain⟨c9,b8⟩:=Aw (D0:=xM q h (X.now+1) X.bE) L fC (A.mono λP _ a=>by have a:P=q:=a;rw[a];exact d6) ⟨d6,by rw[g5];rfl,f1.af A λP o=>(e4 P o).2,e4,b4,D,e1.af A λP o=>(e6 P o).2.1,e2,λP o=>(e3 P o).af A λP o=>(e5 P o).2.2.1,e5,e6,f6⟩;refine⟨λe7 f7 w'=>∃(n:Nat) (g:qd) (F1:ZN) (b9:Nat->Nat) (p:List (Nat×aR)) (a4:List bt),f7=n/\n<=rs.length/\e7=rs.length-n/\dH w' F1 b9 q g (X.now+1) c p a4/\g.ps=p.map (·.1)/\p.length=rs.length/\
    (List.range n).foldl gv ⟨X.ay,X.bE,X.now+1⟩=⟨p.map (·.2),a4,X.now+1⟩/\bB F u F1 w'/\fm (k+1) ⟨p.map (·.2),a4,X.now+1⟩,
    ⟨_,0,h,F,cls,rs,X.bE,rfl,Qj _,rfl,c9,b6,rfl,by rw[T];rfl,b8,?_⟩,?_⟩
   ·rw[<-T];exact⟨λR e=>(r.ay R e).mono,by show 0<=X.now+1;omega,by show X.now+1<=_;omega⟩
   rintro e7 _ _ C ⟨n,g,F1,b9,p,a4,rfl,M,rfl,U,b1,j0,g7,b2,d8⟩;have k9:=U.rn b1;refine⟨q,0,rfl,_,_,_,ae U.cell rfl,al.dec (λl0=>λE d7=>?_) (λl1=>?_)⟩
   ·have i:ai C E:=d7.af
    have N:=U.ah i;have l:p[n]? =some p[n]:=Qq oM;generalize p[n]=y at l;obtain⟨P,c0,d9,j1,c2,j2⟩:=N.ptr b1 l oM;have O:=cu.rep N l;have l3:Env w0 E F1:=(he.fK b2).ah i;have c3:y.2∈p.map (·.2):=Xk.2 ⟨y,QZ l,rfl⟩;have a0:=d8.ay _ c3;refine⟨q,0,rfl,_,_,_,ae N.cell rfl,P,c0,d9,oM,oM,_,by rw[Qx];exact c2,q,0,rfl,_,ae N.cell rfl,PC.ok (HM O (by have:=a0.asked;omega)) ?_⟩;rintro _ w8 ⟨G',Q,c1,c4⟩;have g8:=a0.tick n (X.now+1);have c5:(im n y.2 (X.now+1)).1.length<=1001:=by unfold im;dsimp only;rw[Q8];have:=FI y.2.dP (X.now+1);have:=a0.asked;omega
    have e9:(List.range (n+1)).foldl gv ⟨X.ay,X.bE,X.now+1⟩=(⟨p.map (·.2),a4,X.now+1⟩:cI).put n (im n y.2 (X.now+1)).2 (im n y.2 (X.now+1)).1:=by
     rw[List.range_succ,List.foldl_append,g7];show gv _ n=_;unfold gv;dsimp only;rw[Q9,l];rfl
    generalize im n y.2 (X.now+1)=dl at Q c1 g8 c5 e9;obtain⟨oa,on,oc,L8,Do,rfl,Q⟩:=Q;refine⟨oa,on,oc,rfl,PC.ok (Ct N l c1 c4 ⟨oa,on,oc,L8,Do,rfl,Q⟩ oM) ?_⟩;rintro _ w9 ⟨rfl,V,F9,f0,e0,d1,b3⟩;refine⟨rfl,_,oM,n+1,V,F9,f0,_,_,aq oM,oM,rfl,e0,by rw[d1,b1];exact(gg (f:=(·.1)) (b:=(y.1,dl.2)) l rfl).symm,by rw[List.length_set];exact j0,?_,b2.trans (bB.after i b3),?_⟩
    ·rw[e9,List.map_set];rfl
    ·have:=d8.stay (j:=n) (ms:=dl.1) g8
     unfold cI.put at this;dsimp only at this;rw[Qx]at this;rw[List.map_set];exact this
   ·have a:xL X=⟨p.map (·.2),a4,X.now+1⟩:=by
     unfold xL;rw[<-g7,T,Q8,show rs.length=n by omega]
    rw[a]at B;exact a3 B ⟨g,b9,p,U,b1,rfl,oM,c8,he.fK b2⟩ d8 b2
 rintro _ _ ⟨rfl,l2⟩;have H:(s.kind<1\/12<s.kind)->bk c X s=(aX 2,X):=λS=>by unfold bk;rw[Zq oM,Zq oM,Zq oM,Zq oM,Zx S]
 refine⟨_,ae j rfl,al.dec (λg=>a3 (H (.inl g)) (d (ak.refl _)).1 r.mono (d (ak.refl _)).2.2) (λg=>⟨_,ae j rfl,al.dec (λg9=>a3 (H (.inr g9)) (d (ak.refl _)).1 r.mono (d (ak.refl _)).2.2) (λg9=>?_)⟩)⟩;have n1:¬s.kind=3:=oM
 have n2:¬s.kind=5:=oM
 have n3:¬s.kind=4:=oM
 have n4:¬s.kind=6:=oM
 have n5:¬(s.kind<1\/12<s.kind):=oM
 have l4:X.ay.length=rs.length:=by rw[T,Q8]
 have W:cH X.ay s.n=none->bk c X s=(aX 1,X):=λS=>by unfold bk;rw[Zq n1,Zq n2,Zq n3,Zq n4,Zq n5,S]
 have m:∀R,cH X.ay s.n=some R->s.kind=2->bk c X s=(if(cH X.ay s.m).isNone\/s.m=s.n then(aX 1,X)else(aX 0,X.put s.n (eV c s.n R s.m X.now).2 (eV c s.n R s.m X.now).1)):=λR e h2=>by unfold bk;rw[Zq n1,Zq n2,Zq n3,Zq n4,Zq n5,e];exact Zx h2
 have a6:∀R,cH X.ay s.n=some R->¬s.kind=2->bk c X s=((eD c s.n R s).1,⟨X.ay.set s.n.toNat (eD c s.n R s).2,X.bE,X.now⟩):=λR e h2=>by unfold bk;rw[Zq n1,Zq n2,Zq n3,Zq n4,Zq n5,e];exact Zq h2
 have f9:0<=s.n->s.n<rs.length->∃R,cH X.ay s.n=some R:=λg h2=>by
  cases e:cH X.ay s.n with
  |none=>rcases gC.1 e with h|h<;>omega
  |some R=>exact⟨R,rfl⟩
 have I:bk c X s=(aX 1,X)->∀b,br u b->lr ZP 53 (ZL w1.heap.size) (.agg #[ZH 1,ZH 0,ZH 0,ZH 0,.slice none 0 0,.slice none 0 0,.slice none 0 0,.bool false]) b λw2=>ig ZP 53 (ZL w1.heap.size) w2 λq'=>Ok (nP w0 w q F c (k+1) (bk c X s)) (.returned q') w2:=λa b d5=>a3 a (d d5.af).1 r.mono (d d5.af).2.2;refine⟨λw'=>ai u w'/\(∃R,cH X.ay s.n=some R)/\(s.kind=2->¬((cH X.ay s.m).isNone\/s.m=s.n)),?_,?_⟩
 ·refine⟨_,ae j rfl,al.dec (λh=>I (W (gC.2 (.inl h)))) (λi8=>⟨_,ae j rfl,q,0,rfl,_,_,_,ae L.cell rfl,al.dec (λh=>I (W (gC.2 (.inr oM)))) (λl5=>?_)⟩)⟩
  obtain⟨R,e⟩:=f9 oM oM;refine⟨_,ae j rfl,al.cW (λh2=>?_) (λh2=>λb d5=>⟨d5.af,⟨R,e⟩,λh=>Zz h h2⟩)⟩;have e1:(cH X.ay s.m).isNone->bk c X s=(aX 1,X):=λS=>by rw[m R e h2];exact Zx (.inl S)
  refine⟨_,ae j rfl,al.dec (λh=>I (e1 (by rw[gC.2 (.inl h)];rfl))) (λl6=>⟨_,ae j rfl,q,0,rfl,_,_,_,ae L.cell rfl,al.dec (λh=>I (e1 (by rw[gC.2 (.inr oM)];rfl))) (λl7=>⟨_,ae j rfl,_,ae j rfl,λb d5=>al.cW (λh=>I (by rw[m R e h2];exact Zx (.inr h)) b d5) (λh=>⟨d5.af,⟨R,e⟩,λ_ S=>S.elim (λS=>?_) h⟩)⟩)⟩)⟩;rw[Option.isNone_iff_eq_none,gC]at S;omega
 rintro _ b ⟨A,⟨R,e⟩,j3⟩;obtain⟨n,M,i0⟩:=dV e;have c9:=L.ah A;rw[T,Q9]at i0;obtain⟨y,l,rfl⟩:=Option.map_eq_some_iff.1 i0;obtain⟨P,c0,d9,j1,c2,j2⟩:=c9.ptr b6 l oM;have j4:=A.get j id;refine⟨q,0,rfl,_,_,_,ae c9.cell rfl,_,ae j4 rfl,P,c0,d9,oM,oM,_,by rw[M,Qx];exact c2,λC h1=>?_⟩;have t:ai u C:=A.then h1.af;have U:=L.ah t;have c6:=he.ah t;have a9:=t.get j id;have b0:=t.get g4 id;have O:=cu.rep U l;have c3:y.2∈X.ay:=by rw[T];exact Xk.2 ⟨y,QZ l,rfl⟩
 have a0:=r.ay _ c3;have hl:=a0.evs;rw[M]at e;have eh:∀{f:eT×aR},¬s.kind=2->eD c n y.2 s=f->bk c X s=(f.1,⟨X.ay.set (n:Int).toNat f.2,X.bE,X.now⟩):=λ{f} h2 a=>by rw[a6 y.2 (by rw[M];exact e) h2,M,a]
 have flat:∀{f:eT×aR} {v:Value} {w':World} {G':ZN},¬s.kind=2->eD c n y.2 s=f->du C f.1 v w'->f.1.st.cells=[]/\f.1.FC=[]/\f.1.rows=[]->bG w' y.1 G' c n f.2->bB (λP=>F P/\cls P=n+2) C G' w'->il y.2 f.2->nP w0 C q F c (k+1) (bk c X s) v w':=λ{f v w' G'} h2 a J ⟨e1,e2,e3⟩ a1 e8 hg=>by
  rw[eh h2 a];exact nP.rep U b6 T d3 c8 c6 l J e1 e2 e3 a1 e8 r (a0.xH hg)
 have read:∀{x:eT} {v:Value} {w':World},¬s.kind=2->eD c n y.2 s=(x,y.2)->du C x v w'->ai C w'->nP w0 C q F c (k+1) (bk c X s) v w':=λ{x v w'} h2 a J i=>by
  rw[eh h2 a];dsimp only;rw[FH e];exact⟨F,.new J λP o=>by have:=d2 P o;have:=t.size;omega,hs.ah (Z.then (t.then i)),r.mono,bB.of i⟩
 have K:∀{no:Int} {R':aR} {w':World} {G':ZN},¬s.kind=2->eD c n y.2 s=(aX no,R')->bG w' y.1 G' c n R'->bB (λP=>F P/\cls P=n+2) C G' w'->il y.2 R'->lr ZP 53 (ZL w1.heap.size) (.agg #[ZH no,ZH 0,ZH 0,ZH 0,.slice none 0 0,.slice none 0 0,.slice none 0 0,.bool false]) w' λw2=>ig ZP 53 (ZL w1.heap.size) w2 λq'=>Ok (nP w0 w q F c (k+1) (bk c X s)) (.returned q') w2:=λ{no R' w' G'} h2 a a1 e8 hg=>by
  obtain⟨F',-,a7,a8,i1⟩:=flat (v:=.agg (eU (aX no) none 0 0 none 0 0 none 0 0).toArray) h2 a (du.plain rfl rfl rfl) ⟨rfl,rfl,rfl⟩ a1 e8 hg;rw[eh h2 a]at a7 a8;exact a3 (eh h2 a) a7 a8 (bB.after t i1)
 refine⟨_,ae a9 rfl,al.cW (λg=>?_) (λg=>?_)⟩
 ·refine ar (pX s.cmd) b0 (PC.ok (xJ O c6.part b5.cmd oM) ?_)
  rintro v E ⟨G',J,a5,a2⟩;exact z rfl t (flat oM (by unfold eD;rw[Zx g]) J (by dsimp only;split<;>exact⟨rfl,rfl,rfl⟩) a5 a2 (AE c n y.2 s.cmd))
 refine al.cW (λh2=>?_) (λh2=>?_)
 ·intro E d7
  have i:ai C E:=d7.af;have N:=U.ah i;have j5:=i.get a9 id;refine⟨_,ae j5 rfl,q,0,rfl,_,ae N.cell rfl,PC.ok (uq (cu.rep N l) b5.m) ?_⟩;rintro _ w8 ⟨G',Q,c1,c4⟩;have B:bk c X s=(aX 0,X.put n (eV c n y.2 s.m X.now).2 (eV c n y.2 s.m X.now).1):=by
   rw[m y.2 (by rw[M];exact e) h2,Zq (j3 h2),M]
  have i2:=AD c n y.2 s.m X.now;have c5:=HK c n y.2 s.m X.now;generalize eV c n y.2 s.m X.now=dl at Q c1 i2 c5 B;obtain⟨oa,on,oc,b4,Do,rfl,Q⟩:=Q;refine⟨oa,on,oc,rfl,PC.ok (Ct N l c1 c4 ⟨oa,on,oc,b4,Do,rfl,Q⟩ oM) ?_⟩;rintro _ w9 ⟨rfl,V,F9,f0,e0,d1,b3⟩;exact⟨rfl,a3 B (dq.tj e0 l (by rw[d1];exact b6) T d3 c8 ((c6.ah i).fK b3)) (r.put (a0.xH i2)) (bB.after (t.then i) b3)⟩
 refine al.cW (λh7=>?_) (λh7=>?_)
 ·refine⟨_,ae a9 rfl,PC.ok (DQ O c6.part b5.m) ?_⟩
  rintro _ E ⟨G',rfl,a5,a2,h9⟩;exact⟨_,rfl,K h2 (by unfold eD;rw[Zq g,Zx h7]) a5 a2 ⟨.inr h9,by unfold p_;rw[lJ];exact Qj _⟩⟩
 refine al.cW (λh8=>?_) (λh8=>?_)
 ·refine PC.ok (xK O c6.part oM) ?_
  rintro _ E ⟨G',rfl,a5,a2⟩;exact⟨_,rfl,K h2 (by unfold eD;rw[Zq g,Zq h7,Zx h8]) a5 a2 (sD c y.2)⟩
 refine al.cW (λV=>?_) (λV=>?_)
 ·refine⟨_,ae b0 rfl,_,ae b0 rfl,_,ae a9 rfl,PC.ok (AF O b5.m) ?_⟩
  rintro _ E ⟨J,i⟩;exact z rfl t (read h2 (by unfold eD;rw[Zq g,Zq h7,Zq h8,Zx V]) J i)
 refine al.cW (λd0=>?_) (λd0=>?_)
 ·refine⟨_,ae b0 rfl,_,ae b0 rfl,PC.ok (Mc O) ?_⟩
  rintro _ E ⟨J,i⟩;exact z rfl t (read h2 (by unfold eD;rw[Zq g,Zq h7,Zq h8,Zq V,Zx d0]) J i)
 refine al.cW (λf2=>?_) (λf2=>?_)
 ·refine⟨_,ae b0 rfl,_,ae a9 rfl,PC.ok (DS O) ?_⟩
  rintro _ E ⟨J,i⟩;exact z rfl t (read h2 (by unfold eD;rw[Zq g,Zq h7,Zq h8,Zq V,Zq d0,Zx f2]) J i)
 refine al.cW (λi3=>?_) (λi3=>oM);refine⟨_,ae a9 rfl,PC.ok (HL O b5.m) ?_⟩;rintro _ E ⟨G',rfl,a5,a2⟩;exact⟨rfl,K h2 (by unfold eD;rw[Zq g,Zq h7,Zq h8,Zq V,Zq d0,Zq f2]) a5 a2 ⟨.inl bn,by dsimp only;omega⟩⟩
end
section
variable {w w' w0 w1 w2 wb:World} {p q i k g:Nat} {F F1 F' G G' T D E:ZN} {cls:Nat->Nat} {h:qd} {c:bF} {X Y:cI} {s:eS} {x:eT} {v:Value} {ta pa la:YQ} {tn tc pn pc ln lc:Nat} {l:List eS} {now:Int} {rs:List (Nat×aR)} {bE:List bt} {R:aR}
def dH.more(i:dH w F cls q h now c rs bE)(j:ai w w')(e:bG w' p G' c rs.length R)(l:∀d,G' d->w.heap.size<=d):
  ∃F' a,dH w' F' a q h now c (rs++[(p,R)]) bE/\bB F w F' w':=by
 obtain⟨m,b,o,r,-⟩:=aP.fK i fC (k:=rs.length+2) (G':=G') (C2:=fw (xM q h now bE) (λ_ _=>True) c (rs++[(p,R)])) ⟨ai.af j,λd s=>.inr (l d s)⟩ e.aC (λf n=>by
  rw[X8 (Q4 _),Nat.sub_self]at n
  injection n with n;subst n;exact e) λt G g P=>by
  match t,g,P with
  |0,_,P=>exact P
  |1,_,P=>exact P
  |k+2,g,P=>
   intro f n;refine P f ?_;rcases Nat.lt_trichotomy k rs.length with h|h|h
   ·rwa [XW h]at n
   ·omega
   ·rw[Q7 be]at n;cases n
 exact⟨m,b,o,r⟩
structure qe (w0 w:World) (p q:Nat) (F G:ZN) (c:bF) (X Y:cI):Prop where
 a:b_ w0 w p F c X
 b:dq w0 w q G c Y
 ap:∀b,F b->¬G b
def qe.ah(h:qe w0 w p q F G c X Y)(n:ai w w'):qe w0 w' p q F G c X Y:=⟨h.a.ah n,h.b.ah n,h.ap⟩
def qe.Vl(h:qe w0 w p q F G c X Y){a:cI}(f:b_ w0 w' p F' c a)(b:bB F w F' w'):qe w0 w' p q F' G c a Y:=
 ⟨f,h.b.af b.af (λn P g=>h.ap n g P) λn P=>h.a.env.aC n P,λn P d=>(b.new n P).elim (λe=>h.ap n e d) λe=>by have:=h.b.aC n d;omega⟩
def qe.Vm(h:qe w0 w p q F G c X Y){a:cI}(n:dq w0 w' q G' c a)(b:bB G w G' w'):qe w0 w' p q F G' c X a:=
 ⟨h.a.af b.af (λP n e=>h.ap P n e) λP n=>h.b.env.aC P n,n,λP n f=>(b.new P f).elim (λd=>h.ap P n d) λd=>by have:=h.a.aC P n;omega⟩
set_option maxHeartbeats 4000000 in
def yG(t:eP w)(u:Laid w)(hd:bf w D c.decl ta tn pa pn)(hD:∀n,D n->n<w.heap.size)(hl:Row HP 80 w E la ln l)(hE:∀n,E n->n<w.heap.size)(hs:aJ c.bU)(d5:aJ c.every)(d6:aJ c.start):
  YX 6 #[Mg c ta tn tc pa pn pc la ln lc] w (Ok λv w'=>v= .bool true/\ai w w'):=by
 have o6:=hl.len;refine tk (PA.mk λw1 k1 s1 g1=>ar (TW c ta tn tc pa pn pc la ln lc) g1 (PC.ok (Kk (hd.ah k1) (hl.ah k1)) ?_));rintro _ w3 ⟨⟨l1,rfl,j7⟩,k3⟩;have O:=k1.then k3;have f2:=k3.get g1 id;refine⟨_,rfl,al.mk (λ_=>Px t u O) (λj8=>?_)⟩;have l2:=j7 j8;refine FL f2 (PC.ok (Mf t u O (hd.ah O) (λn P=>by have:=hD n P;have:=O.size;omega) hs d5 d6) ?_);rintro v5 d ⟨k5,h5⟩;have x:=O.then k5;have d7:=k5.get f2 id;have f3:∀{w':World},ai w w'->∀n,D n->n<w'.heap.size:=λ{w'} kk n P=>by have:=hD n P;have:=kk.size;omega
 rcases h5 with⟨Q,rfl⟩|⟨hz,p,F,rfl,hA,hF,d8⟩
 ·refine⟨_,_,rfl,al.dQ (λ_=>FL d7 (PC.ok (FJ (self:=0) t u x (hd.ah x) (f3 x) hs d5 d6) ?_)) (λh=>Zz h Q)⟩
  rintro v7 w7 ⟨k7,⟨-,rfl⟩|⟨h,-⟩⟩
  ·exact⟨_,_,rfl,al.cW (λ_=>Px t u (x.then k7)) (λh=>Zz rfl h)⟩
  ·exact Zz h Q
 obtain⟨-,o7,o8,-⟩:=hA.len;have z1:w.heap.size<w1.heap.size:=oM
 have z3:=k3.size;have z5:=k5.size;have o9:=x.size;refine⟨_,_,rfl,al.dQ (λh=>Zz rfl h) (λ_=>fz Tryz.underlying33 ⟨_,rfl,al.ff rfl ⟨_,ae d7 rfl,al.dec (λh=>oM) (λ_=>PA.mk λw6 k6 s6 g6=>?_)⟩⟩)⟩;have k0:=hA.aC;have p0:=x.then k6;have a8:(bP c 0).1=0:=hz;have p1:(bP c 0).2.S.l.length<=16777216:=by
  have:=(d8.ay (bP c 0).2 (List.mem_replicate.2 ⟨oM,rfl⟩)).evs;omega
 obtain⟨S,b1⟩:=aP.join (w:=w6) (C:=fw (xM d.heap.size ⟨none,0,0,[],none,0,0⟩ 0 []) (λ_ _=>True) c []) (G:=λj n=>match j with|0=>n=d.heap.size|_=>False)
  (λj=>by
   match j with
   |0=>exact⟨rfl,g6,(aM.nil w6).mono (λn P=>P.elim) (λn P=>(by cases P)),λn P=>(by cases P),[],λ_=>False,(aM.nil w6).mono (λn P=>P.elim) (λn P=>(by cases P)),rfl,sM,λn P=>P.elim,λn P=>(by cases P),sM⟩
   |1=>exact trivial
   |j+2=>exact λT f=>by simp at f)
  (λi j n hi hj=>by
   match i,j,hi,hj with
   |0,0,_,_=>rfl)
  (λj n P=>by
   match j,P with
   |0,P=>have P:n=d.heap.size:=P;omega)
 refine⟨λg U w'=>∃(j:Nat) (ra:YQ) (rn rc:Nat) (V:List Nat) (G:ZN) (cls:Nat->Nat) (rs:List (Nat×aR)),U=j/\j<=c.ay.toNat/\g=c.ay.toNat-j/\dH w' G cls d.heap.size ⟨ra,rn,rc,V,none,0,0⟩ 0 c rs []/\V=rs.map (·.1)/\rs.length=j/\rs.map (·.2)=List.replicate j (bP c 0).2/\(∀n,G n->d.heap.size<=n)/\ai d w',
  ⟨_,0,none,0,0,[],_,S,[],rfl,Qj _,rfl,b1,rfl,rfl,rfl,λn ⟨j,P⟩=>?_,k6⟩,?_⟩
 ·match j,P with
  |0,P=>have P:n=d.heap.size:=P;omega
 rintro g _ _ w7 ⟨j,ra,rn,rc,V,G,cls,rs,rfl,hj,rfl,hp,W,f4,f5,Y,H⟩;have k:=x.then H;have b9:=H.get d7 id;refine⟨_,ae b9 rfl,al.dec (λf8=>?_) (λg0=>?_)⟩
 ·obtain⟨f7,f9⟩:=DT (c:=c) (i:=(j:Int)) oM oM
  refine FL b9 (PC.ok (FJ (self:=(j:Int)) t u k (hd.ah k) (f3 k) hs d5 d6) ?_);rintro v8 I ⟨k8,⟨Q,-⟩|⟨-,p',G',rfl,g2,k2,p2⟩⟩
  ·rw[f7]at Q;exact Zz a8 Q
  rw[f9]at g2;have k4:=H.size;obtain⟨y,g3,g4,g5⟩:=dH.more (R:=(bP c 0).2) hp k8 (by rw[f4];exact g2) k2;obtain⟨c1,c2,c3,c4,-⟩:=g4.s0;have hn:=c3.len dC;dsimp only at hn;rw[W,Q8]at hn;refine⟨_,_,rfl,al.dQ (λh=>Zz rfl h) (λ_=>fz Tryz.underlying64 ⟨_,rfl,al.ff rfl ⟨_,0,rfl,_,_,_,ae c2 rfl,Hn (x:=p') (D:=λ_=>False) c3 Vh ⟨rfl,trivial⟩ (λn P=>P.elim) (by dsimp only;rw[W,Q8];unfold aK;omega) (by dsimp only;rw[W,Q8];unfold maxLen;omega) λZ m c5 F7 d9 e p3 l0=>⟨_,_,_,rfl,_,0,rfl,PS.mk (e.get c2 λa=>(c4 _ a).2 rfl) sM λJ o l3 e0=>?_⟩⟩⟩)⟩;have z8:=k8.size;have p4:=e.size;have n1:=ax c2;have e3:∀n,aD Z=some n->(aD ra=some n\/I.heap.size<=n)/\n<c5.heap.size:=λn P=>⟨l0 n P,d9.aC n (d9.self n P)⟩
  have g7:∀n,aD Z=some n->n≠d.heap.size:=λn P a=>by rcases(e3 n P).1 with h|h;exact(c4 n h).2 a;omega
  have kk:ak (λn=>y n/\g3 n=0) I J:=(e.mono λn _ P=>(c4 n P).1).then (o.mono λn _ P=>by have P:n=d.heap.size:=P;rw[P];exact c1);obtain⟨F8,a0,b2,a1,-⟩:=aP.fK g4 fC (k:=0) (G':=λn=>n=d.heap.size\/aD Z=some n) (C2:=fw (xM d.heap.size ⟨Z,rn+1,m,V++[p'],none,0,0⟩ 0 []) (λ_ _=>True) c (rs++[(p',(bP c 0).2)]))
   ⟨kk,λn P=>P.elim (λa=>.inl (a▸c1)) λP=>(e3 n P).1.imp (λh=>(c4 n h).1) id⟩ (λn P=>P.elim (λa=>oM) λP=>by have:=(e3 n P).2;omega)
   ⟨.inl rfl,e0,d9.alone.af o λn P a=>g7 n P a,λn P=>⟨.inr P,g7 n P⟩,[],λ_=>False,(aM.nil J).mono (λn P=>P.elim) (λn P=>(by cases P)),rfl,sM,λn P=>P.elim,λn P=>(by cases P),sM⟩ λi G hi hc=>by
    match i,hi,hc with
    |1,_,hc=>exact hc
    |i+2,_,hc=>exact hc
  have c8:=g5.trans a1;exact⟨_,oM,j+1,Z,rn+1,m,V++[p'],F8,a0,_,aq oM,oM,rfl,b2,by rw[W,Q3];rfl,by rw[QX,f4];rfl,by rw[Q3,f5,List.replicate_succ'];rfl,λn P=>(c8.new n P).elim (Y n) λh=>oM,H.new c8.af λn P=>.inr (Y n P)⟩
 have l4:j=c.ay.toNat:=oM
 have g8:qe w w7 p d.heap.size F G c (ur c).2 (ur c).2:=⟨hA.ah H,⟨_,cls,rs,hp,W,by rw[f5,l4];rfl,oM,hA.ok,⟨t,u,k,λn P=>by have:=Y n P;omega⟩⟩,λn hf hg=>by have:=k0 n hf;have:=Y n hg;omega⟩
 have c9:fT c (ur c).2:=RY hz (AI c 0);generalize(ur c).2=X0 at g8 d8 c9;refine⟨λg U w'=>∃(j:Nat) (F2 y:ZN) (X:cI),U=j/\j<=ln/\g=ln-j/\qe w w' p d.heap.size F2 y c X X/\fm j X/\fT c X/\ak (λn=>w1.heap.size<=n) w7 w'/\(∀n,F2 n->w1.heap.size<=n)/\∀n,y n->w1.heap.size<=n,
  ⟨_,0,F,G,X0,rfl,Qj _,rfl,g8,d8,c9,ak.refl _,λn P=>by have:=hF n P;omega,λn P=>by have:=Y n P;omega⟩,?_⟩
 rintro g _ _ I ⟨j2,F2,y,X,rfl,p5,rfl,c6,e4,d0,a9,g9,h0⟩;have p6:=k.size;have k4:=H.size;have l5:ai w I:=k.new a9 λn P=>.inr (by have P:w1.heap.size<=n:=P;omega);have h4:=a9.get b9 oM;have p7:=a9.size;refine⟨_,_,_,ae h4 rfl,al.dec (λf8=>?_) (λg0=>?_)⟩
 ·have kE:ak (λn=>w1.heap.size<=n) w I:=(ai.af k).then a9
  obtain⟨n,a2,s,b3,h1,b4,l6,q,a3⟩:=HR (hl.af kE λn P h=>by have:=hE n P;omega) (j:=j2) oM;have n2:=hE n b4;refine⟨_,_,_,ae h4 rfl,n,a2,b3,oM,oM,?_⟩;rw[Qx];refine a3 _ (PC.ok (Ki c6.a e4 oM q) ?_);rintro va w9 ⟨F9,h6,l7,l8,v9⟩;have c7:=c6.Vl l7 v9;have h7:=Py (s:=s) d0;have l9:=h6.at';obtain⟨sa,sn,sc,ea,en,ec,z,A,B,Ga,rfl,-⟩:=h6;refine bT (HF _ sa sn sc ea en ec z A B) ⟨rfl,PA.mk λc5 e p8 m0=>az (f_ _ sa sn sc ea en ec z A B) m0 rfl λJ o l3 e0=>?_⟩;have h8:ai w9 J:=e.new o λn P=>.inr (by have P:n=w9.heap.size:=P;omega);intro b0 m1;have K:ai J b0:=m1.af;have a6:=h8.then K;have d1:=c7.ah a6;have m2:=K.get e0 id;have z9:=v9.af.size;have n3:=a6.size;have m3:∀n,F9 n->w1.heap.size<=n:=λn P=>(v9.new n P).elim (g9 n) λh=>by omega
  have d2:=c6.b.aC;have b5:ak (λn=>w1.heap.size<=n) w7 b0:=(a9.then (v9.af.mono λn _ P=>g9 n P)).then (ai.af a6);have i0:=b5.get b9 oM;have i1:ak (λn=>w1.heap.size<=n) w b0:=(ai.af k).then b5;obtain⟨h2,o2,s2,a4,d3,d4,e1,b6,C⟩:=HR (hl.af i1 λn P h=>by have:=hE n P;omega) (j:=j2) oM;obtain rfl:s=s2:=by rw[l6]at e1;injection e1
  have nG:¬y w9.heap.size:=λa=>by have:=d2 _ a;omega
  refine⟨y,nG,ar (f_ _ sa sn sc ea en ec z A B) m2 ⟨_,_,_,ae i0 rfl,h2,o2,a4,oM,oM,?_⟩⟩;refine C _ (PC.ok (RZ d1.b d0 e4 oM q) ?_);rintro vb i2 ⟨m4,e2,i3,n4,L⟩;have i4:=d1.Vm i3 L;have h3:=(l9.af a6 λ_ _ _ h=>h).af L.af λn b h9 hg=>by have:=d2 n hg;omega
  refine Vk e2.at' ⟨L.af,PC.ok (AJ h3 e2.at') ?_⟩;rintro _ m5 ⟨rfl,M⟩;have a7:=i4.ah M;obtain⟨p9,m6,n8,b7,-⟩:=id a7.b;have m7:=b7.fn.1;have q0:=L.af.size;refine⟨_,rfl,λ_=>False,al.ff rfl ⟨_,0,rfl,id,_,_,_,ae b7.cell rfl,PC.ok (AH a7.a) ?_⟩⟩;rintro _ _ ⟨rfl,rfl⟩;refine⟨_,rfl,ak.refl _,al.dQ (λh=>Zz (by rw[m7]) h) (λ_=>⟨_,0,rfl,id,_,ae b7.cell rfl,PC.ok (Me a7.a) ?_⟩)⟩;rintro _ _ ⟨rfl,rfl⟩;exact⟨_,rfl,ak.refl _,al.dQ (λh=>Zz rfl h) (λ_=>⟨_,oM,j2+1,F9,m4,_,aq oM,oM,rfl,a7,l8,h7,(b5.then (L.af.mono λn _ P=>h0 n P)).then (ai.af M),m3,λn P=>(L.new n P).elim (h0 n) λh=>oM⟩)⟩
 ·refine⟨λg U w'=>∃a:Nat,U=a/\a<=c.ay.toNat/\g=c.ay.toNat-a/\ai I w',⟨_,0,rfl,Qj _,rfl,ak.refl _⟩,?_⟩
  rintro g _ _ w9 ⟨a,rfl,he,rfl,k9⟩;have c7:=c6.ah k9;have e5:∀R∈X.ay,R.S.l.length<=17000000:=λR r=>by have:=(e4.ay R r).evs;omega
  obtain⟨m8,n9,e6,e7,b8,i5,n5,i6,q1⟩:=id c7.b;obtain⟨r1,r2,r3⟩:=i6.ay;have q2:=e7.rn b8;refine⟨_,0,rfl,_,_,_,ae e7.cell rfl,al.dec (λf8=>λc5 m9=>?_) (λg0=>Px t u (l5.then k9))⟩;have e:ai w9 c5:=m9.af;have N:=e7.ah e;have f0:=c7.ah e;have f:e6[a]? =some e6[a]:=Qq oM;generalize e6[a]=T at f;obtain⟨n,a2,e8,o0,f1,-⟩:=N.ptr b8 f oM;have r:cH X.ay (a:Int)=some T.2:=by rw[wq,i5,Q9,f];rfl
  have i7:T.2∈X.ay:=by rw[i5];exact Xk.2 ⟨T,QZ f,rfl⟩
  have q3:=e5 _ i7;have c0:=cu.rep N f;have i8:T.2.S.vec.length*8<=aK:=by rw[aw.bM,c0.cl.2];unfold aK;omega
  refine⟨λ_=>False,_,0,rfl,id,_,_,_,ae N.cell rfl,n,a2,e8,oM,oM,id,_,by rw[Qx];exact f1,PC.ok (RX f0.a) ?_⟩;rintro _ J (⟨h,-⟩|⟨R1,b,q4,q5,q6,q7,rfl,i9,o,o1⟩)
  ·rw[r]at h;cases h
  rw[r]at b;injection b with b;subst b;refine⟨_,_,_,rfl,ai.af o,PC.ok (Md (c0.ah o)) ?_⟩;rintro _ b0 ⟨q8,q9,r0,r4,rfl,j0,K,o3⟩;refine⟨_,_,_,rfl,ai.af K,PC.ok (mh ((i9.ah K).row dC i8) (j0.row dC i8)) ?_⟩;rintro _ i2 ⟨rfl,n0⟩;have j1:ai b0 i2:=n0.af;have a5:=(o.then K).then j1;have j3:=N.ah a5;have f6:=a5.cell (a:=⟨n,a2+a,none⟩) (by show n<_;have:=(N.ptr b8 f oM);obtain⟨b',o',b,-,-,j4⟩:=this;rw[e8]at b;injection b with b;injection b with b h9;subst b;exact N.aC _ j4.1) id;rw[f1]at f6;refine⟨_,rfl,ai.af j1,al.ff sM ⟨_,0,rfl,id,_,_,_,ae j3.cell rfl,n,a2,e8,oM,oM,id,_,by rw[Qx];exact f6,PC.ok (Kf ((f0.ah a5).a) λR r=>by have:=e5 R r;omega) ?_⟩⟩;rintro _ m5 (⟨h,-⟩|⟨R1,b,r5,r6,r7,r8,rfl,j5,M,o4⟩)
  ·rw[r]at h;cases h
  rw[r]at b;injection b with b;subst b;refine⟨_,_,_,rfl,ai.af M,PC.ok (AG ((c0.ah a5).ah M) oM) ?_⟩;rintro _ r9 ⟨s3,s4,s5,s7,rfl,j9,e9,o5⟩;refine⟨_,_,_,rfl,ai.af e9,PC.ok (AK ((j5.ah e9).row dC ba) (j9.row dC ba)) ?_⟩;rintro _ s8 ⟨rfl,j6⟩;exact⟨_,rfl,ai.af j6,al.ff sM ⟨_,oM,a+1,aq oM,oM,rfl,((((k9.then e).then a5).then M).then e9).then j6⟩⟩

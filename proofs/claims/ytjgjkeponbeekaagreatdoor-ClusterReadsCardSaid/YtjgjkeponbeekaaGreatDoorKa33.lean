import Derived.Test.YtjgjkeponbeekaaGreatDoorKa31
import Derived.Test.YtjgjkeponbeekaaGreatDoorYaQue
set_option linter.all false
set_option maxHeartbeats 4000000
set_option maxRecDepth 100000
namespace Go.Proofs.YtjgjkeponbeekaaGreatDoor
open Go.ar
def IS:aM:=⟨[[⟨1,1,true,[]⟩,⟨2,3,false,[]⟩,⟨3,2,false,[]⟩,⟨4,2,false,[⟨0,1,0,2⟩,⟨1,0,-1,0⟩,⟨0,2,-1,0⟩]⟩,⟨2,2,false,[]⟩,⟨1,1,false,[]⟩]],[⟨0,0,1,0,2⟩,⟨0,2,2,0,1⟩,⟨0,5,3,4,4⟩]⟩
def fD(a:Int):bP:=⟨a,131072,400,3,20,5,4,0,IS⟩
variable{n:Array Value}{s:Ending->World->Prop}{e:Int}{e0:List bj}{a:Nat}{f:Nat->Prop}{E:Nat×Nat}{d r:Option Addr}{j:Type}{g:TypeId}{b:World}{g6:World->(Nat->Prop)->dS->Prop}
def Row.zq{c:jo j}{bytes a:Nat}{D:Nat->Prop}(f:b.heap[a]? =some (.cells n g E)){xs:List j}(m:bu c b D xs n.toList)(r:0<c.k)(d:xs.length*bytes<=aK):Row c bytes b (λe=>e=a\/D e) (ZX a) xs.length xs:=
 ⟨rfl,d,λs t o=>by
  obtain⟨h,p,i⟩:=m.at o;have u:=c.len i;refine⟨a,0,h,rfl,ax f,.inl rfl,λk q=>?_,c.mono i λe d=>.inr d⟩;have l:=p k q;rw[Qq (show k<h.length by omega)]at l⊢;rw[Xz];exact ae f (by simpa using l)⟩
def i10(a:(decide (-1000000<=e)&&decide (e<=1000000))=true):aH e:=by
 simp only[QK,decide_eq_true_eq]at a;unfold aH;omega
section
variable {w w' w0:World}
def Li:Calls XP 60 #[] w (Ok λv w'=>∃o tn x p q y G,v= .agg #[.slice o tn x,.slice p q y]/\bb w' G IS o tn p q/\(∀a,G a->w.heap.size<=a/\a<w'.heap.size)/\ai w w'):=by
 refine EM (PA.mk λd z V A=>PA.mk λf B W C=>PA.mk λh r X E=>PA.mk λi m Y F=>PA.mk λs j Z H=>?_);have t:=((B.then r).then m).then j;refine PS.mk (t.get A id) sM λw6 I s6 J=>PS.mk J sM λe K s7 u=>⟨_,_,_,_,_,_,ae u rfl,ae u rfl,?_⟩
 have g:ak (λa=>a=w.heap.size) s e:=I.then K;have L:=g.get (j.get (m.get (r.get C id) id) id) (λb=>by have b:d.heap.size=w.heap.size:=b;omega);have M:=g.get (j.get (m.get E id) id) (λb=>by have b:f.heap.size=w.heap.size:=b;omega);have N:=g.get (j.get F id) (λb=>by have b:h.heap.size=w.heap.size:=b;omega);have O:=g.get H (λb=>by have b:i.heap.size=w.heap.size:=b;omega);have P:Row ix 32 e (λa=>a=d.heap.size\/False) (ZX d.heap.size) 3 [⟨0,1,0,2⟩,⟨1,0,-1,0⟩,⟨0,2,-1,0⟩]:=
  Row.zq (c:=ix) (xs:=[⟨0,1,0,2⟩,⟨1,0,-1,0⟩,⟨0,2,-1,0⟩]) (D:=λ_=>False) L ⟨_,_,rfl,⟨rfl,i10 rfl,i10 rfl,i10 rfl,i10 rfl⟩,_,_,rfl,⟨rfl,i10 rfl,i10 rfl,i10 rfl,i10 rfl⟩,_,_,rfl,⟨rfl,i10 rfl,i10 rfl,i10 rfl,i10 rfl⟩,rfl⟩ dC dC
 have Q:Row rk 48 e (λa=>a=f.heap.size\/a=d.heap.size\/False) (ZX f.heap.size) 6 [⟨1,1,true,[]⟩,⟨2,3,false,[]⟩,⟨3,2,false,[]⟩,⟨4,2,false,[⟨0,1,0,2⟩,⟨1,0,-1,0⟩,⟨0,2,-1,0⟩]⟩,⟨2,2,false,[]⟩,⟨1,1,false,[]⟩]:=by
  have no:∀(k l:Int) (n:Bool),aH k->aH l->rk.rep e (λa=>a=d.heap.size\/False) ⟨k,l,n,[]⟩ [XH k,XH l,.bool n,.slice none 0 0]:=λk l n R S=>⟨none,0,0,rfl,cU _ _,R,S⟩
  exact Row.zq (c:=rk) (xs:=[⟨1,1,true,[]⟩,⟨2,3,false,[]⟩,⟨3,2,false,[]⟩,⟨4,2,false,[⟨0,1,0,2⟩,⟨1,0,-1,0⟩,⟨0,2,-1,0⟩]⟩,⟨2,2,false,[]⟩,⟨1,1,false,[]⟩]) (D:=λa=>a=d.heap.size\/False) M ⟨_,_,rfl,no 1 1 true (i10 rfl) (i10 rfl),_,_,rfl,no 2 3 false (i10 rfl) (i10 rfl),_,_,rfl,no 3 2 false (i10 rfl) (i10 rfl),_,_,rfl,⟨_,_,_,rfl,P,i10 rfl,i10 rfl⟩,_,_,rfl,no 2 2 false (i10 rfl) (i10 rfl),_,_,rfl,no 1 1 false (i10 rfl) (i10 rfl),rfl⟩ dC dC
 have T:Row AW 40 e (λa=>a=h.heap.size\/False) (ZX h.heap.size) 3 IS.projs:=
  Row.zq (c:=AW) (xs:=[⟨0,0,1,0,2⟩,⟨0,2,2,0,1⟩,⟨0,5,3,4,4⟩]) (D:=λ_=>False) N ⟨_,_,rfl,⟨rfl,i10 rfl,i10 rfl,i10 rfl,i10 rfl,i10 rfl⟩,_,_,rfl,⟨rfl,i10 rfl,i10 rfl,i10 rfl,i10 rfl,i10 rfl⟩,_,_,rfl,⟨rfl,i10 rfl,i10 rfl,i10 rfl,i10 rfl,i10 rfl⟩,rfl⟩ dC dC
 have U:Row mj 24 e (λa=>a=i.heap.size\/a=f.heap.size\/a=d.heap.size\/False) (ZX i.heap.size) 1 IS.types:=
  Row.zq (c:=mj) (xs:=[[⟨1,1,true,[]⟩,⟨2,3,false,[]⟩,⟨3,2,false,[]⟩,⟨4,2,false,[⟨0,1,0,2⟩,⟨1,0,-1,0⟩,⟨0,2,-1,0⟩]⟩,⟨2,2,false,[]⟩,⟨1,1,false,[]⟩]]) (D:=λa=>a=f.heap.size\/a=d.heap.size\/False) O ⟨_,_,rfl,⟨_,_,_,rfl,Q⟩,rfl⟩ dC dC
 refine Ok.mk ⟨_,_,_,_,_,_,λa=>(a=i.heap.size\/a=f.heap.size\/a=d.heap.size\/False)\/a=h.heap.size\/False,rfl,⟨U.mono λa c=>.inl c,T.mono λa c=>.inr c⟩,λa c=>?_,?_⟩
 ·have z7:e.heap.size=s.heap.size:=oM
  rcases c with(rfl|rfl|rfl|c)|rfl|c<;>first|omega|exact c.elim
 ·exact(z.then t).new g λa c=>.inr (by have c:a=w.heap.size:=c;omega)
def IT:Calls XP 24 #[XH e] w (Ok λm w'=>∃b tn g c d h G,m=vN (fD e) b tn g c d h/\bb w' G IS b tn c d/\(∀a,G a->w.heap.size<=a/\a<w'.heap.size)/\ai w w'):=by
 refine Cg (PA.mk λr n s o=>PC.ok Li ?_);rintro _ t ⟨b,tn,g,c,d,h,G,rfl,p,i,j⟩;refine⟨_,_,_,_,_,_,rfl,az (He (fD e) b tn g c d h) (j.get o id) rfl λu k v q=>au (He (fD e) b tn g c d h) q (Ok.mk ⟨b,tn,g,c,d,h,G,rfl,p.af k λa f l=>by have l:a=w.heap.size:=l;have:=i a f;omega,λa f=>by have:=i a f;omega,(n.then j).new k λa f=>.inr (by have f:a=w.heap.size:=f;omega)⟩)⟩
end
section
variable {w w' w0:World} {p q:Nat} {F G D E:Nat->Prop} {c e:bP} {self other:Int} {X Y:bj}
def JC(c:bP)(self:Int):(cz c self).2.fI.asked=[]:=by
 have a:(FV c).2.fI.asked=[]:=by unfold FV;rw[xm]
 unfold cz;split
 ·exact a
 split<;>exact a
end
section
variable {w w' w0 w1 w2 wb:World} {p i k g:Nat} {F F1 F' G G' T D:Nat->Prop} {cls cls':Nat->Nat} {h:Jl} {c:bP} {X:dS} {s:fG} {x:gA} {v:Value} {r:gA×dS} {now:Int} {rs:List (Nat×bj)} {eg:List bR} {y:Nat×bj} {R R':bj} {aD:List bj}
def jq.base(d:jq w1 f x v w2)(s:w.heap.size<=w1.heap.size):jq w f x v w2:=by
 obtain⟨e,g,h,i,j,k,l,m,n,G,o,p,q,r,a⟩:=d;exact⟨e,g,h,i,j,k,l,m,n,G,o,p,q,r,λb c=>⟨by have:=(a b c).1;omega,(a b c).2⟩⟩
def jq.at'(d:jq w f x v w2):dO w x v w2:=by
 obtain⟨e,g,h,i,j,k,l,m,n,G,o,p,q,r,a⟩:=d;exact⟨e,g,h,i,j,k,l,m,n,G,o,p,q,r,λb c=>⟨(a b c).1,(a b c).2.1⟩⟩
def jq.new(d:dO w x v w2)(e:∀a,f a->a<w.heap.size):jq w f x v w2:=by
 obtain⟨g,h,i,j,k,l,m,n,o,G,p,q,r,s,b⟩:=d;exact⟨g,h,i,j,k,l,m,n,o,G,p,q,r,s,λa c=>⟨(b a c).1,(b a c).2,λt=>by have:=e a t;have:=b a c;omega⟩⟩
def zS{b:jo j}{bytes:Nat}(h:Row b bytes w D d a []):Row b bytes w (λ_=>False) d a []:=by
 have:=h.len;simp at this;subst this;exact⟨rfl,by unfold aK;omega,λi y c=>by simp at c⟩
def jq.flat(h:dO w x v w2)(a:x.st.cells=[])(b:x.Jo=[])(c:x.rows=[]):jq w f x v w2:=by
 obtain⟨i,j,k,l,m,n,o,p,q,G,r,d,e,g,t⟩:=h;rw[a]at d;rw[b]at e;rw[c]at g;exact⟨i,j,k,l,m,n,o,p,q,λ_=>False,r,by rw[a];exact zS d,by rw[b];exact zS e,by rw[c];exact zS g,λu s=>s.elim⟩
def Tz{s:Value->World->Prop}(t:jq wb f x v w1)(u:w1.heap[g]? =some (.cells n 53 (0,0)))(w:8=n.size)(F:g<wb.heap.size)(z:∀w2,ak (·=g) w1 w2->jq wb f x v w2->s v w2):
  pI (cJ XP 53) λy=>v=y/\mg XP 53 (ZQ g) y w1 λw2=>il XP 53 (ZQ g) w2 λr=>Ok s (.returned r) w2:=by
 obtain⟨c,d,e,h,i,j,k,l,m,G,rfl,A,B,C,o⟩:=t;have q:∀a,G a->¬a=g:=λa b H=>by have:=o a b;omega
 exact bN (Lt x c d e h i j k l m) ⟨rfl,az (gK x c d e h i j k l m) u w λw2 p I E=>au (gK x c d e h i j k l m) E (Ok.mk (z w2 p ⟨c,d,e,h,i,j,k,l,m,G,rfl,A.af p q,B.af p q,C.af p q,λa b=>⟨(o a b).1,by have:=(o a b).2.1;omega,(o a b).2.2⟩⟩))⟩
def _root_.Go.ar.bK.last(b:bK F w f w1)(c:ak T w1 w2)(d:∀a,T a->w.heap.size<=a):bK F w f w2:=⟨b.af.new c λa e=>.inr (d a e),b.new⟩
def _root_.Go.ar.bK.ah(a:bK F w f w1)(b:ai w1 w2):bK F w f w2:=⟨a.af.then (ai.af b),a.new⟩
def _root_.Go.ar.bK.of(a:ai w w1):bK F w F w1:=⟨ai.af a,λc b=>.inl b⟩
def Ry(l:OM g6 a)(m:Ls g6 wb F1 k r v w1)(e:bK F w F1 wb)(B:a<=w.heap.size)(f:wb.heap[g]? =some (.cells n 53 (0,0)))(o:8=n.size)(C:w.heap.size<=g)(i:¬F1 g):
  pI (cJ XP 53) λy=>v=y/\mg XP 53 (ZQ g) y w1 λw2=>il XP 53 (ZQ g) w2 λp=>Ok (Ls g6 w F k r) (.returned p) w2:=by
 obtain⟨q,s,t,u,d⟩:=m;have x:=ax f;exact Tz s (d.af.get f i) o x λw2 j z=>⟨q,z.base e.af.size,l _ _ _ _ _ t j (λc A b=>by have b:c=g:=b;subst b;exact(d.new c A).elim i λh=>oM) (λc b=>by have b:c=g:=b;omega),u,(e.trans d).last j λc b=>by have b:c=g:=b;omega⟩
def TA(e:OM g6 a){no:Int}(f:g6 w1 F1 X)(h:fH k X)(i:bK F w F1 w1)(r:a<=w.heap.size)(j:w1.heap[g]? =some (.cells n 53 (0,0)))(l:8=n.size)(s:w.heap.size<=g)(m:¬F1 g):
  mg XP 53 (ZQ g) (.agg #[XH no,XH 0,XH 0,XH 0,.slice none 0 0,.slice none 0 0,.slice none 0 0,.bool false]) w1 λw2=>il XP 53 (ZQ g) w2 λo=>Ok (Ls g6 w F k (bz no,X)) (.returned o) w2:=
 az (gK (bz no) none 0 0 none 0 0 none 0 0) j l λw2 d t p=>au (gK (bz no) none 0 0 none 0 0 none 0 0) p (Ok.mk ⟨F1,.flat (dO.plain rfl rfl rfl) rfl rfl rfl,e _ _ _ _ _ f d (λc q b=>by have b:c=g:=b;subst b;exact m q) (λc b=>by have b:c=g:=b;omega),h,i.last d λc b=>by have b:c=g:=b;omega⟩)
def pJ(a:iq w0 wb p F1 c k r v w1)(b:bK F w F1 wb)(d:w0.heap.size<=w.heap.size)(e:wb.heap[g]? =some (.cells n 53 (0,0)))(f:8=n.size)(h:w.heap.size<=g)(i:¬F1 g):
  pI (cJ XP 53) λy=>v=y/\mg XP 53 (ZQ g) y w1 λw2=>il XP 53 (ZQ g) w2 λj=>Ok (iq w0 w p F c k r) (.returned j) w2:=Ry CY a b d e f h i
def ED(a:bY w0 w1 p F1 c X)(b:fH k X)(d:bK F w F1 w1)(e:w0.heap.size<=w.heap.size)(f:w1.heap[g]? =some (.cells n 53 (0,0)))(h:8=n.size)(i:w.heap.size<=g)(j:¬F1 g):
  mg XP 53 (ZQ g) (.agg #[XH 0,XH 0,XH 0,XH 0,.slice none 0 0,.slice none 0 0,.slice none 0 0,.bool false]) w1 λw2=>il XP 53 (ZQ g) w2 λl=>Ok (iq w0 w p F c k (bz 0,X)) (.returned l) w2:=TA CY a b d e f h i j
def ON{no:Int}:Calls XP 35 #[XH no] w (Ok λv w'=>dO w (bz no) v w'/\ai w w'):=
 zU (PA.mk λw2 b g c=>az (gK (bz no) none 0 0 none 0 0 none 0 0) c rfl λh d i e=>au (gK (bz no) none 0 0 none 0 0 none 0 0) e (Ok.mk ⟨dO.plain rfl rfl rfl,b.new d λf a=>.inr (by have a:f=w.heap.size:=a;omega)⟩))
def gg{no:Int}(b:bY w0 w p F c X)(d:fH k X):Calls XP 35 #[XH no] w (Ok (iq w0 w p F c k (bz no,X))):=
 Calls.ok ON λv w' ⟨e,a⟩=>⟨F,.flat e rfl rfl rfl,b.ah a,d,bK.of a⟩
def EE:(eD e0 e).isSome=decide (0<=e/\e<e0.length):=by
 by_cases h:0<=e/\e<e0.length
 ·rw[decide_eq_true h];unfold eD
  rw[if_pos h.1,Qq oM];rfl
 ·rw[Xv h,Jp.2 oM];rfl
def cF.n7(a:cF w F cls p h now c rs eg)(b:h.ps=rs.map (·.1)):h.n=rs.length:=by
 have:=a.mf.len dC;rw[b,Q8]at this;exact this
def qR(f:bY w0 w p F c X):Calls XP 27 #[ZQ p,XH e] w (Ok λv w'=>v= .bool (eD X.aD e).isSome/\w=w'):=by
 obtain⟨h,cls,rs,d,g,i,k,l,m⟩:=f;have j:=d.n7 g;rw[EE,i,Q8];refine mD (al.dec (λb=>⟨p,0,rfl,_,_,_,ae d.cell rfl,Ok.mk ⟨?_,rfl⟩⟩) (λb=>Ok.mk ⟨?_,rfl⟩))
 ·rw[j];congr 1;exact decide_eq_decide.2 ⟨λa=>⟨b,a⟩,λa=>a.2⟩
 ·congr 1;exact(Xv λa=>b a.1).symm
def cF.ptr(e:cF w F cls p h now c rs eg)(f:h.ps=rs.map (·.1))(j:rs[i]? =some y)(r:rs.length<=1000):∃a b,h.a=some ⟨a,b,none⟩/\i<h.n/\w.cell? ⟨a,b+i,none⟩=some (ZQ y.1)/\F a/\cls a=0:=by
 have s:=e.n7 f;have t:=(Qv.1 j).1;obtain⟨a,b,k,u,l,-,m,d,g,n⟩:=(e.mf.row (bytes:=8) dC (by rw[f,Q8];unfold aK;omega)).yV (i:=i) oM;have o:k=y.1:=by rw[f,Q9,j]at d;injection d with d;exact d.symm
 obtain⟨rfl,-⟩:=n;have g:=g 0 dC;subst o;have q:=e.c0.2.2.2 a m;exact⟨a,b,l,oM,by simpa[show VG.k=1 from rfl]using g,q.1⟩
def cF.self(a:cF w F cls p h now c rs eg):F p/\cls p=0:=a.c0.1
def lz{e i:Type}{f:e->i}:∀{a:List e} {g:Nat} {d b:e},a[g]? =some d->f b=f d->(a.set g b).map f=a.map f
 |x::a,0,d,b,c,h=>by simp at c;subst c;simp[h]
 |x::a,g+1,d,b,c,h=>by simp at c;simp[lz c h]
def bY.Jq(a:cF w F cls p h now c (rs.set i (y.1,R')) eg)(b:rs[i]? =some y)(d:h.ps=rs.map (·.1))(e:aD=rs.map (·.2))(f:rs.length=c.aD.toNat)(g:iS c 0)(j:Env w0 w F):bY w0 w p F c ⟨aD.set (i:Int).toNat R',eg,now⟩:=
 ⟨h,cls,_,a,by rw[d];exact(lz (f:=(·.1)) (b:=(y.1,R')) b rfl).symm,by dsimp only;rw[e,List.map_set,Qx],by rw[List.length_set];exact f,g,j⟩
def iq.rep{R':bj}(g:cF w F cls p h X.now c rs X.eg)(j:h.ps=rs.map (·.1))(l:X.aD=rs.map (·.2))(m:rs.length=c.aD.toNat)(n:iS c 0)(o:Env w0 w F)(d:rs[i]? =some y)(q:dO w x v w')(r:x.st.cells=[])(s:x.Jo=[])(t:x.rows=[])(u:bO w' y.1 G' c i R')(z:bK (λe=>F e/\cls e=i+2) w G' w')(a:fH k X)(A:Fit (k+1) R'):
  iq w0 w p F c (k+1) (x,⟨X.aD.set (i:Int).toNat R',X.eg,X.now⟩) v w':=by
 obtain⟨F1,H,b,f,I,-⟩:=CX g eL d u z;refine⟨F1,.flat q r s t,bY.Jq b d j l m n (o.gv f),?_,f⟩;exact⟨λB C=>(List.mem_or_eq_of_mem_set C).elim (λb=>(a.aD B b).mono) λE=>E▸A,a.MA,by have h:=a.now;show X.now<=_;omega⟩
def GW(c:aw)(a:Int)(b:bR)(d:Int):(kY c a b d).length<=2:=by
 have f:∀(e:Prop) [Decidable e] (g:bR),(if e then [g]else([]:List bR)).length<=1:=λe _ g=>by split<;>simp
 unfold kY
 by_cases h:b.kind≠1/\b.kind≠2
 ·rw[if_pos h];simp
 rw[if_neg h];have j:=f (0<(c.missing b.vec (max 1 (min d 32))).length) ⟨3,a,b.bw,[],c.missing b.vec (max 1 (min d 32))⟩;have k:=f (b.kind=1/\(lA b.vec c.vec=2\/lA b.vec c.vec=3)) ⟨2,a,b.bw,c.vec,[]⟩;dsimp only;generalize(if 0<(c.missing b.vec (max 1 (min d 32))).length then [(⟨3,a,b.bw,[],c.missing b.vec (max 1 (min d 32))⟩:bR)]else [])=l at j;generalize(if b.kind=1/\(lA b.vec c.vec=2\/lA b.vec c.vec=3)then [(⟨2,a,b.bw,c.vec,[]⟩:bR)]else [])=m at k
 by_cases i:(l++m).isEmpty=true
 ·rw[if_pos i];simp
 ·rw[if_neg i,QX];omega
def GX(c:bP)(a:Int)(X:bj)(b:bR):(cg c a X b).1.length<=2:=by
 unfold cg
 cases X.log with
 |none=>simp
 |some d=>
  dsimp only;split
  ·simp
  split
  ·simp
  split
  ·unfold nm
   dsimp only;split
   ·simp
   split<;>simp
  split
  ·exact GW _ _ _ _
  split<;>simp
def vL(b:cF w F cls p h now c rs eg)(d:rs[i]? =some y)(e:F a/\cls a=0):¬(F a/\cls a=i+2):=λf=>by omega
def CZ(o:bY w0 w p F c X)(q:fH k X)(hk:k<=1000)(e:Option bR){z A:Option Addr}{B N C O:Nat}(hv:Row aJ 8 w D z B (e.getD tS).vec)(b1:Row jj 96 w D A C (e.getD tS).events)(r:∀b,D b->b<w.heap.size/\¬F b):
  Calls XP 61 #[ZQ p,gM (e.getD tS) z B N A C O,.bool e.isSome] w (Ok (iq w0 w p F c (k+1) (jW c X e))):=by
 have a1:=o.aB;have E:=o.env.gr.size;refine mE (PA.mk λw1 k1 s1 P=>PA.mk λw2 H s2 I=>?_);have j:=k1.then H;have J:=o.ah j;have z2:=j.size;have s:¬F w1.heap.size:=λd=>by have:=a1 _ d;omega
 cases e with
 |none=>exact al.tt rfl (PC.ok (gg J q.mono) λv w' l=>pJ l (bK.of j) E I rfl oM s)
 |some a=>
  refine al.ff rfl ⟨_,ae (H.get P id) rfl,PC.ok (qR J) ?_⟩;rintro _ _ ⟨rfl,rfl⟩;refine⟨_,rfl,?_⟩;show al (!(eD X.aD a.ng).isSome) _ _
  cases K:eD X.aD a.ng with
  |none=>
   have d:jW c X (some a)=(bz 1,X):=by unfold jW;dsimp only;rw[K]
   rw[d];exact al.tt rfl (PC.ok (gg J q.mono) λv w' l=>pJ l (bK.of j) E I rfl oM s)
  |some R=>
   obtain⟨f,Q,S⟩:=jX K;have d:jW c X (some a)=(bz (cg c f R a).2.1,X.put f (cg c f R a).2.2 (cg c f R a).1):=by unfold jW;dsimp only;rw[K];dsimp only;rw[Q]
   rw[d];refine al.ff rfl λT d3=>?_;have t:ai w2 T:=d3.af;have m:=j.then t;obtain⟨h,cls,rs,g,U,L,a5,M,V⟩:=o.ah m;obtain⟨a6,b8,b9⟩:=M.aD;rw[L,Q9]at S;obtain⟨y,i,rfl⟩:=Option.map_eq_some_iff.1 S;obtain⟨b,e,b2,c0,a2,c1⟩:=g.ptr U i oM;have W:=t.get (H.get P id) id;have Y:=cF.rep g i;have a7:y.2∈X.aD:=by rw[L];exact Xk.2 ⟨y,QZ i,rfl⟩
   have Z:=q.aD _ a7;have b3:=Y.waits;have b4:=M.OO;have z3:=m.size;have c2:=t.size;refine⟨p,0,rfl,_,_,_,ae g.cell rfl,_,ae W rfl,b,e,b2,by show(0:Int)<=a.ng;omega,by show a.ng<_;omega,_,by show T.cell? ⟨b,e+Int.toNat a.ng,none⟩=_;rw[Q,Qx];exact a2,au (dT a z B N A C O) W ?_⟩;refine PC.ok (GY Y V.part (hv.ah m) (λb n=>⟨by have:=(r b n).1;omega,λd=>(r b n).2 d.1⟩) (b1.ah m) (λb n=>⟨by have:=(r b n).1;omega,λd=>(r b n).2 d.1⟩) (by have:=Z.evs;omega)) ?_;rintro _ w4 ⟨v1,G',rfl,u,a8,a0⟩;have a9:=Ca c f y.2 a b3 b4.2;have b0:=GX c f y.2 a;generalize cg c f y.2 a=dl at u a8 a9 b0;obtain⟨oa,on,oc,a3,Do,rfl,u⟩:=u;have np:=vL g i g.self;refine⟨oa,on,oc,_,rfl,p,0,rfl,_,ae (a0.af.get g.cell np) rfl,?_⟩;refine PC.ok (zR g i a8 a0 ⟨oa,on,oc,a3,Do,rfl,u⟩ oM) ?_;rintro _ w5 ⟨a4,F5,c3,rfl,b5,x,-⟩;have b6:¬F5 w1.heap.size:=λd=>(x.new _ d).elim s λh=>by omega
   have b7:bY w0 w5 p F5 c (X.put f dl.2.2 dl.1):=bY.Jq b5 i U L a5 M (V.gv x);exact⟨a4,rfl,PC.ok (gg b7 (q.put (Z.GZ a9))) λv w' l=>pJ l (bK.after m x) E (x.af.get (t.get I id) s) rfl oM b6⟩
def cF.take(b:cF w F cls p h now c rs eg)(g:aH e):Calls XP 62 #[ZQ h.q,XH e] w (Ok λv w'=>zV w (eE eg e) v w'/\cF w' F cls p h now c rs (gN eg e)/\ak (λd=>F d/\cls d=1) w w'):=by
 refine Calls.ok (G_ b.UL g) λv w' ⟨i,j,f⟩=>⟨i,?_,f⟩
 refine aT.same b eL f j λl G m a=>?_
 match l,m,a with
 |0,_,a=>exact a
 |k+2,_,a=>exact a
def Ha(e:bY w0 w p F c X)(r:fH k X)(t:k<=1000)(u:s.Ok):
  Calls XP 29 #[ZQ p,iN s] w (Ok (iq w0 w p F c (k+1) (jW c ⟨X.aD,gN X.eg s.n,X.now⟩ (eE X.eg s.n)))):=by
 have f:=e.aB;have x:=e.env.gr.size;refine kH (PA.mk λw1 y P z=>PA.mk λw2 g Q A=>λl B=>?_);have i:ai w2 l:=B.af;have j:=(y.then g).then i;have R:=j.size;have S:=g.size;obtain⟨h,cls,rs,m,C,E,H,I,J⟩:=e.ah j;refine⟨p,0,rfl,_,ae m.cell rfl,_,ae (i.get (g.get z id) id) rfl,PC.ok (m.take u.n) ?_⟩;rintro _ K ⟨⟨T,U,V,W,Y,Z,G,rfl,L,M,n⟩,N,o⟩;have q:bK F l F K:=⟨o.mono λb _ a=>a.1,λb a=>.inl a⟩
 refine bN (C_ _ _ _ _ _ _ _) ⟨_,rfl,PC.ok (CZ (X:=⟨X.aD,gN X.eg s.n,X.now⟩) ⟨h,cls,rs,N,C,E,H,I,J.gv q⟩ r.eg t _ L M λb a=>⟨(n b a).2,λd=>by have:=f b d;have:=n b a;omega⟩) λv w' O=>pJ O (bK.after j q) x (o.get (i.get A id) λd=>by have:=f _ d.1;omega) rfl oM λd=>by have:=f _ d;omega⟩
def Jr(a:bY w0 w p F c X)(o:fH k X)(q:k<=1000)(E:s.Ok):
  Calls XP 30 #[ZQ p,iN s] w (Ok (iq w0 w p F c (k+1) (jW c X (eE X.eg s.n)))):=by
 have j:=a.aB;have r:=a.env.gr.size;refine lC (PA.mk λw1 t H u=>PA.mk λw2 d I x=>λy z=>?_);have e:ai w2 y:=z.af;have b:=(t.then d).then e;have J:=b.size;have K:=d.size;obtain⟨h,cls,rs,l,-⟩:=a.ah b;refine⟨p,0,rfl,_,ae l.cell rfl,_,ae (e.get (d.get u id) id) rfl,PC.ok (xk l.UL) ?_⟩;rintro _ L ⟨⟨M,N,O,P,Q,R,G,rfl,A,B,m⟩,f⟩;refine bN (C_ _ _ _ _ _ _ _) ⟨_,rfl,PC.ok (CZ (a.ah (b.then f)) o q _ A B λg n=>⟨(m g n).2,λi=>by have:=j g i;have:=m g n;omega⟩) λv w' C=>pJ C (bK.of (b.then f)) r (f.get (e.get x id) id) rfl oM λi=>by have:=j _ i;omega⟩
def OP(x:bY w0 w p F c X)(C:fH k X)(E:s.Ok):
  Calls XP 31 #[ZQ p,iN s] w (Ok (iq w0 w p F c k (bz (if(eE X.eg s.n).isSome then 0 else 14),⟨X.aD,gN X.eg s.n,X.now⟩))):=by
 have l:=x.aB;have H:=x.env.gr.size;refine nn (PA.mk λw1 P s1 Q=>PA.mk λw2 y s2 R=>λg S=>?_);have o:ai w2 g:=S.af;have m:=(P.then y).then o;have z3:=m.size;have z2:=y.size;have b0:=o.size;obtain⟨h,cls,rs,q,T,U,V,W,Y⟩:=x.ah m;have Z:=o.get (y.get Q id) id;have I:=o.get R id;have J:=q.self;have n:∀{e:World} (a:Bool),cF e F cls p h X.now c rs (gN X.eg s.n)->bK F g F e->e.heap[w1.heap.size]? =some (.cells (fg (bz 0) none 0 0 none 0 0 none 0 0).toArray 53 (0,0))->al (!a) (PC XP 35 #[XH 14] e (λa4 a5=>pI (cJ XP 53) λK=>a4=K/\mg XP 53 (ZQ w1.heap.size) K a5 λL=>il XP 53 (ZQ w1.heap.size) L λa6=>Ok (iq w0 w p F c k (bz (if a then 0 else 14),⟨X.aD,gN X.eg s.n,X.now⟩)) (.returned a6) L) (λch a0=>Ok (iq w0 w p F c k (bz (if a then 0 else 14),⟨X.aD,gN X.eg s.n,X.now⟩)) (.panicked ch) a0))
   (mg XP 53 (ZQ w1.heap.size) (.agg #[XH 0,XH 0,XH 0,XH 0,.slice none 0 0,.slice none 0 0,.slice none 0 0,.bool false]) e λM=>il XP 53 (ZQ w1.heap.size) M λa7=>Ok (iq w0 w p F c k (bz (if a then 0 else 14),⟨X.aD,gN X.eg s.n,X.now⟩)) (.returned a7) M):=λ{e} a z A r=>by
  have N:bY w0 e p F c ⟨X.aD,gN X.eg s.n,X.now⟩:=⟨h,cls,rs,z,T,U,V,W,Y.gv A⟩
  cases a with
  |false=>exact al.tt rfl (PC.ok (gg N C.eg) λv w' hq=>pJ hq (bK.after m A) H r rfl oM λb=>by have:=l _ b;omega)
  |true=>exact al.ff rfl (ED N C.eg (bK.after m A) H r rfl oM λb=>by have:=l _ b;omega)
 have t:∀a,w.heap.size<=a->¬(F a/\cls a=1):=λa d b=>by have:=l _ b.1;omega
 have a8:=l p J.1;refine⟨λa=>(F a/\cls a=1)\/g.heap.size<=a,p,0,rfl,λb=>b.elim (λh=>by have:=h.2;have:=J.2;omega) (λh=>Nat.lt_irrefl _ (Qk a8 (Xx m.size h))),_,ae q.cell rfl,λb=>b.elim (t _ oM) (λh=>by have h:g.heap.size<=w.heap.size:=h;omega),_,ae Z rfl,PC.ok (q.take E.n) ?_,PA.mk λu f s4 g4=>⟨ai.af f,PC.ok (cF.take (cF.ah q f) E.n) ?_⟩⟩
 ·rintro _ u ⟨⟨va,vn,vc,ea,en,ec,G,rfl,-⟩,a9,f⟩
  have z4:=f.size;refine bN (C_ _ _ _ _ _ _ _) ⟨_,rfl,f.mono λa _ d=>.inl d,PA.mk λe i s5 r=>⟨ai.af i,az (dT _ _ _ _ _ _ _) r rfl λO j s6 g6=>⟨j.mono λa d b=>.inr (by have b:a=u.heap.size:=b;omega),?_⟩⟩⟩;have B:ai u O:=i.new j λa d=>.inr (by have d:a=u.heap.size:=d;omega);exact n (eE X.eg s.n).isSome (cF.ah a9 B) ⟨(f.mono λa _ d=>d.1).then (ai.af B),λa d=>.inl d⟩ (B.get (f.get I (t _ oM)) id)
 ·rintro _ e ⟨⟨va,vn,vc,ea,en,ec,G,rfl,-⟩,z,i⟩
  have z5:=i.size;refine bN (C_ _ _ _ _ _ _ _) ⟨_,rfl,i.mono λa _ d=>.inl d,az (dT _ _ _ _ _ _ _) (i.get g4 (t _ oM)) rfl λO j s6 g6=>⟨j.mono λa d b=>.inr (by have b:a=g.heap.size:=b;omega),?_⟩⟩;refine n (eE X.eg s.n).isSome (aT.af z eL j λa d b=>by have b:a=g.heap.size:=b;have:=l _ d;omega) ⟨?_,λa d=>.inl d⟩ (j.get (i.get (f.get I id) (t _ oM)) λb=>by have b:w1.heap.size=g.heap.size:=b;omega);exact((ai.af f).then (i.mono λa _ d=>d.1)).new j λa b=>.inr (by have b:a=g.heap.size:=b;omega)
end
section
variable {w w' w0 w1 w2 wb:World} {p i k g:Nat} {F F1 F' G G' T D:Nat->Prop} {cls cls':Nat->Nat} {h:Jl} {c:bP} {X:dS} {s:fG} {x:gA} {v:Value} {r:gA×dS} {now:Int} {rs:List (Nat×bj)} {eg:List bR} {y:Nat×bj} {R R':bj} {aD:List bj}
def OQ(c:bP)(a:Int)(X:bj)(b now:Int):(gO c a X b now).1.length<=1:=by
 unfold gO;split<;>simp
def Js(l:bY w0 w p F c X)(e:eD X.aD i=some R):∃h cls rs y,cF w F cls p h X.now c rs X.eg/\h.ps=rs.map (·.1)/\X.aD=rs.map (·.2)/\rs.length=c.aD.toNat/\iS c 0/\Env w0 w F/\rs[i]? =some y/\y.2=R/\(∃a f,h.a=some ⟨a,f,none⟩/\i<h.n/\w.cell? ⟨a,f+i,none⟩=some (ZQ y.1)/\F a/\cls a=0)/\R∈X.aD:=by
 obtain⟨h,cls,rs,g,j,b,m,k,n⟩:=l;obtain⟨o,q,r⟩:=k.aD;rw[Da,b,Q9]at e;obtain⟨y,d,rfl⟩:=Option.map_eq_some_iff.1 e;exact⟨h,cls,rs,y,g,j,b,m,k,n,d,rfl,g.ptr j d oM,by rw[b];exact Xk.2 ⟨y,QZ d,rfl⟩⟩
def OR(e:bY w0 w p F c X)(u:fH k X)(Q:s.Ok)(x:eD X.aD s.n=some R):
  Calls XP 33 #[ZQ p,iN s] w (Ok (iq w0 w p F c (k+1) (if(eD X.aD s.m).isNone\/s.m=s.n then(bz 1,X)else(bz 0,X.put s.n (gO c s.n R s.m X.now).2 (gO c s.n R s.m X.now).1)))):=by
 have S:=e.aB;have E:=e.env.gr.size;refine nq (PA.mk λw1 T s1 U=>PA.mk λw2 H s2 I=>?_);have f:=T.then H;have z2:=f.size;have z:∀a,w.heap.size<=a->¬F a:=λa i d=>by have:=S _ d;omega
 have j:=H.get U id;have no:∀{r},r=(bz 1,X)->PC XP 35 #[XH 1] w2 (λv w'=>pI (cJ XP 53) λy=>v=y/\mg XP 53 (ZQ w1.heap.size) y w' λw2=>il XP 53 (ZQ w1.heap.size) w2 λV=>Ok (iq w0 w p F c (k+1) r) (.returned V) w2) (λW w'=>Ok (iq w0 w p F c (k+1) r) (.panicked W) w'):=λd=>by
  rw[d];exact PC.ok (gg (e.ah f) u.mono) λv w' Y=>pJ Y (bK.of f) E I rfl oM (z _ oM)
 refine⟨_,ae j rfl,PC.ok (qR (e.ah f)) ?_⟩;rintro _ _ ⟨rfl,rfl⟩;refine⟨_,rfl,al.mk (λg=>no (if_pos (.inl (by simpa using g)))) (λg=>⟨_,ae j rfl,_,ae j rfl,al.dA (λA=>no (if_pos (.inr A))) (λA=>?_)⟩)⟩;rw[if_neg (by
         rintro(l|l);·simp at g;rw[Option.isNone_iff_eq_none]at l;rw[l]at g;simp at g
         ·exact A l)]
 intro Z d3;have m:ai w2 Z:=d3.af;have B:=f.then m;have z3:=B.size;have b3:=m.size;have J:=m.get j id;obtain⟨C,n,-⟩:=jX x;rw[n]at x⊢;obtain⟨h,cls,rs,y,b,a4,hX,a0,a5,he,o,rfl,⟨a,a1,a6,b4,a2,b5⟩,a3⟩:=Js (e.ah B) x;have hr:=cF.rep b o;have np:=vL b o b.self;have a7:=b.self;refine⟨λa=>F a/\cls a≠0,p,0,rfl,λd=>d.2 a7.2,_,ae b.cell rfl,p,0,rfl,_,_,_,ae b.cell rfl,_,ae J rfl,a,a1,a6,by rw[n];omega,by rw[n];omega,_,by rw[n,Qx];exact a2,_,ae J rfl,p,0,rfl,_,ae b.cell rfl,PC.ok (EF hr Q.m) ?_⟩;rintro _ w4 ⟨G',q,K,L⟩;have M:=Jt c C y.2 s.m X.now;have a8:=OQ c C y.2 s.m X.now;generalize gO c C y.2 s.m X.now=dl at q K M a8;obtain⟨N,O,P,a9,Do,rfl,q⟩:=q;refine⟨N,O,P,rfl,L.af.mono λa _ i=>⟨i.1,oM⟩,PC.ok (zR b o K L ⟨N,O,P,a9,Do,rfl,q⟩ oM) ?_⟩;rintro _ w5 ⟨b0,F5,b6,rfl,b1,t,b2⟩;exact⟨b0,rfl,b2.mono λa _ i=>⟨i.1,oM⟩,ED (bY.Jq b1 o a4 hX a0 a5 (he.gv t)) (u.put ((u.aD _ a3).GZ M)) (bK.after B t) E (t.af.get (m.get I id) (z _ oM)) rfl oM λd=>(t.new _ d).elim (z _ oM) λh=>oM⟩
def Rz(O:bY w0 w p F c X)(K:fH k X)(hk:k<=1000)(P:s.Ok)(L:eD X.aD s.n=some R):
  Calls XP 34 #[ZQ p,iN s] w (Ok (iq w0 w p F c (k+1) ((iI c s.n R s).1,⟨X.aD.set s.n.toNat (iI c s.n R s).2,X.eg,X.now⟩))):=by
 have Q:=O.aB;have S:=O.env.gr.size;obtain⟨a,A,-⟩:=jX L;rw[A]at L⊢;refine oF (PA.mk λw1 k1 s1 g1=>PA.mk λw2 k2 s2 g2=>λg d3=>?_);have T:ai w2 g:=d3.af;have a3:=(k1.then k2).then T;have z3:=a3.size;have z2:=k2.size;have b9:=T.size;have a4:=T.get (k2.get g1 id) id;obtain⟨h,cls,rs,y,a5,a6,hX,a1,a7,b3,U,V,⟨b,b4,b5,c0,b6,b7⟩,b1⟩:=Js (O.ah a3) L;have c1:=Q p a5.self.1;have c2:=Q b b7.1;have n1:¬g.heap.size<=p:=oM
 have n2:¬g.heap.size<=w.heap.size:=oM
 have n3:¬g.heap.size<=b:=oM
 refine⟨λb=>g.heap.size<=b,p,0,rfl,n1,_,_,_,ae a5.cell rfl,n2,_,ae a4 rfl,b,b4,b5,by rw[A];omega,by rw[A];omega,n3,_,by rw[A,Qx];exact b6,n2,?_⟩;refine Lu (es:=gP s.cmd) (xl s.cmd) a4 (λa A=>by rcases a with _|_|_|_|_|_|_|a<;>first|rfl|exact absurd A (by simp[gP])) (PA.mk λw4 k4 s4 g4=>⟨ai.af k4,az (xl s.cmd) g4 rfl λl k5 s5 B=>⟨k5.mono λb _ d=>by have d:b=g.heap.size:=d;omega,?_⟩⟩);have C:ai g l:=k4.new k5 λb W=>.inr (by have W:b=g.heap.size:=W;omega);have a9:=a3.then C;have z5:=a9.size;have c3:=C.size;have M:=C.get a4 id;have Y:=C.get (T.get g2 id) id;have E:¬F w1.heap.size:=λd=>by have:=Q _ d;omega
 have Z:bK F w F l:=bK.of a9;have hp:=cF.ah a5 C;have H:=b3.ah C;rw[<-V];rw[<-V]at b1;have m:=cF.rep hp U;have a0:=K.aD _ b1;have hl:=a0.evs;have a2:∀{x:gA} {R':bj} {v:Value} {w':World} {G':Nat->Prop},iI c a y.2 s=(x,R')->dO l x v w'->x.st.cells=[]/\x.Jo=[]/\x.rows=[]->bO w' y.1 G' c a R'->bK (λb=>F b/\cls b=a+2) l G' w'->iU y.2 R'->pI (cJ XP 53) λe=>v=e/\mg XP 53 (ZQ w1.heap.size) e w' λw2=>il XP 53 (ZQ w1.heap.size) w2 λe=>Ok (iq w0 w p F c (k+1) ((iI c a y.2 s).1,⟨X.aD.set (a:Int).toNat (iI c a y.2 s).2,X.eg,X.now⟩)) (.returned e) w2:=λ{x R' v w' G'} d f ⟨e1,e2,e3⟩ n b0 hg=>by
  rw[d];exact pJ (iq.rep hp a6 hX a1 a7 H U f e1 e2 e3 n b0 K (a0.GZ hg)) Z S Y rfl oM E
 have b2:∀{no:Int} {R':bj} {w':World} {G':Nat->Prop},iI c a y.2 s=(bz no,R')->bO w' y.1 G' c a R'->bK (λb=>F b/\cls b=a+2) l G' w'->iU y.2 R'->PC XP 35 #[XH no] w' (λv w'=>pI (cJ XP 53) λe=>v=e/\mg XP 53 (ZQ w1.heap.size) e w' λw2=>il XP 53 (ZQ w1.heap.size) w2 λe=>Ok (iq w0 w p F c (k+1) ((iI c a y.2 s).1,⟨X.aD.set (a:Int).toNat (iI c a y.2 s).2,X.eg,X.now⟩)) (.returned e) w2) (λch w'=>Ok (iq w0 w p F c (k+1) ((iI c a y.2 s).1,⟨X.aD.set (a:Int).toNat (iI c a y.2 s).2,X.eg,X.now⟩)) (.panicked ch) w'):=λ{no R' w' G'} d n b0 hg=>by
  obtain⟨F',-,o,q,r⟩:=iq.rep (x:=bz no) (v:=.agg (fg (bz no) none 0 0 none 0 0 none 0 0).toArray) hp a6 hX a1 a7 H U (dO.plain rfl rfl rfl) rfl rfl rfl n b0 K (a0.GZ hg);rw[d];exact PC.ok (gg o q) λv w2 hq=>pJ hq (Z.trans r) S (r.af.get Y E) rfl oM λd=>(r.new _ d).elim E λh=>by omega
 have a8:∀{x:gA} {v:Value} {w':World},iI c a y.2 s=(x,y.2)->dO l x v w'->ai l w'->pI (cJ XP 53) λe=>v=e/\mg XP 53 (ZQ w1.heap.size) e w' λw2=>il XP 53 (ZQ w1.heap.size) w2 λe=>Ok (iq w0 w p F c (k+1) ((iI c a y.2 s).1,⟨X.aD.set (a:Int).toNat (iI c a y.2 s).2,X.eg,X.now⟩)) (.returned e) w2:=λ{x v w'} d f i=>by
  rw[d];refine pJ ⟨F,.new f λb W=>by have:=Q b W;omega,?_,?_,bK.of i⟩ Z S Y rfl oM E
  ·show bY w0 w' p F c ⟨X.aD.set (a:Int).toNat y.2,X.eg,X.now⟩
   rw[V,EG L];exact O.ah (a9.then i)
  ·show fH (k+1) ⟨X.aD.set (a:Int).toNat y.2,X.eg,X.now⟩
   rw[V,EG L];exact K.mono
 refine⟨_,ae M rfl,al.dA (λj=>?_) (λj=>?_)⟩
 ·refine au (xl s.cmd) B (PC.ok (Hb m H.part P.cmd oM) ?_)
  rintro _ I ⟨G',f,t,u⟩;exact a2 (by unfold iI;rw[if_pos j]) f (by split<;>exact⟨rfl,rfl,rfl⟩) t u (Ju c a y.2 s.cmd)
 refine al.dA (λz=>?_) (λz=>?_)
 ·refine⟨_,ae M rfl,PC.ok (MB m H.part P.m) ?_⟩
  rintro _ I ⟨G',rfl,t,u,b8⟩;exact⟨_,rfl,b2 (by unfold iI;rw[if_neg j,if_pos z]) t u ⟨.inr b8,by unfold vM;rw[xm];exact Qj _⟩⟩
 refine al.dA (λJ=>?_) (λJ=>?_)
 ·refine PC.ok (Hc m H.part oM) ?_
  rintro _ I ⟨G',rfl,t,u⟩;exact⟨_,rfl,b2 (by unfold iI;rw[if_neg j,if_neg z,if_pos J]) t u (Cb c y.2)⟩
 refine al.dA (λN=>?_) (λN=>?_)
 ·refine⟨_,ae B rfl,_,ae B rfl,_,ae M rfl,PC.ok (Jv m P.m) ?_⟩
  rintro _ I ⟨f,i⟩;exact a8 (by unfold iI;rw[if_neg j,if_neg z,if_neg J,if_pos N]) f i
 refine al.dA (λh4=>?_) (λh4=>?_)
 ·refine⟨_,ae B rfl,_,ae B rfl,PC.ok (RA m) ?_⟩
  rintro _ I ⟨f,i⟩;exact a8 (by unfold iI;rw[if_neg j,if_neg z,if_neg J,if_neg N,if_pos h4]) f i
 refine al.dA (λh5=>?_) (λh5=>?_)
 ·refine⟨_,ae B rfl,_,ae M rfl,PC.ok (MC m) ?_⟩
  rintro _ I ⟨f,i⟩;exact a8 (by unfold iI;rw[if_neg j,if_neg z,if_neg J,if_neg N,if_neg h4,if_pos h5]) f i
 ·refine⟨_,ae M rfl,PC.ok (OS m P.m) ?_⟩
  rintro _ I ⟨G',rfl,t,u⟩;have d:iI c a y.2 s=(bz 0,{y.2 with D:=y.2.D.OT s.m}):=by unfold iI;rw[if_neg j,if_neg z,if_neg J,if_neg N,if_neg h4,if_neg h5]
  obtain⟨F',-,o,q,r⟩:=iq.rep (x:=bz 0) (v:=.agg (fg (bz 0) none 0 0 none 0 0 none 0 0).toArray) hp a6 hX a1 a7 H U (dO.plain rfl rfl rfl) rfl rfl rfl t u K (a0.GZ ⟨.inl (by dsimp only;omega),by dsimp only;omega⟩);rw[d];exact⟨rfl,ED o q (Z.trans r) S (r.af.get Y E) rfl oM λd=>(r.new _ d).elim E λh=>oM⟩
def OU(r:bY w0 w p F c X)(t:fH k X)(hk:k<=999):
  Calls XP 32 #[ZQ p,iN s] w (Ok (iq w0 w p F c (k+1) (bz 0,Hd X))):=by
 have a6:=r.aB;have b7:=r.env.gr.size;refine ns (PA.mk λw1 k1 s1 g1=>PA.mk λw2 k2 s2 g2=>?_);have u:=k1.then k2;have z2:=u.size;obtain⟨h,cls,rs,m,E,v,c6,H,I⟩:=r.ah u;obtain⟨a4,a7,a8⟩:=H.aD;have J:∀b,w.heap.size<=b->¬F b:=λb i f=>by have:=a6 _ f;omega
 have c8:=t.MA;have c9:=t.now;have b8:IntKind.wrap .i64 (X.now+1)=X.now+1:=wrap_i64 (by unfold aH;omega);have d0:=m.self;refine⟨p,0,rfl,_,ae m.cell rfl,p,0,rfl,PS.mk m.cell sM λw3 k3 s3 K=>?_⟩;rw[b8]at K;obtain⟨n,L⟩:=cF.VY (now':=X.now+1) m k3 (by rw[K];rfl);have c7:=n.mf;have hn:=cF.n7 n E;refine⟨p,0,rfl,_,_,_,ae n.cell rfl,λM a0 w'=>∃(a:Nat) (F1:Nat->Prop) (o:Nat->Nat) (d:List (Nat×bj)) (j:List bR),a0=a/\a<=h.n/\M=h.n-a/\cF w' F1 o p h (X.now+1) c d j/\h.ps=d.map (·.1)/\d.length=rs.length/\
  (List.range a).foldl tT ⟨X.aD,X.eg,X.now+1⟩=⟨d.map (·.2),j,X.now+1⟩/\bK F w3 F1 w'/\fH (k+1) ⟨d.map (·.2),j,X.now+1⟩,
  ⟨_,0,F,cls,rs,X.eg,rfl,Qj _,rfl,n,E,rfl,by rw[v];rfl,bK.refl _ _,?_⟩,?_⟩
 ·rw[<-v];exact⟨λR hR=>(t.aD R hR).mono,by show 0<=X.now+1;omega,by show X.now+1<=_;omega⟩
 rintro M _ _ w4 ⟨a,F1,o,d,j,rfl,hj,rfl,x,z,b9,N,O,A⟩;have z3:=L.af.size;have l:=L.trans O;have c1:∀b,w.heap.size<=b->b<w2.heap.size->¬F1 b:=λb i d1 f=>(l.new b f).elim (J b i) λh=>by omega
 refine al.dec (λd2=>?_) (λd3=>?_)
 ·have e:d[a]? =some d[a]:=Qq oM
  generalize d[a]=y at e;obtain⟨b,a1,c2,d4,a5,d6⟩:=cF.ptr x z e oM;refine⟨b,a1,c2,oM,oM,_,by rw[Qx];exact a5,λP d5=>?_⟩;have B:ai w4 P:=d5.af;have g:=cF.ah x B;have hr:=cF.rep g e;have d7:Env w0 P F1:=(I.gv l).ah B;have np:=vL g e g.self;have c3:=g.self;have b1:y.2∈d.map (·.2):=Xk.2 ⟨y,QZ e,rfl⟩;have C:=A.aD _ b1;refine⟨λb=>F1 b/\o b≠0,p,0,rfl,λf=>f.2 c3.2,_,ae g.cell rfl,p,0,rfl,_,ae g.cell rfl,PC.ok (OV hr (by have:=C.asked;omega)) ?_⟩;rintro _ w6 ⟨G',q,Q,S⟩;have T:=C.tick a (X.now+1);have b4:(pK a y.2 (X.now+1)).1.length<=1001:=by unfold pK;dsimp only;rw[Q8];have:=Lw y.2.fI (X.now+1);have:=C.asked;omega
  have U:(List.range (a+1)).foldl tT ⟨X.aD,X.eg,X.now+1⟩=(⟨d.map (·.2),j,X.now+1⟩:dS).put a (pK a y.2 (X.now+1)).2 (pK a y.2 (X.now+1)).1:=by
   rw[List.range_succ,List.foldl_append,N];show tT _ a=_;unfold tT;dsimp only;rw[Q9,e];rfl
  generalize pK a y.2 (X.now+1)=V at q Q T b4 U;obtain⟨W,Y,Z,a2,Do,rfl,q⟩:=q;refine⟨W,Y,Z,rfl,S.af.mono λb _ i=>⟨i.1,oM⟩,PC.ok (zR g e Q S ⟨W,Y,Z,a2,Do,rfl,q⟩ oM) ?_⟩;rintro _ w7 ⟨a3,F7,b5,rfl,c4,b6,c5⟩;refine⟨a3,rfl,c5.mono λb _ i=>⟨i.1,oM⟩,_,oM,a+1,F7,b5,_,_,aq oM,oM,rfl,c4,by rw[z];exact(lz (f:=(·.1)) (b:=(y.1,V.2)) e rfl).symm,by rw[List.length_set];exact b9,?_,O.trans (bK.after B b6),?_⟩
  ·rw[U,List.map_set];rfl
  ·have:=A.stay (j:=a) (ms:=V.1) T
   unfold dS.put at this;dsimp only at this;rw[Qx]at this;rw[List.map_set];exact this
 ·have f:Hd X=⟨d.map (·.2),j,X.now+1⟩:=by
   unfold Hd;rw[<-N,v,Q8,show rs.length=a by omega]
  rw[f];exact ED ⟨h,o,d,x,z,rfl,oM,H,I.gv l⟩ A (bK.after u l) b7 (l.af.get g2 (J _ oM)) rfl oM (c1 _ oM oM)
def zW(a:bY w0 w p F c X)(f:∀R∈X.aD,R.S.l.length<=20000000):Calls XP 18 #[ZQ p,XH e] w (Ok λv w'=>(eD X.aD e=none/\v= .slice none 0 0/\w=w')\/∃R,eD X.aD e=some R/\py jj 63 w R.S.l v w'):=by
 refine lD (PC.ok (qR a) ?_);rintro _ _ ⟨rfl,rfl⟩;refine⟨_,rfl,?_⟩
 cases b:eD X.aD e with
 |none=>exact al.tt rfl (Ok.mk (.inl ⟨rfl,rfl,rfl⟩))
 |some R=>
  obtain⟨r,rfl,-⟩:=jX b;obtain⟨h,cls,rs,y,d,s,t,u,x,z,g,rfl,⟨i,j,k,A,l,B⟩,m⟩:=Js a b;refine al.ff rfl ⟨p,0,rfl,_,_,_,ae d.cell rfl,i,j,k,oM,oM,_,by rw[Qx];exact l,PC.ok (Jw (cF.rep d g) (f _ m)) ?_⟩;rintro _ C ⟨n,e,o,G,rfl,q⟩;exact⟨_,_,_,rfl,Ok.mk (.inr ⟨_,rfl,n,e,o,G,rfl,q⟩)⟩
def sN(b:bY w0 w p F c X):Calls XP 12 #[ZQ p] w (Ok λv w'=>v= XH (X.eg.length:Int)/\w=w'):=by
 obtain⟨h,cls,rs,a,-⟩:=b;refine lE ⟨p,0,rfl,_,ae a.cell rfl,PC.ok (Jy a.UL) ?_⟩;rintro _ _ ⟨rfl,rfl⟩;exact⟨_,rfl,Ok.mk ⟨rfl,rfl⟩⟩
def RB(a:bY w0 w p F c X):Calls XP 11 #[ZQ p] w (Ok λv w'=>v= XH X.now/\w=w'):=by
 obtain⟨h,cls,rs,b,-⟩:=a;exact oG ⟨p,0,rfl,_,ae b.cell rfl,Ok.mk ⟨rfl,rfl⟩⟩
end
def kZ:lx XP 84 3 54 .nilFunc:=⟨kR,kR⟩
abbrev Jz(a:Int):Nat:=if a=3 then 29 else if a=5 then 30 else if a=4 then 31 else 32
abbrev xZ(a:Int):Nat:=if a=2 then 33 else 34
abbrev bound(a b:Nat):Value:=.func (.func a) #[ZQ b] #[]
abbrev UM(a:Nat):List (Int×Value):=[(3,bound (Jz 3) a),(5,bound (Jz 5) a),(4,bound (Jz 4) a),(6,bound (Jz 6) a)]
abbrev SN(a:Nat):List (Int×Value):=[(2,bound (xZ 2) a),(1,bound (xZ 1) a),(7,bound (xZ 7) a),(8,bound (xZ 8) a),(9,bound (xZ 9) a),(10,bound (xZ 10) a),(11,bound (xZ 11) a),(12,bound (xZ 12) a)]
def OW(c:Nat)(a:Int):aE (UM c) a=if a=3\/a=5\/a=4\/a=6 then some (bound (Jz a) c)else none:=by
 by_cases b:a=3\/a=5\/a=4\/a=6
 ·rw[if_pos b];rcases b with rfl|rfl|rfl|rfl<;>rfl
 ·rw[if_neg b];exact jP.2 (by simp;omega)
def MD(b:Nat)(a:Int):aE (SN b) a=if a=2\/a=1\/7<=a/\a<=12 then some (bound (xZ a) b)else none:=by
 by_cases c:a=2\/a=1\/7<=a/\a<=12
 ·rw[if_pos c]
  have:a=2\/a=1\/a=7\/a=8\/a=9\/a=10\/a=11\/a=12:=oM
  rcases this with rfl|rfl|rfl|rfl|rfl|rfl|rfl|rfl<;>rfl
 ·rw[if_neg c];exact jP.2 (by simp;omega)
def Xb(a:Int):enters XP (Jz a)=true:=by unfold Jz;split;rfl;split;rfl;split<;>rfl
def WT(a:Int):enters XP (xZ a)=true:=by unfold xZ;split<;>rfl
section
variable {w w' w0 w1 w2 wb:World} {p i k g:Nat} {F F1 F' G G' T D:Nat->Prop} {c:bP} {X:dS} {s:fG} {R:bj}
def zY(t:bY w0 w p F c X)(j:fH k X)(hk:k<=999)(l:s.Ok):
  Calls XP 13 #[ZQ p,iN s] w (Ok (iq w0 w p F c (k+1) (cE c X s))):=by
 have b2:=t.aB;have b3:=t.env.gr.size;refine pL (PA.mk λw1 k1 s1 g1=>PA.mk λw2 u s2 g2=>PA.mk λw3 k3 s3 E=>?_);have o:∀{w:World} e,e=w2.heap.size->False\/w2.heap.size<=e:=λe a=>.inr (Nat.le_of_eq a.symm);refine cW (k:=(3:Int)) kZ jV (bD.new E) λw4 H I s4=>cW (k:=(5:Int)) kZ jV H λw5 J K s5=>cW (k:=(4:Int)) kZ jV J λw6 L M s6=>cW (k:=(6:Int)) kZ jV L λv N O s7=>PA.mk λw8 k8 s8 P=>?_;have b4:ai w2 v:=(((k3.new I λe f=>.inr oM).new K λe f=>.inr oM).new M λe f=>.inr oM).new O λe f=>.inr oM;refine cW (k:=(2:Int)) kZ jV (bD.new P) λw9 Q S s9=>cW (k:=(1:Int)) kZ jV Q λb8 T U b9=>cW (k:=(7:Int)) kZ jV T λc0 V W c1=>cW (k:=(8:Int)) kZ jV V λc2 Y Z c3=>cW (k:=(9:Int)) kZ jV Y λc4 a1 a2 c5=>cW (k:=(10:Int)) kZ jV a1 λc6 a3 a4 c7=>cW (k:=(11:Int)) kZ jV a3 λc8 a5 a6 c9=>cW (k:=(12:Int)) kZ jV a5 λq a7 a8 d0=>?_;have a0:ai v q:=(((((((k8.new S λe f=>.inr oM).new U λe f=>.inr oM).new W λe f=>.inr oM).new Z λe f=>.inr oM).new a2 λe f=>.inr oM).new a4 λe f=>.inr oM).new a6 λe f=>.inr oM).new a8 λe f=>.inr oM;have mA:bD q w2.heap.size (Value.int .i64) (UM p):=N.ah a0;have mO:bD q v.heap.size (Value.int .i64) (SN p):=a7;have x:=b4.then a0;have a9:=(k1.then u).then x;have m:=x.get (u.get g1 id) id;have b5:=x.get g2 id;have i:=t.ah a9;have z2:=u.size;have b6:¬F w1.heap.size:=λa=>by have:=b2 _ a;omega
 have b:∀{b0:gA×dS} {g:Value} {w':World},iq w0 q p F c (k+1) b0 g w'->pI (cJ XP 53) λb1=>g=b1/\mg XP 53 (ZQ w1.heap.size) b1 w' λw2=>il XP 53 (ZQ w1.heap.size) w2 λb7=>Ok (iq w0 w p F c (k+1) b0) (.returned b7) w2:=λd=>pJ d (bK.of a9) b3 b5 rfl oM b6
 clear H J L N Q T V Y a1 a3 a5 a7 I K M O S U W Z a2 a4 a6 a8 E P
 refine⟨_,ae m rfl,iH kZ jV mA ?_⟩;rw[OW]
 by_cases y:s.kind=3\/s.kind=5\/s.kind=4\/s.kind=6
 ·rw[if_pos y]
  refine⟨_,_,rfl,al.tt rfl (au (Jk s) m ⟨_,_,_,rfl,Xb _,?_⟩)⟩;rcases y with h|h|h|h
  ·rw[h]
   have a:cE c X s=jW c ⟨X.aD,gN X.eg s.n,X.now⟩ (eE X.eg s.n):=by unfold cE;rw[if_pos h]
   rw[a];exact PC.ok (Ha i j oM l) λg w' d=>b d
  ·rw[h]
   have a:cE c X s=jW c X (eE X.eg s.n):=by unfold cE;rw[if_neg oM,if_pos h]
   rw[a];exact PC.ok (Jr i j oM l) λg w' d=>b d
  ·rw[h]
   have a:cE c X s=(bz (if(eE X.eg s.n).isSome then 0 else 14),⟨X.aD,gN X.eg s.n,X.now⟩):=by unfold cE;rw[if_neg oM,if_neg oM,if_pos h]
   rw[a];exact PC.ok (OP i j.mono l) λg w' d=>b d
  ·rw[h]
   have a:cE c X s=(bz 0,Hd X):=by unfold cE;rw[if_neg oM,if_neg oM,if_neg oM,if_pos h]
   rw[a];exact PC.ok (OU i j hk) λg w' d=>b d
 rw[if_neg y];refine⟨_,_,rfl,al.ff rfl ⟨_,ae m rfl,iH kZ jV mO ?_⟩⟩;rw[MD]
 by_cases hO:s.kind=2\/s.kind=1\/7<=s.kind/\s.kind<=12
 ·rw[if_pos hO]
  refine⟨_,_,rfl,al.ff rfl ⟨_,ae m rfl,PC.ok (qR i) ?_⟩⟩;rintro _ _ ⟨rfl,rfl⟩;refine⟨_,rfl,?_⟩;have e0:¬s.kind=3/\¬s.kind=5/\¬s.kind=4/\¬s.kind=6/\¬(s.kind<1\/12<s.kind):=oM
  obtain⟨z,A,o,B,C⟩:=e0
  cases n:eD X.aD s.n with
  |none=>
   have a:cE c X s=(bz 1,X):=by unfold cE;rw[if_neg z,if_neg A,if_neg o,if_neg B,if_neg C,n]
   rw[a];exact al.tt rfl (PC.ok (gg i j.mono) λg w' d=>b d)
  |some R=>
   refine al.ff rfl (au (Jk s) m ⟨_,_,_,rfl,WT _,?_⟩)
   by_cases r:s.kind=2
   ·have a:cE c X s=(if(eD X.aD s.m).isNone\/s.m=s.n then(bz 1,X)else(bz 0,X.put s.n (gO c s.n R s.m X.now).2 (gO c s.n R s.m X.now).1)):=by unfold cE;rw[if_neg z,if_neg A,if_neg o,if_neg B,if_neg C,n];exact if_pos r
    rw[a,r];exact PC.ok (OR i j l n) λg w' d=>b d
   ·have a:cE c X s=((iI c s.n R s).1,⟨X.aD.set s.n.toNat (iI c s.n R s).2,X.eg,X.now⟩):=by unfold cE;rw[if_neg z,if_neg A,if_neg o,if_neg B,if_neg C,n];exact if_neg r
    rw[a];have:xZ s.kind=34:=if_neg r
    rw[this];exact PC.ok (Rz i j oM l n) λg w' d=>b d
 ·rw[if_neg hO]
  have a:cE c X s=(bz 2,X):=by unfold cE;rw[if_neg oM,if_neg oM,if_neg oM,if_neg oM,if_pos oM]
  rw[a];exact⟨_,_,rfl,al.tt rfl (PC.ok (gg i j.mono) λg w' d=>b d)⟩
end
section
variable {w w' w0 w1 w2 wb:World} {p q i k g:Nat} {F F1 F' G G' T D:Nat->Prop} {cls:Nat->Nat} {h:Jl} {c:bP} {X:dS} {s:fG} {R:bj} {now:Int} {rs:List (Nat×bj)} {eg:List bR}
def cF.more(l:cF w F cls p h now c rs eg)(m:ai w w')(g:bO w' q G' c rs.length R)(n:∀f,G' f->w.heap.size<=f):
  ∃F' d,cF w' F' d p h now c (rs++[(q,R)]) eg/\bK F w F' w':=by
 obtain⟨o,e,r,s,-⟩:=aT.gv l eL (k:=rs.length+2) (G':=G') (C2:=iy (EC p h now) (λw G=>dx w h.q G eg) c (rs++[(q,R)])) ⟨ai.af m,λf t=>.inr (n f t)⟩ g.aB (λi a=>by
  rw[X8 (Q4 _),Nat.sub_self]at a
  injection a with a;subst a;exact g) λu G j b=>by
  match u,j,b with
  |0,_,b=>exact b
  |1,_,b=>exact b
  |k+2,j,b=>
   intro i a;refine b i ?_;rcases Nat.lt_trichotomy k rs.length with h|h|h
   ·rwa [XW h]at a
   ·omega
   ·rw[Q7 (by simp;omega)]at a;cases a
 exact⟨o,e,r,s⟩
def JA(w0 w:World)(c:bP)(a:Value)(w':World):Prop:=ai w w'/\
 (((zZ c).1≠0/\a= .tuple #[.pointer none,XH (zZ c).1])\/
  ((zZ c).1=0/\∃p F,a= .tuple #[ZQ p,XH 0]/\bY w0 w' p F c (zZ c).2/\(∀b,F b->w.heap.size<=b)/\fH 0 (zZ c).2))
def EH(W:eA w0)(X:Laid w0)(H:ai w0 w){tn Y I Z:Nat}(hd:bb w D c.decl d tn r I)(hD:∀a,D a->a<w.heap.size)(hs:aH c.bM)(a9:aH c.every)(b0:aH c.start):
  Calls XP 9 #[vN c d tn Y r I Z] w (Ok (JA w0 w c)):=by
 refine Cc (PA.mk λw1 k1 s1 g1=>PC.ok JB ?_);rintro _ w2 ⟨q,Fq,rfl,J,b1,z⟩;have z2:=z.size;refine⟨_,rfl,PA.mk λw3 o s3 g3=>?_⟩;have c4:=(k1.then z).then o;have z3:=o.size;have z0:=H.size;have b2:=o.get (z.get g1 id) id;obtain⟨m,hB⟩:∃m:Nat,(if(if(64:Int)<c.aD then 64 else c.aD)>1 then(if(64:Int)<c.aD then 64 else c.aD)else 1)=(m:Int):=⟨(if(if(64:Int)<c.aD then 64 else c.aD)>1 then(if(64:Int)<c.aD then 64 else c.aD)else 1).toNat,by repeat' split<;>omega⟩
 have c5:(m:Int)=max 1 (min c.aD 64):=by rw[<-hB];repeat' split<;>omega
 obtain⟨p,K⟩:=aT.join (w:=w3) (C:=iy (EC w2.heap.size ⟨q,none,0,0,[]⟩ 0) (λw G=>dx w q G []) c []) (G:=λe a=>match e with|0=>a=w2.heap.size|1=>Fq a|_=>False)
  (λe=>by
   match e with
   |0=>exact⟨rfl,g3,(aO.nil w3).mono (λa b=>b.elim) (λa b=>(by cases b)),λa b=>(by cases b)⟩
   |1=>exact J.ah o
   |e+2=>exact λc6 L=>by simp at L)
  (λi e a g l=>by
   have hq:=J.aB a
   match i,e,g,l with
   |0,0,_,_=>rfl
   |1,1,_,_=>rfl
   |0,1,g,l=>have g:a=w2.heap.size:=g;have:=hq l;omega
   |1,0,g,l=>have l:a=w2.heap.size:=l;have:=hq g;omega)
  (λe a b=>by
   match e,b with
   |0,b=>have b:a=w2.heap.size:=b;omega
   |1,b=>have:=J.aB a b;omega)
 refine⟨_,ae b2 rfl,λa0 b3 w'=>∃(e:Nat) (h:Jl) (F:Nat->Prop) (cls:Nat->Nat) (rs:List (Nat×bj)),b3=e/\e<=m/\a0=m-e/\(e=0\/(cz c 0).1=0/\(cz c 0).2.S.l.length<=16777216)/\cF w' F cls w2.heap.size h 0 c rs []/\h.ps=rs.map (·.1)/\rs.length=e/\rs.map (·.2)=List.replicate e (cz c 0).2/\(∀a,F a->w1.heap.size<=a)/\ai w1 w',
  ⟨_,0,⟨q,none,0,0,[]⟩,_,p,[],rfl,Qj _,rfl,.inl rfl,K,rfl,rfl,rfl,λa ⟨e,b⟩=>?_,z.then o⟩,?_⟩
 ·match e,b with
  |0,b=>have b:a=w2.heap.size:=b;omega
  |1,b=>exact b1 a b
 rintro a0 _ _ w4 ⟨e,h,F,cls,rs,rfl,l,rfl,b4,M,s,a1,a2,A,B⟩;have n:=k1.then B;have b5:=B.get g1 id;rw[hB];refine al.dec (λb6=>?_) (λc7=>?_)
 ·have b6:e<m:=oM
  obtain⟨N,e2⟩:=ME (c:=c) (i:=(e:Int)) oM oM;refine au (He c d tn Y r I Z) b5 (PC.ok (RC (self:=(e:Int)) W X (H.then n) (hd.ah n) (λa b=>by have:=hD a b;have:=n.size;omega) hs a9 b0) ?_);rintro v5 O ⟨P,⟨a3,rfl⟩|⟨t,C,G',rfl,hA,hG,a4⟩⟩
  ·refine⟨_,_,rfl,al.dB (λ_=>Ok.mk ⟨n.then P,.inl ⟨?_,?_⟩⟩) (λh=>absurd h a3)⟩
   ·show(cz c 0).1≠0
    rw[<-N];exact a3
   ·show _=Value.tuple #[.pointer none,XH (cz c 0).1]
    rw[<-N]
  refine⟨_,_,rfl,al.dB (λh=>absurd rfl h) (λ_=>?_)⟩;rw[N]at t;rw[e2]at hA a4;have z4:=B.size;obtain⟨F2,a5,a6,b7⟩:=cF.more (R:=(cz c 0).2) M P (by rw[a1];exact hA) hG;have b8:EC w2.heap.size h 0 O (λa=>F2 a/\a5 a=0):=a6.at' 0;obtain⟨c1,Q,c3,E⟩:=b8;have hn:=c3.len dC;rw[s,Q8]at hn;refine⟨_,0,rfl,_,_,_,ae Q rfl,Mo (x:=C) (D:=λ_=>False) c3 VX ⟨rfl,trivial⟩ (λa b=>b.elim) (by rw[s,Q8];unfold aK;omega) (by rw[s,Q8];unfold maxLen;omega) λu j w7 F7 S T c8 b9=>⟨_,_,_,rfl,_,0,rfl,PS.mk (T.get Q λk=>(E _ k).2 rfl) sM λw8 k8 s8 g8=>?_⟩⟩;have z5:=P.size;have z7:=T.size;have c9:=ax Q;have U:∀a,aF u=some a->(aF h.a=some a\/O.heap.size<=a)/\a<w7.heap.size:=λa b=>⟨b9 a b,S.aB a (S.self a b)⟩
  have a7:∀a,aF u=some a->a≠w2.heap.size:=λa b k=>by rcases(U a b).1 with h|h;exact(E a h).2 k;omega
  have kk:ak (λa=>F2 a/\a5 a=0) O w8:=(T.mono λa _ b=>(E a b).1).then (k8.mono λa _ b=>by have b:a=w2.heap.size:=b;rw[b];exact c1);obtain⟨F8,v,V,x,-⟩:=aT.gv a6 eL (k:=0) (G':=λa=>a=w2.heap.size\/aF u=some a) (C2:=iy (EC w2.heap.size ⟨h.q,u,h.n+1,j,h.ps++[C]⟩ 0) (λw G=>dx w h.q G []) c (rs++[(C,(cz c 0).2)]))
   ⟨kk,λa b=>b.elim (λk=>.inl (k▸c1)) λb=>(U a b).1.imp (λh=>(E a h).1) id⟩ (λa b=>b.elim (λk=>oM) λb=>by have:=(U a b).2;omega)
   ⟨.inl rfl,g8,S.alone.af k8 λa b k=>a7 a b k,λa b=>⟨.inr b,a7 a b⟩⟩ λi G g y=>by
    match i,g,y with
    |1,_,y=>exact y
    |i+2,_,y=>exact y
  have a8:=b7.trans x;refine⟨_,oM,e+1,⟨h.q,u,h.n+1,j,h.ps++[C]⟩,F8,v,_,aq oM,oM,rfl,.inr ⟨t,a4⟩,V,by rw[s,Q3];rfl,by rw[QX,a1];rfl,by rw[Q3,a2,List.replicate_succ'];rfl,λa b=>(a8.new a b).elim (A a) λh=>oM,B.new a8.af λa b=>.inr (A a b)⟩
 ·have c0:e≠0:=oM
  obtain⟨t,d0⟩:=b4.resolve_left c0;obtain⟨r1,r2,-,-⟩:=Hf t;have c2:e=c.aD.toNat:=oM
  have L:rs[0]? =some rs[0]:=Qq oM;refine Ok.mk ⟨n,.inr ⟨t,_,F,rfl,⟨h,cls,rs,M,s,?_,oM,(cF.rep M L).ok,⟨W,X,H.then n,λa b=>by have:=A a b;omega⟩⟩,λa b=>by have:=A a b;omega,⟨λR hR=>?_,Int.le_refl 0,Int.le_refl 0⟩⟩⟩
  ·rw[a2,c2];rfl
  ·have:=(List.mem_replicate.1 hR).2
   subst this;exact⟨oM,by rw[JC];exact Qj _⟩
end
def AF:ft:=⟨[],[],[],[],[]⟩
def AG(z:PC_ 24 #[.ii 2] b (kX_ 27 λA B=>PC_ 9 #[A] B (λC l=>∃c m,C= .tuple #[.pointer c,.ii m]/\al (m !=0) (rt s ((.bool false)) l) (PR_ (eq_ .eql 33 (.tmp 18) (.const (.pointer none)) (.pointer c) (.pointer none)) l (kB λE n=>al E (rt s ((.bool false)) n) (PC_ 25 #[.ii 0,.ii 3] n (λD F=>∃o p q r t u v,D= .agg #[.ii o,.ii p,.ii q,.ii r,.ii t,.ii u,.ii v]/\PC_ 13 #[.pointer c,.agg #[.ii 1,.ii 0,.ii 0,.ii o,.ii p,.ii q,.ii r,.ii t,.ii u,.ii v]] F (kX_ 53 λH d=>PA d (.cells #[.ii 0,.ii 0,.ii 0,.ii 0,.slice none 0 0,.slice none 0 0,.slice none 0 0,.bool false] 53) λG=>St 53 (ab_ d 0) H G λI=>PC_ 13 #[.pointer c,.agg #[.ii 2,.ii 1,.ii 0,.ii 0,.ii 0,.ii 0,.ii 0,.ii 0,.ii 0,.ii 0]] I (kX_ 53 λJ f=>PA f (.cells #[.ii 0,.ii 0,.ii 0,.ii 0,.slice none 0 0,.slice none 0 0,.slice none 0 0,.bool false] 53) λK=>St 53 (ab_ f 0) J K λL=>PC_ 13 #[.pointer c,.agg #[.ii 3,.ii 0,.ii 0,.ii 0,.ii 0,.ii 0,.ii 0,.ii 0,.ii 0,.ii 0]] L (kX_ 53 λM g=>PA g (.cells #[.ii 0,.ii 0,.ii 0,.ii 0,.slice none 0 0,.slice none 0 0,.slice none 0 0,.bool false] 53) λN=>St 53 (ab_ g 0) M N λO=>PC_ 13 #[.pointer c,.agg #[.ii 3,.ii 0,.ii 0,.ii 0,.ii 0,.ii 0,.ii 0,.ii 0,.ii 0,.ii 0]] O (kX_ 53 λP h=>PA h (.cells #[.ii 0,.ii 0,.ii 0,.ii 0,.slice none 0 0,.slice none 0 0,.slice none 0 0,.bool false] 53) λQ=>St 53 (ab_ h 0) P Q λR=>PC_ 13 #[.pointer c,.agg #[.ii 10,.ii 1,.ii 0,.ii 0,.ii 0,.ii 0,.ii 0,.ii 0,.ii 0,.ii 0]] R (kX_ 53 λS e=>PA e (.cells #[.ii 0,.ii 0,.ii 0,.ii 0,.slice none 0 0,.slice none 0 0,.slice none 0 0,.bool false] 53) λT=>St 53 (ab_ e 0) S T λU=>PC_ 13 #[.pointer c,.agg #[.ii 3,.ii 9,.ii 0,.ii 0,.ii 0,.ii 0,.ii 0,.ii 0,.ii 0,.ii 0]] U (kX_ 53 λV i=>PA i (.cells #[.ii 0,.ii 0,.ii 0,.ii 0,.slice none 0 0,.slice none 0 0,.slice none 0 0,.bool false] 53) λW=>St 53 (ab_ i 0) V W λX=>PC_ 13 #[.pointer c,.agg #[.ii 2,.ii 1,.ii 1,.ii 0,.ii 0,.ii 0,.ii 0,.ii 0,.ii 0,.ii 0]] X (kX_ 53 λY j=>PA j (.cells #[.ii 0,.ii 0,.ii 0,.ii 0,.slice none 0 0,.slice none 0 0,.slice none 0 0,.bool false] 53) λZ=>St 53 (ab_ j 0) Y Z λa1=>PC_ 13 #[.pointer c,.agg #[.ii 6,.ii 0,.ii 0,.ii 0,.ii 0,.ii 0,.ii 0,.ii 0,.ii 0,.ii 0]] a1 (kX_ 53 λb8 k=>(∃w x,k.cell? (ab_ d (0+1))=some (.ii w)/\k.cell? (ab_ d (0+1+1))=some (.ii x)/\PR_ (eq_ .eql 46 (.tmp 47) (.tmp 48) (.agg #[.ii w,.ii x]) (.agg #[.ii 0,.ii 1])) k (kB λa2 a=>al a2 ((rI a (ab_ d 0) λa3=>al (a3==0) ((rI a (ab_ f 0) λa4=>al (a4==0) ((rI a (ab_ g 0) λa5=>al (a5==0) ((rI a (ab_ h 0) λa6=>al (a6==0) ((rS a (ab_ e (0+3+1)) λb9 a7 c0=>al ((a7:Int)==6) ((rS a (ab_ e (0+3+1)) λa8 a9 c1=>(ix_ a8 0 a9 λb0 b1=>(rI a (ad b0 (b1+Int.toNat 0*2)) λb2=>al (b2==3) ((rI a (ab_ i 0) λb3=>al (b3==14) ((rI a (ab_ j 0) λb4=>al (b4==1) (PC_ 11 #[.pointer c] a (kI_ λb5 y=>al (b5==1) (PC_ 12 #[.pointer c] y (kI_ λb6 b7=>rt s ((.bool (b6==1))) b7) (pE s)) (rt s ((.bool false)) y)) (pE s)) (rt s ((.bool false)) a))) (rt s ((.bool false)) a))) (rt s ((.bool false)) a))))) (rt s ((.bool false)) a))) (rt s ((.bool false)) a))) (rt s ((.bool false)) a))) (rt s ((.bool false)) a))) (rt s ((.bool false)) a))) (rt s ((.bool false)) a)) (pV s))) (pE s)) (pE s)) (pE s)) (pE s)) (pE s)) (pE s)) (pE s)) (pE s)) (pE s))) (pV s))) (pE s)) (pE s)):Calls XP 8 #[] b s:=DC AF Tryz.func8 rfl z
def kU:lF:=⟨0,0,0,0,0,0,0⟩
def vC:Bool:=
 let a:=fD 2
 let b:=cE a (zZ a).2 ⟨1,0,0,⟨0,0,0,1,3,-1,0⟩⟩
 let d:=cE a b.2 ⟨2,1,0,kU⟩
 let e:=cE a d.2 ⟨3,0,0,kU⟩
 let f:=cE a e.2 ⟨3,0,0,kU⟩
 let c:=cE a f.2 ⟨10,1,0,kU⟩
 let g:=cE a c.2 ⟨3,9,0,kU⟩
 let h:=cE a g.2 ⟨2,1,1,kU⟩
 let i:=cE a h.2 ⟨6,0,0,kU⟩
 (zZ a).1==0&&(b.1.id.1==(0:Int)&&(b.1.id.2==(1:Int)&&(b.1.code==0&&(d.1.code==0&&(e.1.code==0&&(f.1.code==0&&(c.1.st.cells.length==6&&((c.1.st.cells.getD 0 ⟨0,[]⟩).n==3&&(g.1.code==14&&(h.1.code==1&&(i.2.now==1&&i.2.eg.length==1)))))))))))
def Re:vC=true:=by decide+kernel
def Oc:∃(j:dS) (a c d e b f g h:gA×dS),zZ (fD 2)=(0,j)/\cE (fD 2) j ⟨1,0,0,⟨0,0,0,1,3,-1,0⟩⟩=a/\cE (fD 2) a.2 ⟨2,1,0,kU⟩=c/\cE (fD 2) c.2 ⟨3,0,0,kU⟩=d/\cE (fD 2) d.2 ⟨3,0,0,kU⟩=e/\cE (fD 2) e.2 ⟨10,1,0,kU⟩=b/\cE (fD 2) b.2 ⟨3,9,0,kU⟩=f/\cE (fD 2) f.2 ⟨2,1,1,kU⟩=g/\cE (fD 2) g.2 ⟨6,0,0,kU⟩=h/\
  a.1.id.1=0/\a.1.id.2=1/\a.1.code=0/\c.1.code=0/\d.1.code=0/\e.1.code=0/\b.1.st.cells.length=6/\(b.1.st.cells.getD 0 ⟨0,[]⟩).n=3/\f.1.code=14/\g.1.code=1/\h.2.now=1/\h.2.eg.length=1:=by
 have i:=Re;unfold vC at i;simp only[QK,beq_iff_eq]at i;obtain⟨k,l⟩:=i;exact⟨_,_,_,_,_,_,_,_,_,Prod.ext k rfl,rfl,rfl,rfl,rfl,rfl,rfl,rfl,rfl,l⟩
end Go.Proofs.YtjgjkeponbeekaaGreatDoor

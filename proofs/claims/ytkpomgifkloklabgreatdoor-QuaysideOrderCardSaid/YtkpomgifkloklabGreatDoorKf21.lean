import Derived.Test.YtkpomgifkloklabGreatDoorKf19
import Derived.Test.YtkpomgifkloklabGreatDoorYfQue
set_option maxHeartbeats 4000000
set_option linter.all false
set_option maxRecDepth 100000
open Go.IntKind renaming wrap→PP
namespace Go.Proofs.YtkpomgifkloklabGreatDoor
open Go.aw
variable{o:Array Value}{J:Bool}{y:am}{E a0 c8 c9 e e3 e4 p:Int}{a6:List PanicEntry->ba}{u:List UInt8}{I:List ah}{a7:List bD}{e2:List bh}{F a b6 c i r:Nat}{f:UL}{H:Nat×Nat}{d d8 v:bc}{h0:Option bD}{j:Type}{g:TypeId}{O:Value->Prop}{m:ac}{b:World}{g8:World->(UL)->dw->Prop}{g9:World->ba}{M l:ah}{B:aq}{c7:bh}
def Row.NX{c:kq j}{bytes n:Nat}{D:UL}(d:b.heap[n]? =some (.cells o g H)){xs:List j}(k:cd c b D xs o.toList)(q:0<c.k)(P:xs.length*bytes<=aP):Row c bytes b (λa=>a=n\/D a) (UV n) xs.length xs:=
 ⟨rfl,P,λr s l=>by
  obtain⟨e,m,f⟩:=k.at l;have t:=c.len f;refine⟨n,0,e,rfl,aA d,.inl rfl,λh p=>?_,c.mono f λa P=>.inr P⟩;have i:=m h p;rw[Qq (show h<e.length by omega)]at i⊢;rw[Xz];exact ae d (by simpa using i)⟩
def i10(n:(decide (-1000000<=e)&&decide (e<=1000000))=true):aK e:=by
 simp only[QK,Zk]at n;unfold aK;omega
section
variable {w w' w0:World} {p q:Nat} {F G D E:UL} {c e:bK} {self other:Int} {X Y:bh}
def Lp(c:bK)(self:Int):(cB c self).2.gB.asked=[]:=by
 have n:(Cc c).2.gB.asked=[]:=by unfold Cc;rw[yq]
 unfold cB;split
 ·exact n
 split<;>exact n
def bX.cl(n:bX w p F c self X):X.S.Cl/\X.S.n=c.aD.toNat:=by
 obtain⟨b,d,P,a⟩:=n;exact(a.at' 3).2
def bX.len(a:bX w p F c self X):X.S.l.length<=20000000:=by
 obtain⟨f,b,n,d⟩:=a;have e:c_ w b.bp (λP=>F P/\n P=4) c.decl c.every.toNat X.S.l:=d.at' 4;exact e.1.2.2.2
def bX.dok(b:bX w p F c self X):X.D.Ok:=by
 obtain⟨f,P,n,d⟩:=b;obtain⟨Fd,e,-⟩:=(show DL w (λa=>F a/\n a=2) P.dp P.lp X.D X.log from d.at' 2)
 exact e.ok
end
section
variable {w w' w0 w1 w2 wb:World} {p i k g:Nat} {F F1 F' G G' T D:UL} {cls cls':Nat->Nat} {h:K_} {c:bK} {X:dw} {s:ei} {x:gF} {v:Value} {r:gF×dw} {now:Int} {rs:List (Nat×bh)} {dZ:List bD} {y:Nat×bh} {R R':bh} {aD:List bh}
def ku.base(b:ku w1 f x v w2)(r:w.heap.size<=w1.heap.size):ku w f x v w2:=by
 obtain⟨c,d,e,g,h,i,j,k,l,G,m,o,p,q,n⟩:=b;exact⟨c,d,e,g,h,i,j,k,l,G,m,o,p,q,λP a=>⟨by have:=(n P a).1;omega,(n P a).2⟩⟩
def ku.at'(b:ku w f x v w2):fV w x v w2:=by
 obtain⟨c,d,e,g,h,i,j,k,l,G,m,o,p,q,n⟩:=b;exact⟨c,d,e,g,h,i,j,k,l,G,m,o,p,q,λP a=>⟨(n P a).1,(n P a).2.1⟩⟩
def ku.new(b:fV w x v w2)(c:∀n,f n->n<w.heap.size):ku w f x v w2:=by
 obtain⟨d,e,g,h,i,j,k,l,m,G,o,p,q,r,P⟩:=b;exact⟨d,e,g,h,i,j,k,l,m,G,o,p,q,r,λn a=>⟨(P n a).1,(P n a).2,λs=>by have:=c n s;have:=P n a;omega⟩⟩
def AT{n:kq j}{bytes:Nat}(h:Row n bytes w D d a []):Row n bytes w (λ_=>False) d a []:=by
 have:=h.len;simp at this;subst this;exact⟨rfl,by unfold aP;omega,λi y P=>by simp at P⟩
def ku.flat(e:fV w x v w2)(n:x.st.cells=[])(P:x.Gm=[])(a:x.rows=[]):ku w f x v w2:=by
 obtain⟨g,h,i,j,k,l,m,o,p,G,q,b,c,d,s⟩:=e;rw[n]at b;rw[P]at c;rw[a]at d;exact⟨g,h,i,j,k,l,m,o,p,λ_=>False,q,by rw[n];exact AT b,by rw[P];exact AT c,by rw[a];exact AT d,λt r=>r.elim⟩
def Wa(s:ku wb f x v w1)(t:w1.heap[g]? =some (.cells o 44 (0,0)))(u:8=o.size)(E:g<wb.heap.size)(w:∀w2,aj (·=g) w1 w2->ku wb f x v w2->m v w2):
  tT (dL LL 44) λy=>v=y/\nw LL 44 (RK g) y w1 λw2=>jO LL 44 (RK g) w2 λr=>Ok m (.returned r) w2:=by
 obtain⟨a,b,c,d,e,h,i,j,k,G,rfl,z,A,B,l⟩:=s;have q:∀n,G n->¬n=g:=λn P F=>by have:=l n P;omega
 exact cu (Ns x a b c d e h i j k) ⟨rfl,aC (il x a b c d e h i j k) t u λw2 p H C=>ar (il x a b c d e h i j k) C (Ok.mk (w w2 p ⟨a,b,c,d,e,h,i,j,k,G,rfl,z.keep p q,A.keep p q,B.keep p q,λn P=>⟨(l n P).1,by have:=(l n P).2.1;omega,(l n P).2.2⟩⟩))⟩
def TU(i:Rp g8 a)(j:Nr g8 wb F1 k r v w1)(c:cm F w F1 wb)(A:a<=w.heap.size)(d:wb.heap[g]? =some (.cells o 44 (0,0)))(l:8=o.size)(B:w.heap.size<=g)(e:¬F1 g):
  tT (dL LL 44) λy=>v=y/\nw LL 44 (RK g) y w1 λw2=>jO LL 44 (RK g) w2 λm=>Ok (Nr g8 w F k r) (.returned m) w2:=by
 obtain⟨p,q,s,t,b⟩:=j;have u:=aA d;exact Wa q (b.keep.get d e) l u λw2 f x=>⟨p,x.base c.keep.size,i _ _ _ _ _ s f (λP z n=>by have n:P=g:=n;subst n;exact(b.new P z).elim e λh=>oM) (λP n=>by have n:P=g:=n;omega),t,(c.trans b).last f λP n=>by have n:P=g:=n;omega⟩
def Wb(c:Rp g8 a){no:Int}(d:g8 w1 F1 X)(e:fI k X)(f:cm F w F1 w1)(q:a<=w.heap.size)(h:w1.heap[g]? =some (.cells o 44 (0,0)))(i:8=o.size)(r:w.heap.size<=g)(j:¬F1 g):
  nw LL 44 (RK g) (.agg #[WP no,WP 0,WP 0,WP 0,.slice none 0 0,.slice none 0 0,.slice none 0 0,.bool false]) w1 λw2=>jO LL 44 (RK g) w2 λl=>Ok (Nr g8 w F k (bS no,X)) (.returned l) w2:=
 aC (il (bS no) none 0 0 none 0 0 none 0 0) h i λw2 b s m=>ar (il (bS no) none 0 0 none 0 0 none 0 0) m (Ok.mk ⟨F1,.flat (fV.plain rfl rfl rfl) rfl rfl rfl,c _ _ _ _ _ d b (λP p n=>by have n:P=g:=n;subst n;exact j p) (λP n=>by have n:P=g:=n;omega),e,f.last b λP n=>by have n:P=g:=n;omega⟩)
def qG(n:jj w0 wb p F1 c k r v w1)(P:cm F w F1 wb)(a:w0.heap.size<=w.heap.size)(b:wb.heap[g]? =some (.cells o 44 (0,0)))(d:8=o.size)(e:w.heap.size<=g)(f:¬F1 g):
  tT (dL LL 44) λy=>v=y/\nw LL 44 (RK g) y w1 λw2=>jO LL 44 (RK g) w2 λh=>Ok (jj w0 w p F c k r) (.returned h) w2:=TU En n P a b d e f
def Gn(n:bY w0 w1 p F1 c X)(P:fI k X)(a:cm F w F1 w1)(b:w0.heap.size<=w.heap.size)(d:w1.heap[g]? =some (.cells o 44 (0,0)))(e:8=o.size)(f:w.heap.size<=g)(h:¬F1 g):
  nw LL 44 (RK g) (.agg #[WP 0,WP 0,WP 0,WP 0,.slice none 0 0,.slice none 0 0,.slice none 0 0,.bool false]) w1 λw2=>jO LL 44 (RK g) w2 λi=>Ok (jj w0 w p F c k (bS 0,X)) (.returned i) w2:=Wb En n P a b d e f h
def Rq{no:Int}:be 22 #[WP no] w (Ok λv w'=>fV w (bS no) v w'/\ai w w'):=
 AU (PA.mk λw2 P e a=>aC (il (bS no) none 0 0 none 0 0 none 0 0) a rfl λf b g c=>ar (il (bS no) none 0 0 none 0 0 none 0 0) c (Ok.mk ⟨fV.plain rfl rfl rfl,P.new b λd n=>.inr (by have n:d=w.heap.size:=n;omega)⟩))
def im{no:Int}(P:bY w0 w p F c X)(a:fI k X):be 22 #[WP no] w (Ok (jj w0 w p F c k (bS no,X))):=
 Calls.ok Rq λv w' ⟨b,n⟩=>⟨F,.flat b rfl rfl rfl,P.af n,a,cm.of n⟩
def Gp:(eV e2 e).isSome=decide (0<=e/\e<e2.length):=by
 by_cases h:0<=e/\e<e2.length
 ·rw[Zy h];unfold eV
  rw[Zx h.1,Qq oM];rfl
 ·rw[Xv h,Le.2 oM];rfl
def cR.n(n:cR w F cls p h now c rs dZ)(P:h.ps=rs.map (·.1)):h.n=rs.length:=by
 have:=n.nj.len dC;rw[P,Q8]at this;exact this
def nI(b:bY w0 w p F c X):be 23 #[RK p,WP e] w (Ok λv w'=>v= .bool (eV X.aD e).isSome/\w=w'):=by
 obtain⟨h,cls,rs,a,d,f,i,j,k⟩:=b;have g:=a.n d;rw[Gp,f,Q8];refine nJ (al.dec (λP=>⟨p,0,rfl,_,_,_,ae a.cell rfl,Ok.mk ⟨?_,rfl⟩⟩) (λP=>Ok.mk ⟨?_,rfl⟩))
 ·rw[g];congr 1;exact decide_eq_decide.2 ⟨λn=>⟨P,n⟩,λn=>n.2⟩
 ·congr 1;exact(Xv λn=>P n.1).symm
def cR.ptr(b:cR w F cls p h now c rs dZ)(d:h.ps=rs.map (·.1))(f:rs[i]? =some y)(q:rs.length<=1000):∃n P,h.a=some ⟨n,P,none⟩/\i<h.n/\w.cell? ⟨n,P+i,none⟩=some (RK y.1)/\F n/\cls n=0:=by
 have r:=b.n d;have s:=(Qv.1 f).1;obtain⟨n,P,g,t,j,-,k,a,e,l⟩:=(b.nj.row (bytes:=8) dC (by rw[d,Q8];unfold aP;omega)).AV (i:=i) oM;have m:g=y.1:=by rw[d,Q9,f]at a;injection a with a;exact a.symm
 obtain⟨rfl,-⟩:=l;have e:=e 0 dC;subst m;have o:=b.c0.2.2.2 n k;exact⟨n,P,j,oM,by simpa[show YB.k=1 from rfl]using e,o.1⟩
def cR.self(n:cR w F cls p h now c rs dZ):F p/\cls p=0:=n.c0.1
def mL{c g:Type}{f:c->g}:∀{n:List c} {d:Nat} {a b:c},n[d]? =some a->f b=f a->(n.set d b).map f=n.map f
 |x::n,0,a,b,P,e=>by simp at P;subst P;simp[e]
 |x::n,d+1,a,b,P,e=>by simp at P;simp[mL P e]
def bY.Lf(n:cR w F cls p h now c (rs.set i (y.1,R')) dZ)(P:rs[i]? =some y)(a:h.ps=rs.map (·.1))(b:aD=rs.map (·.2))(d:rs.length=c.aD.toNat)(e:jW c 0)(f:Env w0 w F):bY w0 w p F c ⟨aD.set (i:Int).toNat R',dZ,now⟩:=
 ⟨h,cls,_,n,by rw[a];exact(mL (f:=(·.1)) (b:=(y.1,R')) P rfl).symm,by dsimp only;rw[b,List.map_set,Qx],by rw[List.length_set];exact d,e,f⟩
def jj.rep{R':bh}(e:cR w F cls p h X.now c rs X.dZ)(f:h.ps=rs.map (·.1))(g:X.aD=rs.map (·.2))(j:rs.length=c.aD.toNat)(l:jW c 0)(m:Env w0 w F)(a:rs[i]? =some y)(o:fV w x v w')(q:x.st.cells=[])(r:x.Gm=[])(s:x.rows=[])(t:bX w' y.1 G' c i R')(u:cm (λb=>F b/\cls b=i+2) w G' w')(n:fI k X)(z:Fit (k+1) R'):
  jj w0 w p F c (k+1) (x,⟨X.aD.set (i:Int).toNat R',X.dZ,X.now⟩) v w':=by
 obtain⟨F1,E,P,d,H,-⟩:=Em e fF a t u;refine⟨F1,.flat o q r s,bY.Lf P a f g j l (m.nh d),?_,d⟩;exact⟨λA B=>(List.mem_or_eq_of_mem_set B).elim (λP=>(n.aD A P).mono) λC=>C▸z,n.OG,by have h:=n.now;show X.now<=_;omega⟩
def Ip(a:aq)(n:Int)(P:bD)(b:Int):(k_ a n P b).length<=2:=by
 have d:∀(c:Prop) [Decidable c] (e:bD),(if c then [e]else([]:List bD)).length<=1:=λc _ e=>by split<;>simp
 unfold k_
 by_cases f:P.kind≠1/\P.kind≠2
 ·rw[Zx f];simp
 rw[Zq f];have h:=d (0<(a.missing P.vec (max 1 (min b 32))).length) ⟨3,n,P.bM,[],a.missing P.vec (max 1 (min b 32))⟩;have i:=d (P.kind=1/\(lD P.vec a.vec=2\/lD P.vec a.vec=3)) ⟨2,n,P.bM,a.vec,[]⟩;dsimp only;generalize(if 0<(a.missing P.vec (max 1 (min b 32))).length then [(⟨3,n,P.bM,[],a.missing P.vec (max 1 (min b 32))⟩:bD)]else [])=j at h;generalize(if P.kind=1/\(lD P.vec a.vec=2\/lD P.vec a.vec=3)then [(⟨2,n,P.bM,a.vec,[]⟩:bD)]else [])=k at i
 by_cases g:(j++k).isEmpty=true
 ·rw[Zx g];simp
 ·rw[Zq g,QX];omega
def Iq(c:bK)(n:Int)(X:bh)(P:bD):(cx c n X P).1.length<=2:=by
 unfold cx
 cases X.log with
 |none=>simp
 |some a=>
  dsimp only;split
  ·simp
  split
  ·simp
  split
  ·unfold lE
   dsimp only;split
   ·simp
   split<;>simp
  split
  ·exact Ip _ _ _ _
  split<;>simp
def xh(n:cR w F cls p h now c rs dZ)(P:rs[i]? =some y)(b:F a/\cls a=0):¬(F a/\cls a=i+2):=λd=>by omega
def Ep(m:bY w0 w p F c X)(o:fI k X)(hk:k<=1000)(b:Option bD){x z:bc}{A M B N:Nat}(hv:Row aO 8 w D x A (b.getD vg).vec)(b1:Row jh 96 w D z B (b.getD vg).events)(q:∀P,D P->P<w.heap.size/\¬F P):
  be 30 #[RK p,iK (b.getD vg) x A M z B N,.bool b.isSome] w (Ok (jj w0 w p F c (k+1) (gT c X b))):=by
 have a1:=m.aE;have C:=m.env.gr.size;refine nK (PA.mk λw1 k1 s1 O=>PA.mk λw2 E s2 H=>?_);have g:=k1.then E;have I:=m.af g;have z2:=g.size;have r:¬F w1.heap.size:=λa=>by have:=a1 _ a;omega
 cases b with
 |none=>exact al.tt rfl (PC.ok (im I o.mono) λv w' i=>qG i (cm.of g) C H rfl oM r)
 |some n=>
  refine al.ff rfl ⟨_,ae (E.get O id) rfl,PC.ok (nI I) ?_⟩;rintro _ _ ⟨rfl,rfl⟩;refine⟨_,rfl,?_⟩;show al (!(eV X.aD n.nk).isSome) _ _
  cases J:eV X.aD n.nk with
  |none=>
   have a:gT c X (some n)=(bS 1,X):=by unfold gT;dsimp only;rw[J]
   rw[a];exact al.tt rfl (PC.ok (im I o.mono) λv w' i=>qG i (cm.of g) C H rfl oM r)
  |some R=>
   obtain⟨d,Q,S⟩:=fu J;have a:gT c X (some n)=(bS (cx c d R n).2.1,X.put d (cx c d R n).2.2 (cx c d R n).1):=by unfold gT;dsimp only;rw[J];dsimp only;rw[Q]
   rw[a];refine al.ff rfl λT d3=>?_;have s:ai w2 T:=d3.keep;have j:=g.then s;obtain⟨h,cls,rs,e,U,K,a5,L,V⟩:=m.af j;obtain⟨a6,b8,b9⟩:=L.aD;rw[K,Q9]at S;obtain⟨y,f,rfl⟩:=Option.map_eq_some_iff.1 S;obtain⟨P,b,b2,c0,a2,c1⟩:=e.ptr U f oM;have W:=s.get (E.get O id) id;have Y:=cR.rep e f;have a7:y.2∈X.aD:=by rw[K];exact Xk.2 ⟨y,QZ f,rfl⟩
   have Z:=o.aD _ a7;have b3:=Y.waits;have b4:=L.Lg;have z3:=j.size;have c2:=s.size;refine⟨p,0,rfl,_,_,_,ae e.cell rfl,_,ae W rfl,P,b,b2,by show(0:Int)<=n.nk;omega,by show n.nk<_;omega,_,by show T.cell? ⟨P,b+Int.toNat n.nk,none⟩=_;rw[Q,Qx];exact a2,ar (eW n x A M z B N) W ?_⟩;refine PC.ok (Ir Y V.part (hv.af j) (λP l=>⟨by have:=(q P l).1;omega,λa=>(q P l).2 a.1⟩) (b1.af j) (λP l=>⟨by have:=(q P l).1;omega,λa=>(q P l).2 a.1⟩) (by have:=Z.evs;omega)) ?_;rintro _ w4 ⟨v1,G',rfl,t,a8,a0⟩;have a9:=Dh c d y.2 n b3 b4.2;have b0:=Iq c d y.2 n;generalize cx c d y.2 n=dl at t a8 a9 b0;obtain⟨oa,on,oc,a3,Do,rfl,t⟩:=t;have np:=xh e f e.self;refine⟨oa,on,oc,_,rfl,p,0,rfl,_,ae (a0.keep.get e.cell np) rfl,?_⟩;refine PC.ok (AS e f a8 a0 ⟨oa,on,oc,a3,Do,rfl,t⟩ oM) ?_;rintro _ w5 ⟨a4,F5,c3,rfl,b5,u,-⟩;have b6:¬F5 w1.heap.size:=λa=>(u.new _ a).elim r λh=>by omega
   have b7:bY w0 w5 p F5 c (X.put d dl.2.2 dl.1):=bY.Lf b5 f U K a5 L (V.nh u);exact⟨a4,rfl,PC.ok (im b7 (o.put (Z.Is a9))) λv w' i=>qG i (cm.after j u) C (u.keep.get (s.get H id) r) rfl oM b6⟩
def cR.take(P:cR w F cls p h now c rs dZ)(d:aK e):be 31 #[RK h.q,WP e] w (Ok λv w'=>AW w (eN dZ e) v w'/\cR w' F cls p h now c rs (gG dZ e)/\aj (λa=>F a/\cls a=1) w w'):=by
 refine Calls.ok (It P.Xr d) λv w' ⟨f,g,b⟩=>⟨f,?_,b⟩
 refine bg.same P fF b g λi G j n=>?_
 match i,j,n with
 |0,_,n=>exact n
 |k+2,_,n=>exact n
def Iu(b:bY w0 w p F c X)(q:fI k X)(r:k<=1000)(t:s.Ok):
  be 16 #[RK p,iL s] w (Ok (jj w0 w p F c (k+1) (gT c ⟨X.aD,gG X.dZ s.n,X.now⟩ (eN X.dZ s.n)))):=by
 have d:=b.aE;have u:=b.env.gr.size;refine lX (PA.mk λw1 x O y=>PA.mk λw2 e Q z=>λi A=>?_);have f:ai w2 i:=A.keep;have g:=(x.then e).then f;have R:=g.size;have S:=e.size;obtain⟨h,cls,rs,j,B,C,E,H,I⟩:=b.af g;refine⟨p,0,rfl,_,ae j.cell rfl,_,ae (f.get (e.get y id) id) rfl,PC.ok (j.take t.n) ?_⟩;rintro _ J ⟨⟨T,U,V,W,Y,Z,G,rfl,K,L,l⟩,M,m⟩;have o:cm F i F J:=⟨m.mono λP _ n=>n.1,λP n=>.inl n⟩
 refine cu (Er _ _ _ _ _ _ _) ⟨_,rfl,PC.ok (Ep (X:=⟨X.aD,gG X.dZ s.n,X.now⟩) ⟨h,cls,rs,M,B,C,E,H,I.nh o⟩ q.dZ r _ K L λP n=>⟨(l P n).2,λa=>by have:=d P a;have:=l P n;omega⟩) λv w' N=>qG N (cm.after g o) u (m.get (f.get z id) λa=>by have:=d _ a.1;omega) rfl oM λa=>by have:=d _ a;omega⟩
def Lh(n:bY w0 w p F c X)(m:fI k X)(o:k<=1000)(C:s.Ok):
  be 17 #[RK p,iL s] w (Ok (jj w0 w p F c (k+1) (gT c X (eN X.dZ s.n)))):=by
 have g:=n.aE;have q:=n.env.gr.size;refine mM (PA.mk λw1 r E t=>PA.mk λw2 a H u=>λx y=>?_);have b:ai w2 x:=y.keep;have P:=(r.then a).then b;have I:=P.size;have J:=a.size;obtain⟨h,cls,rs,i,-⟩:=n.af P;refine⟨p,0,rfl,_,ae i.cell rfl,_,ae (b.get (a.get t id) id) rfl,PC.ok (yp i.Xr) ?_⟩;rintro _ K ⟨⟨L,M,N,O,Q,R,G,rfl,z,A,j⟩,d⟩;refine cu (Er _ _ _ _ _ _ _) ⟨_,rfl,PC.ok (Ep (n.af (P.then d)) m o _ z A λe l=>⟨(j e l).2,λf=>by have:=g e f;have:=j e l;omega⟩) λv w' B=>qG B (cm.of (P.then d)) q (d.get (b.get u id) id) rfl oM λf=>by have:=g _ f;omega⟩
def Rr(u:bY w0 w p F c X)(B:fI k X)(C:s.Ok):
  be 18 #[RK p,iL s] w (Ok (jj w0 w p F c k (bS (if(eN X.dZ s.n).isSome then 0 else 14),⟨X.aD,gG X.dZ s.n,X.now⟩))):=by
 have i:=u.aE;have E:=u.env.gr.size;refine oC (PA.mk λw1 O s1 Q=>PA.mk λw2 x s2 R=>λe S=>?_);have m:ai w2 e:=S.keep;have j:=(O.then x).then m;have z3:=j.size;have z2:=x.size;have b0:=m.size;obtain⟨h,cls,rs,o,T,U,V,W,Y⟩:=u.af j;have Z:=m.get (x.get Q id) id;have H:=m.get R id;have I:=o.self;have l:∀{b:World} (n:Bool),cR b F cls p h X.now c rs (gG X.dZ s.n)->cm F e F b->b.heap[w1.heap.size]? =some (.cells (fU (bS 0) none 0 0 none 0 0 none 0 0).toArray 44 (0,0))->al (!n) (PC LL 22 #[WP 14] b (λa4 a5=>tT (dL LL 44) λJ=>a4=J/\nw LL 44 (RK w1.heap.size) J a5 λK=>jO LL 44 (RK w1.heap.size) K λa6=>Ok (jj w0 w p F c k (bS (if n then 0 else 14),⟨X.aD,gG X.dZ s.n,X.now⟩)) (.returned a6) K) (λch a0=>Ok (jj w0 w p F c k (bS (if n then 0 else 14),⟨X.aD,gG X.dZ s.n,X.now⟩)) (.panicked ch) a0))
   (nw LL 44 (RK w1.heap.size) (.agg #[WP 0,WP 0,WP 0,WP 0,.slice none 0 0,.slice none 0 0,.slice none 0 0,.bool false]) b λL=>jO LL 44 (RK w1.heap.size) L λa7=>Ok (jj w0 w p F c k (bS (if n then 0 else 14),⟨X.aD,gG X.dZ s.n,X.now⟩)) (.returned a7) L):=λ{b} n y z q=>by
  have M:bY w0 b p F c ⟨X.aD,gG X.dZ s.n,X.now⟩:=⟨h,cls,rs,y,T,U,V,W,Y.nh z⟩
  cases n with
  |false=>exact al.tt rfl (PC.ok (im M B.dZ) λv w' hq=>qG hq (cm.after j z) E q rfl oM λP=>by have:=i _ P;omega)
  |true=>exact al.ff rfl (Gn M B.dZ (cm.after j z) E q rfl oM λP=>by have:=i _ P;omega)
 have r:∀n,w.heap.size<=n->¬(F n/\cls n=1):=λn a P=>by have:=i _ P.1;omega
 have a8:=i p I.1;refine⟨λn=>(F n/\cls n=1)\/e.heap.size<=n,p,0,rfl,λP=>P.elim (λh=>by have:=h.2;have:=I.2;omega) (λh=>Nat.lt_irrefl _ (Qk a8 (Xx j.size h))),_,ae o.cell rfl,λP=>P.elim (r _ oM) (λh=>by have h:e.heap.size<=w.heap.size:=h;omega),_,ae Z rfl,PC.ok (o.take C.n) ?_,PA.mk λt d s4 g4=>⟨ai.keep d,PC.ok (cR.take (cR.af o d) C.n) ?_⟩⟩
 ·rintro _ t ⟨⟨va,vn,vc,ea,en,ec,G,rfl,-⟩,a9,d⟩
  have z4:=d.size;refine cu (Er _ _ _ _ _ _ _) ⟨_,rfl,d.mono λn _ a=>.inl a,PA.mk λb f s5 q=>⟨ai.keep f,aC (eW _ _ _ _ _ _ _) q rfl λN g s6 g6=>⟨g.mono λn a P=>.inr (by have P:n=t.heap.size:=P;omega),?_⟩⟩⟩;have A:ai t N:=f.new g λn a=>.inr (by have a:n=t.heap.size:=a;omega);exact l (eN X.dZ s.n).isSome (cR.af a9 A) ⟨(d.mono λn _ a=>a.1).then (ai.keep A),λn a=>.inl a⟩ (A.get (d.get H (r _ oM)) id)
 ·rintro _ b ⟨⟨va,vn,vc,ea,en,ec,G,rfl,-⟩,y,f⟩
  have z5:=f.size;refine cu (Er _ _ _ _ _ _ _) ⟨_,rfl,f.mono λn _ a=>.inl a,aC (eW _ _ _ _ _ _ _) (f.get g4 (r _ oM)) rfl λN g s6 g6=>⟨g.mono λn a P=>.inr (by have P:n=e.heap.size:=P;omega),?_⟩⟩;refine l (eN X.dZ s.n).isSome (bg.keep y fF g λn a P=>by have P:n=e.heap.size:=P;have:=i _ a;omega) ⟨?_,λn a=>.inl a⟩ (g.get (f.get (d.get H id) (r _ oM)) λP=>by have P:w1.heap.size=e.heap.size:=P;omega);exact((ai.keep d).then (f.mono λn _ a=>a.1)).new g λn P=>.inr (by have P:n=e.heap.size:=P;omega)
end
section
variable {w w' w0 w1 w2 wb:World} {p i k g:Nat} {F F1 F' G G' T D:UL} {cls cls':Nat->Nat} {h:K_} {c:bK} {X:dw} {s:ei} {x:gF} {v:Value} {r:gF×dw} {now:Int} {rs:List (Nat×bh)} {dZ:List bD} {y:Nat×bh} {R R':bh} {aD:List bh}
def Rt(c:bK)(n:Int)(X:bh)(P now:Int):(eX c n X P now).1.length<=1:=by
 unfold eX;split<;>simp
def Gq(j:bY w0 w p F c X)(b:eV X.aD i=some R):∃h cls rs y,cR w F cls p h X.now c rs X.dZ/\h.ps=rs.map (·.1)/\X.aD=rs.map (·.2)/\rs.length=c.aD.toNat/\jW c 0/\Env w0 w F/\rs[i]? =some y/\y.2=R/\(∃n d,h.a=some ⟨n,d,none⟩/\i<h.n/\w.cell? ⟨n,d+i,none⟩=some (RK y.1)/\F n/\cls n=0)/\R∈X.aD:=by
 obtain⟨h,cls,rs,e,f,P,k,g,l⟩:=j;obtain⟨m,o,q⟩:=g.aD;rw[iq,P,Q9]at b;obtain⟨y,a,rfl⟩:=Option.map_eq_some_iff.1 b;exact⟨h,cls,rs,y,e,f,P,k,g,l,a,rfl,e.ptr f a oM,by rw[P];exact Xk.2 ⟨y,QZ a,rfl⟩⟩
def Ru(b:bY w0 w p F c X)(t:fI k X)(Q:s.Ok)(u:eV X.aD s.n=some R):
  be 20 #[RK p,iL s] w (Ok (jj w0 w p F c (k+1) (if(eV X.aD s.m).isNone\/s.m=s.n then(bS 1,X)else(bS 0,X.put s.n (eX c s.n R s.m X.now).2 (eX c s.n R s.m X.now).1)))):=by
 have S:=b.aE;have C:=b.env.gr.size;refine oD (PA.mk λw1 T s1 U=>PA.mk λw2 E s2 H=>?_);have d:=T.then E;have z2:=d.size;have x:∀n,w.heap.size<=n->¬F n:=λn f a=>by have:=S _ a;omega
 have g:=E.get U id;have no:∀{r},r=(bS 1,X)->PC LL 22 #[WP 1] w2 (λv w'=>tT (dL LL 44) λy=>v=y/\nw LL 44 (RK w1.heap.size) y w' λw2=>jO LL 44 (RK w1.heap.size) w2 λV=>Ok (jj w0 w p F c (k+1) r) (.returned V) w2) (λW w'=>Ok (jj w0 w p F c (k+1) r) (.panicked W) w'):=λa=>by
  rw[a];exact PC.ok (im (b.af d) t.mono) λv w' Y=>qG Y (cm.of d) C H rfl oM (x _ oM)
 refine⟨_,ae g rfl,PC.ok (nI (b.af d)) ?_⟩;rintro _ _ ⟨rfl,rfl⟩;refine⟨_,rfl,al.mk (λe=>no (Zx (.inl (by simpa using e)))) (λe=>⟨_,ae g rfl,_,ae g rfl,al.ey (λz=>no (Zx (.inr z))) (λz=>?_)⟩)⟩;rw[Zq (by
         rintro(i|i);·simp at e;rw[Option.isNone_iff_eq_none]at i;rw[i]at e;simp at e
         ·exact z i)]
 intro Z d3;have j:ai w2 Z:=d3.keep;have A:=d.then j;have z3:=A.size;have b3:=j.size;have I:=j.get g id;obtain⟨B,l,-⟩:=fu u;rw[l]at u⊢;obtain⟨h,cls,rs,y,P,a4,hX,a0,a5,he,m,rfl,⟨n,a1,a6,b4,a2,b5⟩,a3⟩:=Gq (b.af A) u;have hr:=cR.rep P m;have np:=xh P m P.self;have a7:=P.self;refine⟨λn=>F n/\cls n≠0,p,0,rfl,λa=>a.2 a7.2,_,ae P.cell rfl,p,0,rfl,_,_,_,ae P.cell rfl,_,ae I rfl,n,a1,a6,by rw[l];omega,by rw[l];omega,_,by rw[l,Qx];exact a2,_,ae I rfl,p,0,rfl,_,ae P.cell rfl,PC.ok (Gs hr Q.m) ?_⟩;rintro _ w4 ⟨G',o,J,K⟩;have L:=Li c B y.2 s.m X.now;have a8:=Rt c B y.2 s.m X.now;generalize eX c B y.2 s.m X.now=dl at o J L a8;obtain⟨M,N,O,a9,Do,rfl,o⟩:=o;refine⟨M,N,O,rfl,K.keep.mono λn _ f=>⟨f.1,oM⟩,PC.ok (AS P m J K ⟨M,N,O,a9,Do,rfl,o⟩ oM) ?_⟩;rintro _ w5 ⟨b0,F5,b6,rfl,b1,q,b2⟩;exact⟨b0,rfl,b2.mono λn _ f=>⟨f.1,oM⟩,Gn (bY.Lf b1 m a4 hX a0 a5 (he.nh q)) (t.put ((t.aD _ a3).Is L)) (cm.after A q) C (q.keep.get (j.get H id) (x _ oM)) rfl oM λa=>(q.new _ a).elim (x _ oM) λh=>oM⟩
def TV(N:bY w0 w p F c X)(J:fI k X)(hk:k<=1000)(O:s.Ok)(K:eV X.aD s.n=some R):
  be 21 #[RK p,iL s] w (Ok (jj w0 w p F c (k+1) ((iB c s.n R s).1,⟨X.aD.set s.n.toNat (iB c s.n R s).2,X.dZ,X.now⟩))):=by
 have Q:=N.aE;have S:=N.env.gr.size;obtain⟨n,z,-⟩:=fu K;rw[z]at K⊢;refine qb (PA.mk λw1 k1 s1 g1=>PA.mk λw2 k2 s2 g2=>λe d3=>?_);have T:ai w2 e:=d3.keep;have a3:=(k1.then k2).then T;have z3:=a3.size;have z2:=k2.size;have b9:=T.size;have a4:=T.get (k2.get g1 id) id;obtain⟨h,cls,rs,y,a5,a6,hX,a1,a7,b3,U,V,⟨P,b4,b5,c0,b6,b7⟩,b1⟩:=Gq (N.af a3) K;have c1:=Q p a5.self.1;have c2:=Q P b7.1;have n1:¬e.heap.size<=p:=oM
 have n2:¬e.heap.size<=w.heap.size:=oM
 have n3:¬e.heap.size<=P:=oM
 refine⟨λP=>e.heap.size<=P,p,0,rfl,n1,_,_,_,ae a5.cell rfl,n2,_,ae a4 rfl,P,b4,b5,by rw[z];omega,by rw[z];omega,n3,_,by rw[z,Qx];exact b6,n2,?_⟩;refine Nt (es:=iM s.cmd) (Es s.cmd) a4 (λn z=>by rcases n with _|_|_|_|_|_|_|n<;>first|rfl|exact Zz z (by simp[iM])) (PA.mk λw4 k4 s4 g4=>⟨ai.keep k4,aC (Es s.cmd) g4 rfl λi k5 s5 A=>⟨k5.mono λP _ a=>by have a:P=e.heap.size:=a;omega,?_⟩⟩);have B:ai e i:=k4.new k5 λP W=>.inr (by have W:P=e.heap.size:=W;omega);have a9:=a3.then B;have z5:=a9.size;have c3:=B.size;have L:=B.get a4 id;have Y:=B.get (T.get g2 id) id;have C:¬F w1.heap.size:=λa=>by have:=Q _ a;omega
 have Z:cm F w F i:=cm.of a9;have hp:=cR.af a5 B;have E:=b3.af B;rw[<-V];rw[<-V]at b1;have j:=cR.rep hp U;have a0:=J.aD _ b1;have hl:=a0.evs;have a2:∀{x:gF} {R':bh} {v:Value} {w':World} {G':UL},iB c n y.2 s=(x,R')->fV i x v w'->x.st.cells=[]/\x.Gm=[]/\x.rows=[]->bX w' y.1 G' c n R'->cm (λP=>F P/\cls P=n+2) i G' w'->jX y.2 R'->tT (dL LL 44) λb=>v=b/\nw LL 44 (RK w1.heap.size) b w' λw2=>jO LL 44 (RK w1.heap.size) w2 λb=>Ok (jj w0 w p F c (k+1) ((iB c n y.2 s).1,⟨X.aD.set (n:Int).toNat (iB c n y.2 s).2,X.dZ,X.now⟩)) (.returned b) w2:=λ{x R' v w' G'} a d ⟨e1,e2,e3⟩ l b0 hg=>by
  rw[a];exact qG (jj.rep hp a6 hX a1 a7 E U d e1 e2 e3 l b0 J (a0.Is hg)) Z S Y rfl oM C
 have b2:∀{no:Int} {R':bh} {w':World} {G':UL},iB c n y.2 s=(bS no,R')->bX w' y.1 G' c n R'->cm (λP=>F P/\cls P=n+2) i G' w'->jX y.2 R'->PC LL 22 #[WP no] w' (λv w'=>tT (dL LL 44) λb=>v=b/\nw LL 44 (RK w1.heap.size) b w' λw2=>jO LL 44 (RK w1.heap.size) w2 λb=>Ok (jj w0 w p F c (k+1) ((iB c n y.2 s).1,⟨X.aD.set (n:Int).toNat (iB c n y.2 s).2,X.dZ,X.now⟩)) (.returned b) w2) (λch w'=>Ok (jj w0 w p F c (k+1) ((iB c n y.2 s).1,⟨X.aD.set (n:Int).toNat (iB c n y.2 s).2,X.dZ,X.now⟩)) (.panicked ch) w'):=λ{no R' w' G'} a l b0 hg=>by
  obtain⟨F',-,m,o,q⟩:=jj.rep (x:=bS no) (v:=.agg (fU (bS no) none 0 0 none 0 0 none 0 0).toArray) hp a6 hX a1 a7 E U (fV.plain rfl rfl rfl) rfl rfl rfl l b0 J (a0.Is hg);rw[a];exact PC.ok (im m o) λv w2 hq=>qG hq (Z.trans q) S (q.keep.get Y C) rfl oM λa=>(q.new _ a).elim C λh=>by omega
 have a8:∀{x:gF} {v:Value} {w':World},iB c n y.2 s=(x,y.2)->fV i x v w'->ai i w'->tT (dL LL 44) λb=>v=b/\nw LL 44 (RK w1.heap.size) b w' λw2=>jO LL 44 (RK w1.heap.size) w2 λb=>Ok (jj w0 w p F c (k+1) ((iB c n y.2 s).1,⟨X.aD.set (n:Int).toNat (iB c n y.2 s).2,X.dZ,X.now⟩)) (.returned b) w2:=λ{x v w'} a d f=>by
  rw[a];refine qG ⟨F,.new d λP W=>by have:=Q P W;omega,?_,?_,cm.of f⟩ Z S Y rfl oM C
  ·show bY w0 w' p F c ⟨X.aD.set (n:Int).toNat y.2,X.dZ,X.now⟩
   rw[V,Gt K];exact N.af (a9.then f)
  ·show fI (k+1) ⟨X.aD.set (n:Int).toNat y.2,X.dZ,X.now⟩
   rw[V,Gt K];exact J.mono
 refine⟨_,ae L rfl,al.ey (λg=>?_) (λg=>?_)⟩
 ·refine ar (Es s.cmd) A (PC.ok (Iv j E.part O.cmd oM) ?_)
  rintro _ H ⟨G',d,r,t⟩;exact a2 (by unfold iB;rw[Zx g]) d (by split<;>exact⟨rfl,rfl,rfl⟩) r t (Lj c n y.2 s.cmd)
 refine al.ey (λu=>?_) (λu=>?_)
 ·refine⟨_,ae L rfl,PC.ok (OH j E.part O.m) ?_⟩
  rintro _ H ⟨G',rfl,r,t,b8⟩;exact⟨_,rfl,b2 (by unfold iB;rw[Zq g,Zx u]) r t ⟨.inr b8,by unfold gU;rw[yq];exact Qj _⟩⟩
 refine al.ey (λI=>?_) (λI=>?_)
 ·refine PC.ok (Iw j E.part oM) ?_
  rintro _ H ⟨G',rfl,r,t⟩;exact⟨_,rfl,b2 (by unfold iB;rw[Zq g,Zq u,Zx I]) r t (Dk c y.2)⟩
 refine al.ey (λM=>?_) (λM=>?_)
 ·refine⟨_,ae A rfl,_,ae A rfl,_,ae L rfl,PC.ok (Lk j O.m) ?_⟩
  rintro _ H ⟨d,f⟩;exact a8 (by unfold iB;rw[Zq g,Zq u,Zq I,Zx M]) d f
 refine al.ey (λh4=>?_) (λh4=>?_)
 ·refine⟨_,ae A rfl,_,ae A rfl,PC.ok (TW j) ?_⟩
  rintro _ H ⟨d,f⟩;exact a8 (by unfold iB;rw[Zq g,Zq u,Zq I,Zq M,Zx h4]) d f
 refine al.ey (λh5=>?_) (λh5=>?_)
 ·refine⟨_,ae A rfl,_,ae L rfl,PC.ok (OI j) ?_⟩
  rintro _ H ⟨d,f⟩;exact a8 (by unfold iB;rw[Zq g,Zq u,Zq I,Zq M,Zq h4,Zx h5]) d f
 ·refine⟨_,ae L rfl,PC.ok (Rv j O.m) ?_⟩
  rintro _ H ⟨G',rfl,r,t⟩;have a:iB c n y.2 s=(bS 0,{y.2 with D:=y.2.D.Gu s.m}):=by unfold iB;rw[Zq g,Zq u,Zq I,Zq M,Zq h4,Zq h5]
  obtain⟨F',-,m,o,q⟩:=jj.rep (x:=bS 0) (v:=.agg (fU (bS 0) none 0 0 none 0 0 none 0 0).toArray) hp a6 hX a1 a7 E U (fV.plain rfl rfl rfl) rfl rfl rfl r t J (a0.Is ⟨.inl dg,by dsimp only;omega⟩);rw[a];exact⟨rfl,Gn m o (Z.trans q) S (q.keep.get Y C) rfl oM λa=>(q.new _ a).elim C λh=>oM⟩
def Rw(q:bY w0 w p F c X)(r:fI k X)(hk:k<=999):
  be 19 #[RK p,iL s] w (Ok (jj w0 w p F c (k+1) (bS 0,Ix X))):=by
 have a6:=q.aE;have b7:=q.env.gr.size;refine oE (PA.mk λw1 k1 s1 g1=>PA.mk λw2 k2 s2 g2=>?_);have t:=k1.then k2;have z2:=t.size;obtain⟨h,cls,rs,j,C,u,c6,E,H⟩:=q.af t;obtain⟨a4,a7,a8⟩:=E.aD;have I:∀P,w.heap.size<=P->¬F P:=λP f d=>by have:=a6 _ d;omega
 have c8:=r.OG;have c9:=r.now;have b8:PP .i64 (X.now+1)=X.now+1:=wrap_i64 cw;have d0:=j.self;refine⟨p,0,rfl,_,ae j.cell rfl,p,0,rfl,PS.mk j.cell sM λw3 k3 s3 J=>?_⟩;rw[b8]at J;obtain⟨l,K⟩:=cR.YS (now':=X.now+1) j k3 (by rw[J];rfl);have c7:=l.nj;have hn:=cR.n l C;refine⟨p,0,rfl,_,_,_,ae l.cell rfl,λL a0 w'=>∃(n:Nat) (F1:UL) (m:Nat->Nat) (a:List (Nat×bh)) (g:List bD),a0=n/\n<=h.n/\L=h.n-n/\cR w' F1 m p h (X.now+1) c a g/\h.ps=a.map (·.1)/\a.length=rs.length/\
  (List.range n).foldl iN ⟨X.aD,X.dZ,X.now+1⟩=⟨a.map (·.2),g,X.now+1⟩/\cm F w3 F1 w'/\fI (k+1) ⟨a.map (·.2),g,X.now+1⟩,
  ⟨_,0,F,cls,rs,X.dZ,rfl,Qj _,rfl,l,C,rfl,by rw[u];rfl,cm.refl _ _,?_⟩,?_⟩
 ·rw[<-u];exact⟨λR hR=>(r.aD R hR).mono,by show 0<=X.now+1;omega,by show X.now+1<=_;omega⟩
 rintro L _ _ w4 ⟨n,F1,m,a,g,rfl,hj,rfl,v,x,b9,M,N,z⟩;have z3:=K.keep.size;have i:=K.trans N;have c1:∀P,w.heap.size<=P->P<w2.heap.size->¬F1 P:=λP f d1 d=>(i.new P d).elim (I P f) λh=>by omega
 refine al.dec (λd2=>?_) (λd3=>?_)
 ·have b:a[n]? =some a[n]:=Qq oM
  generalize a[n]=y at b;obtain⟨P,a1,c2,d4,a5,d6⟩:=cR.ptr v x b oM;refine⟨P,a1,c2,oM,oM,_,by rw[Qx];exact a5,λO d5=>?_⟩;have A:ai w4 O:=d5.keep;have e:=cR.af v A;have hr:=cR.rep e b;have d7:Env w0 O F1:=(H.nh i).af A;have np:=xh e b e.self;have c3:=e.self;have b1:y.2∈a.map (·.2):=Xk.2 ⟨y,QZ b,rfl⟩;have B:=z.aD _ b1;refine⟨λP=>F1 P/\m P≠0,p,0,rfl,λd=>d.2 c3.2,_,ae e.cell rfl,p,0,rfl,_,ae e.cell rfl,PC.ok (Ry hr (by have:=B.asked;omega)) ?_⟩;rintro _ w6 ⟨G',o,Q,S⟩;have T:=B.tick n (X.now+1);have b4:(pJ n y.2 (X.now+1)).1.length<=1001:=by unfold pJ;dsimp only;rw[Q8];have:=Nu y.2.gB (X.now+1);have:=B.asked;omega
  have U:(List.range (n+1)).foldl iN ⟨X.aD,X.dZ,X.now+1⟩=(⟨a.map (·.2),g,X.now+1⟩:dw).put n (pJ n y.2 (X.now+1)).2 (pJ n y.2 (X.now+1)).1:=by
   rw[List.range_succ,List.foldl_append,M];show iN _ n=_;unfold iN;dsimp only;rw[Q9,b];rfl
  generalize pJ n y.2 (X.now+1)=V at o Q T b4 U;obtain⟨W,Y,Z,a2,Do,rfl,o⟩:=o;refine⟨W,Y,Z,rfl,S.keep.mono λP _ f=>⟨f.1,oM⟩,PC.ok (AS e b Q S ⟨W,Y,Z,a2,Do,rfl,o⟩ oM) ?_⟩;rintro _ w7 ⟨a3,F7,b5,rfl,c4,b6,c5⟩;refine⟨a3,rfl,c5.mono λP _ f=>⟨f.1,oM⟩,_,oM,n+1,F7,b5,_,_,an oM,oM,rfl,c4,by rw[x];exact(mL (f:=(·.1)) (b:=(y.1,V.2)) b rfl).symm,by rw[List.length_set];exact b9,?_,N.trans (cm.after A b6),?_⟩
  ·rw[U,List.map_set];rfl
  ·have:=z.stay (j:=n) (ms:=V.1) T
   unfold dw.put at this;dsimp only at this;rw[Qx]at this;rw[List.map_set];exact this
 ·have d:Ix X=⟨a.map (·.2),g,X.now+1⟩:=by
   unfold Ix;rw[<-M,u,Q8,show rs.length=n by omega]
  rw[d];exact Gn ⟨h,m,a,v,x,rfl,oM,E,H.nh i⟩ z (cm.after t i) b7 (i.keep.get g2 (I _ oM)) rfl oM (c1 _ oM oM)
def TX(n:bY w0 w p F c X):be 15 #[RK p,WP e] w (Ok λv w'=>(eV X.aD e=none/\v= .slice none 0 0/\w=w')\/∃R,eV X.aD e=some R/\pQ aO 3 w R.S.vec v w'):=by
 refine qd (PC.ok (nI n) ?_);rintro _ _ ⟨rfl,rfl⟩;refine⟨_,rfl,?_⟩
 cases P:eV X.aD e with
 |none=>exact al.tt rfl (Ok.mk (.inl ⟨rfl,rfl,rfl⟩))
 |some R=>
  obtain⟨m,rfl,-⟩:=fu P;obtain⟨h,cls,rs,y,a,o,q,r,s,t,b,rfl,⟨d,f,g,u,i,x⟩,z⟩:=Gq n P;refine al.ff rfl ⟨p,0,rfl,_,_,_,ae a.cell rfl,d,f,g,oM,oM,_,by rw[Qx];exact i,PC.ok (TY (cR.rep a b)) ?_⟩;rintro _ A ⟨j,e,k,G,rfl,l⟩;exact⟨_,_,_,rfl,Ok.mk (.inr ⟨_,rfl,j,e,k,G,rfl,l⟩)⟩
def AX(n:bY w0 w p F c X)(b:∀R∈X.aD,R.S.l.length<=20000000):be 8 #[RK p,WP e] w (Ok λv w'=>(eV X.aD e=none/\v= .slice none 0 0/\w=w')\/∃R,eV X.aD e=some R/\pQ jh 57 w R.S.l v w'):=by
 refine mN (PC.ok (nI n) ?_);rintro _ _ ⟨rfl,rfl⟩;refine⟨_,rfl,?_⟩
 cases P:eV X.aD e with
 |none=>exact al.tt rfl (Ok.mk (.inl ⟨rfl,rfl,rfl⟩))
 |some R=>
  obtain⟨q,rfl,-⟩:=fu P;obtain⟨h,cls,rs,y,a,r,s,t,u,x,d,rfl,⟨f,g,i,z,j,A⟩,k⟩:=Gq n P;refine al.ff rfl ⟨p,0,rfl,_,_,_,ae a.cell rfl,f,g,i,oM,oM,_,by rw[Qx];exact j,PC.ok (Ll (cR.rep a d) (b _ k)) ?_⟩;rintro _ B ⟨l,e,m,G,rfl,o⟩;exact⟨_,_,_,rfl,Ok.mk (.inr ⟨_,rfl,l,e,m,G,rfl,o⟩)⟩
end
def mr:mK LL 69 3 45 .nilFunc:=⟨kR,kR⟩
abbrev Lm(n:Int):Nat:=if n=3 then 16 else if n=5 then 17 else if n=4 then 18 else 19
abbrev zn(n:Int):Nat:=if n=2 then 20 else 21
abbrev bound(n P:Nat):Value:=.func (.func n) #[RK P] #[]
abbrev Xs(n:Nat):List (Int×Value):=[(3,bound (Lm 3) n),(5,bound (Lm 5) n),(4,bound (Lm 4) n),(6,bound (Lm 6) n)]
abbrev Vq(n:Nat):List (Int×Value):=[(2,bound (zn 2) n),(1,bound (zn 1) n),(7,bound (zn 7) n),(8,bound (zn 8) n),(9,bound (zn 9) n),(10,bound (zn 10) n),(11,bound (zn 11) n),(12,bound (zn 12) n)]
def Rz(a:Nat)(n:Int):au (Xs a) n=if n=3\/n=5\/n=4\/n=6 then some (bound (Lm n) a)else none:=by
 by_cases P:n=3\/n=5\/n=4\/n=6
 ·rw[Zx P];rcases P with rfl|rfl|rfl|rfl<;>rfl
 ·rw[Zq P];exact jC.2 cS
def OJ(P:Nat)(n:Int):au (Vq P) n=if n=2\/n=1\/7<=n/\n<=12 then some (bound (zn n) P)else none:=by
 by_cases a:n=2\/n=1\/7<=n/\n<=12
 ·rw[Zx a]
  have:n=2\/n=1\/n=7\/n=8\/n=9\/n=10\/n=11\/n=12:=oM
  rcases this with rfl|rfl|rfl|rfl|rfl|rfl|rfl|rfl<;>rfl
 ·rw[Zq a];exact jC.2 cS
def en1(n:Int):enters LL (Lm n)=true:=by unfold Lm;split;rfl;split;rfl;split<;>rfl
def en2(n:Int):enters LL (zn n)=true:=by unfold zn;split<;>rfl
section
variable {w w' w0 w1 w2 wb:World} {p i k g:Nat} {F F1 F' G G' T D:UL} {c:bK} {X:dw} {s:ei} {R:bh}
def Gv(r:bY w0 w p F c X)(g:fI k X)(hk:k<=999)(i:s.Ok):
  be 6 #[RK p,iL s] w (Ok (jj w0 w p F c (k+1) (cA c X s))):=by
 have b2:=r.aE;have b3:=r.env.gr.size;refine qH (PA.mk λw1 k1 s1 g1=>PA.mk λw2 t s2 g2=>PA.mk λw3 k3 s3 C=>?_);have m:∀{w:World} b,b=w2.heap.size->False\/w2.heap.size<=b:=λb n=>.inr (Nat.le_of_eq n.symm);refine dA (k:=(3:Int)) mr lC (bW.new C) λw4 E H s4=>dA (k:=(5:Int)) mr lC E λw5 I J s5=>dA (k:=(4:Int)) mr lC I λw6 K L s6=>dA (k:=(6:Int)) mr lC K λu M N s7=>PA.mk λw8 k8 s8 O=>?_;have b4:ai w2 u:=(((k3.new H λb d=>.inr oM).new J λb d=>.inr oM).new L λb d=>.inr oM).new N λb d=>.inr oM;refine dA (k:=(2:Int)) mr lC (bW.new O) λw9 Q S s9=>dA (k:=(1:Int)) mr lC Q λb8 T U b9=>dA (k:=(7:Int)) mr lC T λc0 V W c1=>dA (k:=(8:Int)) mr lC V λc2 Y Z c3=>dA (k:=(9:Int)) mr lC Y λc4 a1 a2 c5=>dA (k:=(10:Int)) mr lC a1 λc6 a3 a4 c7=>dA (k:=(11:Int)) mr lC a3 λc8 a5 a6 c9=>dA (k:=(12:Int)) mr lC a5 λo a7 a8 d0=>?_;have a0:ai u o:=(((((((k8.new S λb d=>.inr oM).new U λb d=>.inr oM).new W λb d=>.inr oM).new Z λb d=>.inr oM).new a2 λb d=>.inr oM).new a4 λb d=>.inr oM).new a6 λb d=>.inr oM).new a8 λb d=>.inr oM;have mA:bW o w2.heap.size (Value.int .i64) (Xs p):=M.af a0;have mO:bW o u.heap.size (Value.int .i64) (Vq p):=a7;have v:=b4.then a0;have a9:=(k1.then t).then v;have j:=v.get (t.get g1 id) id;have b5:=v.get g2 id;have f:=r.af a9;have z2:=t.size;have b6:¬F w1.heap.size:=λn=>by have:=b2 _ n;omega
 have P:∀{b0:gF×dw} {e:Value} {w':World},jj w0 o p F c (k+1) b0 e w'->tT (dL LL 44) λb1=>e=b1/\nw LL 44 (RK w1.heap.size) b1 w' λw2=>jO LL 44 (RK w1.heap.size) w2 λb7=>Ok (jj w0 w p F c (k+1) b0) (.returned b7) w2:=λa=>qG a (cm.of a9) b3 b5 rfl oM b6
 clear E I K M Q T V Y a1 a3 a5 a7 H J L N S U W Z a2 a4 a6 a8 C O
 refine⟨_,ae j rfl,jA mr lC mA ?_⟩;rw[Rz]
 by_cases x:s.kind=3\/s.kind=5\/s.kind=4\/s.kind=6
 ·rw[Zx x]
  refine⟨_,_,rfl,al.tt rfl (ar (KZ s) j ⟨_,_,_,rfl,en1 _,?_⟩)⟩;rcases x with h|h|h|h
  ·rw[h]
   have n:cA c X s=gT c ⟨X.aD,gG X.dZ s.n,X.now⟩ (eN X.dZ s.n):=by unfold cA;rw[Zx h]
   rw[n];exact PC.ok (Iu f g oM i) λe w' a=>P a
  ·rw[h]
   have n:cA c X s=gT c X (eN X.dZ s.n):=by unfold cA;rw[Zq oM,Zx h]
   rw[n];exact PC.ok (Lh f g oM i) λe w' a=>P a
  ·rw[h]
   have n:cA c X s=(bS (if(eN X.dZ s.n).isSome then 0 else 14),⟨X.aD,gG X.dZ s.n,X.now⟩):=by unfold cA;rw[Zq oM,Zq oM,Zx h]
   rw[n];exact PC.ok (Rr f g.mono i) λe w' a=>P a
  ·rw[h]
   have n:cA c X s=(bS 0,Ix X):=by unfold cA;rw[Zq oM,Zq oM,Zq oM,Zx h]
   rw[n];exact PC.ok (Rw f g hk) λe w' a=>P a
 rw[Zq x];refine⟨_,_,rfl,al.ff rfl ⟨_,ae j rfl,jA mr lC mO ?_⟩⟩;rw[OJ]
 by_cases hO:s.kind=2\/s.kind=1\/7<=s.kind/\s.kind<=12
 ·rw[Zx hO]
  refine⟨_,_,rfl,al.ff rfl ⟨_,ae j rfl,PC.ok (nI f) ?_⟩⟩;rintro _ _ ⟨rfl,rfl⟩;refine⟨_,rfl,?_⟩;have e0:¬s.kind=3/\¬s.kind=5/\¬s.kind=4/\¬s.kind=6/\¬(s.kind<1\/12<s.kind):=oM
  obtain⟨y,z,m,A,B⟩:=e0
  cases l:eV X.aD s.n with
  |none=>
   have n:cA c X s=(bS 1,X):=by unfold cA;rw[Zq y,Zq z,Zq m,Zq A,Zq B,l]
   rw[n];exact al.tt rfl (PC.ok (im f g.mono) λe w' a=>P a)
  |some R=>
   refine al.ff rfl (ar (KZ s) j ⟨_,_,_,rfl,en2 _,?_⟩)
   by_cases q:s.kind=2
   ·have n:cA c X s=(if(eV X.aD s.m).isNone\/s.m=s.n then(bS 1,X)else(bS 0,X.put s.n (eX c s.n R s.m X.now).2 (eX c s.n R s.m X.now).1)):=by unfold cA;rw[Zq y,Zq z,Zq m,Zq A,Zq B,l];exact Zx q
    rw[n,q];exact PC.ok (Ru f g i l) λe w' a=>P a
   ·have n:cA c X s=((iB c s.n R s).1,⟨X.aD.set s.n.toNat (iB c s.n R s).2,X.dZ,X.now⟩):=by unfold cA;rw[Zq y,Zq z,Zq m,Zq A,Zq B,l];exact Zq q
    rw[n];have:zn s.kind=21:=Zq q
    rw[this];exact PC.ok (TV f g oM i l) λe w' a=>P a
 ·rw[Zq hO]
  have n:cA c X s=(bS 2,X):=by unfold cA;rw[Zq oM,Zq oM,Zq oM,Zq oM,Zx oM]
  rw[n];exact⟨_,_,rfl,al.tt rfl (PC.ok (im f g.mono) λe w' a=>P a)⟩
end
section
variable {w w' w0 w1 w2 wb:World} {p q i k g:Nat} {F F1 F' G G' T D:UL} {cls:Nat->Nat} {h:K_} {c:bK} {X:dw} {s:ei} {R:bh} {now:Int} {rs:List (Nat×bh)} {dZ:List bD}
def cR.more(i:cR w F cls p h now c rs dZ)(j:ai w w')(e:bX w' q G' c rs.length R)(l:∀d,G' d->w.heap.size<=d):
  ∃F' a,cR w' F' a p h now c (rs++[(q,R)]) dZ/\cm F w F' w':=by
 obtain⟨m,b,o,r,-⟩:=bg.nh i fF (k:=rs.length+2) (G':=G') (C2:=jr (Gk p h now) (λw G=>eD w h.q G dZ) c (rs++[(q,R)])) ⟨ai.keep j,λd s=>.inr (l d s)⟩ e.aE (λf n=>by
  rw[X8 (Q4 _),Nat.sub_self]at n
  injection n with n;subst n;exact e) λt G g P=>by
  match t,g,P with
  |0,_,P=>exact P
  |1,_,P=>exact P
  |k+2,g,P=>
   intro f n;refine P f ?_;rcases Nat.lt_trichotomy k rs.length with h|h|h
   ·rwa [XW h]at n
   ·omega
   ·rw[Q7 cS]at n;cases n
 exact⟨m,b,o,r⟩
def RA(w0 w:World)(c:bK)(n:Value)(w':World):Prop:=ai w w'/\
 (((tU c).1≠0/\n= .tuple #[.pointer none,WP (tU c).1])\/
  ((tU c).1=0/\∃p F,n= .tuple #[RK p,WP 0]/\bY w0 w' p F c (tU c).2/\(∀P,F P->w.heap.size<=P)/\fI 0 (tU c).2))
def Nv(V:fy w0)(W:Laid w0)(C:ai w0 w){tn X E Y:Nat}(hd:bt w D c.decl d tn v E)(hD:∀n,D n->n<w.heap.size)(hs:aK c.bj)(a9:aK c.every)(b0:aK c.start):
  be 12 #[xi c d tn X v E Y] w (Ok (RA w0 w c)):=by
 refine Dp (PA.mk λw1 Z s1 g1=>PC.ok Ln ?_);rintro _ w2 ⟨q,Fq,rfl,H,b1,x⟩;have z2:=x.size;refine⟨_,rfl,PA.mk λw3 l s3 g3=>?_⟩;have c4:=(Z.then x).then l;have z3:=l.size;have z0:=C.size;have b2:=l.get (x.get g1 id) id;obtain⟨j,hB⟩:∃j:Nat,(if(if(64:Int)<c.aD then 64 else c.aD)>1 then(if(64:Int)<c.aD then 64 else c.aD)else 1)=(j:Int):=⟨(if(if(64:Int)<c.aD then 64 else c.aD)>1 then(if(64:Int)<c.aD then 64 else c.aD)else 1).toNat,by repeat' split<;>omega⟩
 have c5:(j:Int)=max 1 (min c.aD 64):=by rw[<-hB];repeat' split<;>omega
 obtain⟨m,I⟩:=bg.join (w:=w3) (C:=jr (Gk w2.heap.size ⟨q,none,0,0,[]⟩ 0) (λw G=>eD w q G []) c []) (G:=λa n=>match a with|0=>n=w2.heap.size|1=>Fq n|_=>False)
  (λa=>by
   match a with
   |0=>exact⟨rfl,g3,(aT.nil w3).mono (λn P=>P.elim) (λn P=>(by cases P)),λn P=>(by cases P)⟩
   |1=>exact H.af l
   |a+2=>exact λc6 J=>by simp at J)
  (λi a n b g=>by
   have hq:=H.aE n
   match i,a,b,g with
   |0,0,_,_=>rfl
   |1,1,_,_=>rfl
   |0,1,b,g=>have b:n=w2.heap.size:=b;have:=hq g;omega
   |1,0,b,g=>have g:n=w2.heap.size:=g;have:=hq b;omega)
  (λa n P=>by
   match a,P with
   |0,P=>have P:n=w2.heap.size:=P;omega
   |1,P=>have:=H.aE n P;omega)
 refine⟨_,ae b2 rfl,λa0 b3 w'=>∃(a:Nat) (h:K_) (F:UL) (cls:Nat->Nat) (rs:List (Nat×bh)),b3=a/\a<=j/\a0=j-a/\(a=0\/(cB c 0).1=0/\(cB c 0).2.S.l.length<=16777216)/\cR w' F cls w2.heap.size h 0 c rs []/\h.ps=rs.map (·.1)/\rs.length=a/\rs.map (·.2)=List.replicate a (cB c 0).2/\(∀n,F n->w1.heap.size<=n)/\ai w1 w',
  ⟨_,0,⟨q,none,0,0,[]⟩,_,m,[],rfl,Qj _,rfl,.inl rfl,I,rfl,rfl,rfl,λn ⟨a,P⟩=>?_,x.then l⟩,?_⟩
 ·match a,P with
  |0,P=>have P:n=w2.heap.size:=P;omega
  |1,P=>exact b1 n P
 rintro a0 _ _ w4 ⟨a,h,F,cls,rs,rfl,g,rfl,b4,K,o,a1,a2,y,z⟩;have k:=Z.then z;have b5:=z.get g1 id;rw[hB];refine al.dec (λb6=>?_) (λc7=>?_)
 ·have b6:a<j:=oM
  obtain⟨L,e2⟩:=OL (c:=c) (i:=(a:Int)) oM oM;refine ar (Iy c d tn X v E Y) b5 (PC.ok (TZ (self:=(a:Int)) V W (C.then k) (hd.af k) (λn P=>by have:=hD n P;have:=k.size;omega) hs a9 b0) ?_);rintro v5 M ⟨N,⟨a3,rfl⟩|⟨p,A,G',rfl,hA,hG,a4⟩⟩
  ·refine⟨_,_,rfl,al.eP (λ_=>Ok.mk ⟨k.then N,.inl ⟨?_,?_⟩⟩) (λh=>Zz h a3)⟩
   ·show(cB c 0).1≠0
    rw[<-L];exact a3
   ·show _=Value.tuple #[.pointer none,WP (cB c 0).1]
    rw[<-L]
  refine⟨_,_,rfl,al.eP (λh=>Zz rfl h) (λ_=>?_)⟩;rw[L]at p;rw[e2]at hA a4;have z4:=z.size;obtain⟨F2,a5,a6,b7⟩:=cR.more (R:=(cB c 0).2) K N (by rw[a1];exact hA) hG;have b8:Gk w2.heap.size h 0 M (λn=>F2 n/\a5 n=0):=a6.at' 0;obtain⟨c1,O,c3,B⟩:=b8;have hn:=c3.len dC;rw[o,Q8]at hn;refine⟨_,0,rfl,_,_,_,ae O rfl,Ou (x:=A) (D:=λ_=>False) c3 YR ⟨rfl,trivial⟩ (λn P=>P.elim) (by rw[o,Q8];unfold aP;omega) (by rw[o,Q8];unfold maxLen;omega) λr e w7 F7 Q S c8 b9=>⟨_,_,_,rfl,_,0,rfl,PS.mk (S.get O λf=>(B _ f).2 rfl) sM λw8 k8 s8 g8=>?_⟩⟩;have z5:=N.size;have z7:=S.size;have c9:=aA O;have T:∀n,aH r=some n->(aH h.a=some n\/M.heap.size<=n)/\n<w7.heap.size:=λn P=>⟨b9 n P,Q.aE n (Q.self n P)⟩
  have a7:∀n,aH r=some n->n≠w2.heap.size:=λn P f=>by rcases(T n P).1 with h|h;exact(B n h).2 f;omega
  have kk:aj (λn=>F2 n/\a5 n=0) M w8:=(S.mono λn _ P=>(B n P).1).then (k8.mono λn _ P=>by have P:n=w2.heap.size:=P;rw[P];exact c1);obtain⟨F8,s,U,t,-⟩:=bg.nh a6 fF (k:=0) (G':=λn=>n=w2.heap.size\/aH r=some n) (C2:=jr (Gk w2.heap.size ⟨h.q,r,h.n+1,e,h.ps++[A]⟩ 0) (λw G=>eD w h.q G []) c (rs++[(A,(cB c 0).2)]))
   ⟨kk,λn P=>P.elim (λf=>.inl (f▸c1)) λP=>(T n P).1.imp (λh=>(B n h).1) id⟩ (λn P=>P.elim (λf=>oM) λP=>by have:=(T n P).2;omega)
   ⟨.inl rfl,g8,Q.alone.keep k8 λn P f=>a7 n P f,λn P=>⟨.inr P,a7 n P⟩⟩ λi G b u=>by
    match i,b,u with
    |1,_,u=>exact u
    |i+2,_,u=>exact u
  have a8:=b7.trans t;refine⟨_,oM,a+1,⟨h.q,r,h.n+1,e,h.ps++[A]⟩,F8,s,_,an oM,oM,rfl,.inr ⟨p,a4⟩,U,by rw[o,Q3];rfl,by rw[QX,a1];rfl,by rw[Q3,a2,List.replicate_succ'];rfl,λn P=>(a8.new n P).elim (y n) λh=>oM,z.new a8.keep λn P=>.inr (y n P)⟩
 ·have c0:a≠0:=oM
  obtain⟨p,d0⟩:=b4.resolve_left c0;obtain⟨r1,r2,-,-⟩:=Iz p;have c2:a=c.aD.toNat:=oM
  have J:rs[0]? =some rs[0]:=Qq oM;refine Ok.mk ⟨k,.inr ⟨p,_,F,rfl,⟨h,cls,rs,K,o,?_,oM,(cR.rep K J).ok,⟨V,W,C.then k,λn P=>by have:=y n P;omega⟩⟩,λn P=>by have:=y n P;omega,⟨λR hR=>?_,Int.le_refl 0,Int.le_refl 0⟩⟩⟩
  ·rw[a2,c2];rfl
  ·have:=(List.mem_replicate.1 hR).2
   subst this;exact⟨oM,by rw[Lp];exact Qj _⟩
end
def xR:kv:=⟨0,0,0,0,0,0,0⟩
section
variable {w w' w0 w1 w2 wb:World} {p i k g:Nat} {F F1 F' G G' T D:UL} {c:bK} {X:dw} {s:ei} {x:gF} {v:Value}
def FN(w:World)(g:Nat)(F:UL)(x:gF):Prop:=∃(P:bc) (a b:Nat) (c:bc) (d e:Nat) (f:bc) (h i:Nat) (G:UL),w.heap[g]? =some (.cells (fU x P a b c d e f h i).toArray 44 (0,0))/\Row gA 32 w G P a x.st.cells/\(∀n,G n->n<w.heap.size/\¬F n)/\¬F g
def FN.nh(c:FN w g F x)(P:cm F w F' w'):FN w' g F' x:=by
 obtain⟨h,i,j,k,l,m,o,p,q,G,e,r,b,f⟩:=c;have s:=P.keep.size;have t:=aA e;exact⟨h,i,j,k,l,m,o,p,q,G,P.keep.get e f,r.keep P.keep λn a=>(b n a).2,λn a=>⟨by have:=(b n a).1;omega,λd=>(P.new n d).elim (b n a).2 λc=>by have:=(b n a).1;omega⟩,λd=>(P.new g d).elim f λc=>oM⟩
def FN.get(n:FN w g F x):∃cs:Array Value,w.heap[g]? =some (.cells cs 44 (0,0))/\cs[0]? =some (WP x.code)/\cs[1]? =some (WP x.id.1)/\cs[2]? =some (WP x.id.2):=by
 obtain⟨a,b,c,d,e,f,h,i,j,G,P,k,l,m⟩:=n;exact⟨_,P,rfl,rfl,rfl⟩
def MG(A:bY w0 w p F c X)(E:fI k X)(H:k<=999)(I:s.Ok)(f:∀n b F',w.heap.size<=n.heap.size->bY w0 b p F' c (cA c X s).2->fI (k+1) (cA c X s).2->cm F w F' b->FN b n.heap.size F' (cA c X s).1->g9 n b):
  PC LL 6 #[RK p,iL s] w (λv n=>tT (dL LL 44) λx=>v=x/\PA n (.cells #[WP 0,WP 0,WP 0,WP 0,.slice none 0 0,.slice none 0 0,.slice none 0 0,.bool false] 44) λw2=>nw LL 44 (RK n.heap.size) x w2 λb=>g9 n b) a6:=by
 have N:=A.env.gr.size;refine PC.ok (Gv A E H I) ?_;rintro _ n ⟨F',⟨g,h,i,j,l,m,o,q,r,G,rfl,J,O,Q,t⟩,e,u,B⟩;have C:=e.aE;have K:=B.keep.size;refine cu (Ns _ g h i j l m o q r) ⟨rfl,PA.mk λw2 y R L=>aC (il _ g h i j l m o q r) L rfl λb z S M=>f n b F' K ?_ u ?_ ?_⟩
 ·exact(e.af y).keep z (λa d P=>by have P:a=n.heap.size:=P;have:=C a d;omega) λa P=>by have P:a=n.heap.size:=P;omega
 ·exact(B.af y).last z λa P=>by have P:a=n.heap.size:=P;omega
 ·exact⟨g,h,i,j,l,m,o,q,r,G,M,(J.af y).keep z λa d P=>by have P:a=n.heap.size:=P;have:=(t a d).2.1;omega,λa d=>⟨by have:=(t a d).2.1;omega,(t a d).2.2⟩,λP=>by have:=C _ P;omega⟩
def wJ{n P a:Int}(b:(decide (-1000000<=n)&&decide (n<=1000000)&&(decide (-1000000<=P)&&decide (P<=1000000))&&(decide (-1000000<=a)&&decide (a<=1000000)))=true):ei.Ok ⟨n,P,a,xR⟩:=by
 simp only[QK,Zk]at b;exact⟨by show aK n;unfold aK;omega,by show aK P;unfold aK;omega,by show aK a;unfold aK;omega,i10 rfl,i10 rfl,i10 rfl,i10 rfl,i10 rfl,i10 rfl⟩
set_option maxHeartbeats 2000000 in
end
def lu(n:bK)(P:bc)(tn a:Nat)(b:bc)(c d:Nat)(e:bc)(f g:Nat):List Value:=eY n P tn a b c d++[.slice e f g]
abbrev Gw(n:bK)(P:bc)(tn a:Nat)(b:bc)(c d:Nat)(e:bc)(f g:Nat):Value:=.agg (lu n P tn a b c d e f g).toArray
def RB(n:bK)(P:bc)(tn a:Nat)(b:bc)(c d:Nat)(e:bc)(f g:Nat):iA LL 30 (lu n P tn a b c d e f g)=true:=kR
def Et:kq ei:=flat 10 nH ei.Ok (λ_=>rfl) (λP a n=>by simp[nH,iM]at n;rcases n with rfl|rfl|rfl|rfl|rfl|rfl|rfl|rfl|rfl|rfl<;>rfl)
section
variable {w w' w0 w1 w2 wb:World} {p q i k g:Nat} {F F1 F' G G' T D E:UL} {c:bK} {X Y:dw} {s:ei} {x:gF} {v:Value} {ta pa la:bc} {tn tc pn pc ln lc:Nat} {l:List ei}
def Lq(f:bt w D c.decl ta tn pa pn)(g:Row Et 80 w E la ln l):
  be 11 #[Gw c ta tn tc pa pn pc la ln lc] w (Ok λv w'=>(∃P:Bool,v= .bool P/\(P=false->l.length<=300))/\ai w w'):=by
 have h:=g.len;refine Gx (PA.mk λw1 d i a=>⟨_,_,_,_,_,_,ae a rfl,ae a rfl,PC.ok (Lr (f.af d)) ?_⟩);rintro _ w2 ⟨⟨P,rfl⟩,e⟩;have n:=d.then e;have b:=e.get a id;exact⟨_,rfl,al.mk (λ_=>Ok.mk ⟨⟨_,rfl,sM⟩,n⟩) (λ_=>⟨_,_,_,ae b rfl,al.dec (λ_=>Ok.mk ⟨⟨_,rfl,sM⟩,n⟩) (λj=>⟨_,ae b rfl,al.dec (λ_=>⟨_,ae b rfl,Ok.mk ⟨⟨_,rfl,λ_=>oM⟩,n⟩⟩) (λ_=>Ok.mk ⟨⟨_,rfl,λ_=>oM⟩,n⟩)⟩)⟩)⟩
def T_(P:w.heap[g]? =some (.cells (lu c ta tn tc pa pn pc la ln lc).toArray 30 (0,0)))(a:O (xi c ta tn tc pa pn pc)):jO LL 27 (RK g) w O:=
 Nt (es:=eY c ta tn tc pa pn pc) (Iy c ta tn tc pa pn pc) P (λn b=>by rcases n with _|_|_|_|_|_|_|_|_|_|n<;>first|rfl|exact Zz b (by simp[eY])) a
def RC(c:Row Et 80 w E la ln l){j:Nat}(d:j<ln):∃n P s,la=some ⟨n,P,none⟩/\n<w.heap.size/\E n/\l[j]? =some s/\s.Ok/\∀a:Value->Prop,a (iL s)->jO LL 49 (.pointer (some ⟨n,P+j*10,none⟩)) w a:=by
 obtain⟨n,P,s,p,e,f,g,h,i,rfl,k⟩:=c.AV (i:=j) d;exact⟨n,P,s,e,f,g,h,k,λa b=>bT (es:=nH s) (k:=10) (KZ s) rfl (λm o=>i m o) b⟩
def Vr(P:fV w1 x v w)(a:O v):tT (dL LL 44) λn=>v=n/\O n:=by
 obtain⟨b,c,d,e,f,g,h,i,j,G,rfl,-⟩:=P;exact cu (Ns x b c d e f g h i j) ⟨rfl,a⟩
end
def aq.UA(n:M∈B.l):M∈(B.add l).2.l:=by
 rcases B.eU l with⟨-,P⟩|⟨a,-⟩
 ·rw[P];exact n
 ·rw[a];exact(cO l B.l).mem_iff.2 (QJ _ n)
def aq.vZ:∀(P:List ah) {S:aq} {n:ah},n∈S.l->n∈(S.eC P).l
 |[],S,n,a=>a
 |e::P,S,n,a=>aq.vZ P (S:=(S.add e).2) (aq.UA a)
def aq.xS:∀(a:List ah) {S:aq} {P:ah},P∈(S.eC a).l->P∈S.l\/P∈a
 |[],S,P,b=>.inl b
 |e::a,S,P,b=>by
  rcases aq.xS a (S:=(S.add e).2) b with n|n
  ·rcases S.eU e with⟨-,c⟩|⟨c,-⟩
   ·rw[c]at n;exact .inl n
   ·rw[c]at n
    rcases Q2.1 ((cO e S.l).mem_iff.1 n)with d|d
    ·exact .inr (d▸QV ..)
    ·exact .inl d
  ·exact .inr (QJ _ n)
section
variable {D E:ak} {A:pX} {no:Int} {l x:List ah} {k d:Nat} {V:dx} {c:bK} {X:bh} {ref:Bool} {Q:ah->Prop}
def v_(P:D.dead=true)(n:ak->Int×ak):D.op n=(15,D.gone):=by
 unfold ak.op ak.dies;rw[P];rfl
def Jn(n:D.dead=true):Go.Proofs.YtkpomgifkloklabGreatDoor.bz V D=(15,V,D.gone):=by
 unfold bz;have:D.create (cG (ax V.next))=(15,D.gone):=v_ n _;dsimp only;rw[this,Zx sM]
def Cb(n:D.dead=true):aN V D=(15,V,D.gone):=by
 unfold aN;split
 ·exact Jn n
 ·have:D.sync V.last=(15,D.gone):=v_ n _
  dsimp only;rw[this,Zx sM]
def Jo(n:D.dead=true)(x:List ah):(aG V D x).2.2.files=D.files/\(aG V D x).2.2.dead=true/\(x≠[]->(aG V D x).1≠0):=by
 unfold aG;split
 ·exact⟨rfl,n,λ_=>sM⟩
 split
 ·rename_i a;exact⟨rfl,n,λb=>Zz a b⟩
 dsimp only
 by_cases P:V.size<=V.bytes
 ·rw[Zx P,Cb n,Zx sM]
  exact⟨rfl,rfl,λ_=>sM⟩
 ·rw[Zq P,Zq sM]
  have:D.append V.last (aB x)=(15,D.gone):=v_ n _;rw[this,Zx sM];exact⟨rfl,rfl,λ_=>sM⟩
def Hf(n:D.dead=true){size:Int}:(aS V D x size).no≠0/\(aS V D x size).D.files=D.files/\(aS V D x size).D.dead=true:=by
 unfold aS;split
 ·rename_i P;exact⟨P,rfl,n⟩
 have:bE V.next (bO x).1 D=(15,D.gone):=by
  unfold bE;have:D.create (cG (ax V.next))=(15,D.gone):=v_ n _;dsimp only;rw[this,Zx sM]
 rw[this,Zx sM];exact⟨sM,rfl,rfl⟩
def Py{n:ByteArray}(c:au D.files n=some ⟨u,a,J⟩)(P:(D.sync n).1≠0):(D.sync n).1=15/\(D.sync n).2=D.gone:=by
 unfold ak.sync at P⊢;rcases BG D (ak.BH n λD b=>(0,D.fH n (b.cut b.bytes.length)))with e|e
 ·rw[e];exact⟨rfl,rfl⟩
 ·rw[e]at P
  unfold ak.BH at P;rw[eE,c]at P;exact Zz rfl P
def cM.Ss(g:cM D A no l k)(b:HN V A no l)(i:∀n∈x,n.Ok/\n.aM.length<=64){size:Int}:
  ((aS V D x size).no≠0/\cM (aS V D x size).D A no l k)\/
  (cM (aS V D x size).D [] V.next x x.length/\((aS V D x size).no=0/\HN (aS V D x size).V [] V.next x/\(aS V D x size).V.size=size\/(aS V D x size).no≠0/\(aS V D x size).D.dead=true)):=by
 have r:bO x=(aB x,0):=by
  unfold bO;rw[Zq];intro s;obtain⟨n,t,j⟩:=List.any_eq_true.1 s;have:=(i n t).2;unfold eQ at j;simp at j;omega
 unfold aS;rw[r,Zq sM];rcases g.bE b i with⟨c,m⟩|⟨c,m,h⟩
 ·dsimp only
  rw[Zx c];exact .inl ⟨c,m⟩
 dsimp only;rw[Zq (by simpa using c)];generalize(Go.Proofs.YtkpomgifkloklabGreatDoor.bE V.next (aB x) D).2=o at h;have u:=g.ne_next b;obtain⟨v,p⟩:=Bd V.bf h.tidy;have P:cM (jE V.bf o) [] V.next x x.length:=by
  refine h.same v (λd e=>?_) (p _ λd e n=>?_)
  ·obtain rfl:d=V.next:=by simpa[cW]using e
   exact p _ λw q n=>u w (by rw[b.bf]at q;exact q) n.symm
  ·rw[b.bf]at e
   exact(fA (n:=d) (.inr (by have:=g.Ah d e;omega))).1 n.symm
 generalize jE V.bf o=a at P
 cases f:a.dead with
 |false=>
  have y:V.next<ir a:=by
   obtain⟨F,z,-⟩:=P.last;have:=P.tZ;exact Jp oM (by rw[z];rfl)
  have:=sh a.list;rw[Lx P f];exact .inr ⟨P,.inl ⟨rfl,⟨rfl,rfl,y,this.2⟩,rfl⟩⟩
 |true=>
  obtain⟨B,C⟩:=OT (size:=size) f;refine .inr ⟨P.files C,.inr ⟨by rw[B];simp,?_⟩⟩;have E:told a=[]:=by
   have:a.read cf=([],15):=by unfold ak.read;rw[f];rfl
   unfold told dB;rw[this];rfl
  unfold aU;rw[E];unfold cP gi;rw[Zq sM,Zx (show(dO a size).bf=[]from rfl),show aN _ _=_ from Cb f]
  rfl
def Jq(P:cM D A no l k)(n:Int):cj (dq (D.ej n))/\Tidy (dq (D.ej n)).files/\(∀a∈cW A++[no],au (dq (D.ej n)).files (ay a)=au (D.ej n).files (ay a))/\au (dq (D.ej n)).files cf=au (D.ej n).files cf:=by
 have g:=Ja D n;have j:=LW P.tidy n;have m:∀x∈cW A++[no],aK x:=λx p=>by have:=P.Ah x p;unfold aK;omega
 have q:(cW A++[no]).length<=64:=by have:=P.many;simpa[cW]using this
 have r:dB (D.ej n)=some (cW A++[no]):=by
  unfold dB;rw[g.read (uG P.tidy n P.Xa),Zq sM,show(dR (bU (cW A++[no]))).bytes=bU (cW A++[no])from rfl,oK m q]
 have o:∀c∈Gz (D.ej n),(∀a∈cW A++[no],ay a≠c)/\cf≠c:=λc d=>by
  have b:=(List.mem_filter.1 d).2;unfold jD at b;rw[r]at b;refine⟨λa h e=>?_,λe=>?_⟩
  ·have m:=P.Ah a h
   subst e;rw[xU oM,Xv (fA (n:=a) (.inr oM)).2]at b;simp only[Option.getD_some,Zy h]at b;simp at b
  ·subst e
   rw[Xv KY,RI]at b;simp at b
 have f:∀(i:List ByteArray) {D:ak},Tidy D.files->Tidy (KX D i).files:=by
  intro i
  induction i with
  |nil=>intro D P;exact P
  |cons c i s=>
   intro D P;refine s (D:=(D.delete c).2) ?_;rcases jB D c with e|e
   ·rw[e];exact P
   ·rw[e];exact P.bQ _
 refine⟨AP _ g,f _ j,λa h=>?_,?_⟩
 ·unfold dq
  rw[AQ _ g j,Zq λd=>(o _ d).1 a h rfl]
 ·unfold dq
  rw[AQ _ g j,Zq λd=>(o _ d).2 rfl]
def Mt{size keep:Int}(n:cM D A no l k):∃P,k<=P/\P<=l.length/\(aU (dq (D.ej keep)) size).no=0/\(aU (dq (D.ej keep)) size).out=ck A (l.take P)/\HN (aU (dq (D.ej keep)) size).V A no (l.take P)/\(aU (dq (D.ej keep)) size).V.size=size/\
  cM (aU (dq (D.ej keep)) size).D A no (l.take P) P/\cj (aU (dq (D.ej keep)) size).D:=by
 obtain⟨g,h,d,i⟩:=Jq n keep;obtain⟨j,m,z,o⟩:=n.last;obtain⟨a,B,C,p⟩:=EB keep (aB l) o;have e:au (D.ej keep).files (ay no)=some ⟨(aB l).take a,((aB l).take a).length,true⟩:=by
  rw[EA n.tidy,m];show(if true then some (sV keep ⟨aB l,j,true⟩)else none)=_;rw[p];rfl
 have q:((aB l).take a).length=a:=by simp;omega
 rw[q]at e;obtain⟨P,r,s,E,t,u,v,w,F,H,b,c,y⟩:=Pz (size:=size) (n:=a) g h n (λx f=>by rw[d x.1 (ZV _ (Xk.2 ⟨x,f,rfl⟩))];exact uG n.tidy keep (n.full x f)) (by rw[i];exact uG n.tidy keep n.Xa) (by rw[d no sM];exact e) oM oM;exact⟨P,r,s,t,u,v,w,c oM,b⟩
structure eZ (Q:ah->Prop) (c:bK) (X:bh) (ref:Bool):Prop where
 log:∃V A no l k d,X.log=some V/\cM X.D A no l k/\(X.D.dead=true\/HN V A no l/\V.size=c.bj)/\XT c.bj A/\X.S=(⟨c.aD.toNat,[]⟩:aq).eC ((ck A l).take d)/\d<=Jr A k/\(d<(ck A l).length->X.D.dead=true/\ref=true)/\∀e∈ck A l,Q e
def si(A:pX)(l:List ah):(ck A l).length=Jr A l.length:=by unfold ck Jr;simp
def eZ.same{Y:bh}(b:eZ Q c X ref)(e:Y.S=X.S)(n:Y.D=X.D)(f:Y.log=X.log){r2:Bool}(g:ref=true->r2=true):eZ Q c Y r2:=by
 obtain⟨V,A,no,l,k,d,h,i,j,m,o,p,P,q⟩:=b.log;exact⟨V,A,no,l,k,d,by rw[f];exact h,by rw[n];exact i,by rw[n];exact j,m,by rw[e];exact o,p,λa=>⟨by rw[n];exact(P a).1,g (P a).2⟩,q⟩
def eZ.Gu(n:eZ Q c X ref)(P:Int):eZ Q c {X with D:=X.D.Gu P} ref:=by
 obtain⟨V,A,no,l,k,d,a,b,e,f,g,h,i,j⟩:=n.log;exact⟨V,A,no,l,k,d,a,b.files rfl,e,f,g,h,i,j⟩
def eZ.take(q:eZ Q c X ref)(E:X.S.Cl)(F:X.S.n=c.aD.toNat)(T:X.D.Ok)(H:∀b∈x,b.Ok/\Q b)(U:x.length<=20000000):
  ((dt c X x).1=0/\(dt c X x).2.S=X.S.eC x/\∀I,eZ Q c (dt c X x).2 I)\/
  ((dt c X x).1≠0/\(dt c X x).2.S=X.S/\eZ Q c (dt c X x).2 (ref||(dt c X x).1==15)):=by
 obtain⟨V,A,no,l,k,d,W,m,Y,r,h,J,s,o⟩:=q.log;have n:dt c X x=(if(aG V X.D x).1≠0 then((aG V X.D x).1,{X with log:=some (aG V X.D x).2.1,D:=(aG V X.D x).2.2})else
   if((aG V X.D x).2.2.sync (aG V X.D x).2.1.last).1≠0 then(((aG V X.D x).2.2.sync (aG V X.D x).2.1.last).1,{X with log:=some (aG V X.D x).2.1,D:=((aG V X.D x).2.2.sync (aG V X.D x).2.1.last).2})else
   (0,{X with log:=some (aG V X.D x).2.1,D:=((aG V X.D x).2.2.sync (aG V X.D x).2.1.last).2,S:=fg c X.S x})):=by
  unfold dt;rw[W]
 by_cases t:X.D.dead=true
 ·obtain⟨K,u,e3⟩:=Jo (V:=V) t x
  generalize aG V X.D x=P at*
  by_cases a:P.1≠0
  ·rw[Zx a]at n
   rw[n];exact .inr ⟨a,rfl,P.2.1,A,no,l,k,d,rfl,m.files K,.inl u,r,h,J,λf=>⟨u,by rw[(s f).2];rfl⟩,o⟩
  ·rw[Zq a]at n
   have Z:P.2.2.sync P.2.1.last=(15,P.2.2.gone):=v_ u _;rw[Z,Zx sM]at n;rw[n];exact .inr ⟨sM,rfl,P.2.1,A,no,l,k,d,rfl,m.files K,.inl rfl,r,h,J,λf=>⟨rfl,by rw[(s f).2];rfl⟩,o⟩
 obtain⟨hv,L⟩:=Y.resolve_left t;have a0:(ck A l).length<=d:=Nat.le_of_not_lt λa1=>t (s a1).1;rw[Qz a0]at h;have M:(ck A l).length=Jr A k:=by
  have:=si A l;have:=m.kl;unfold Jr at*;omega
 obtain⟨i,v,g,N,w,y,O,e,z,p,f7⟩:=Js (x:=x) m hv (λb B=>(H b B).1) U T (by rw[L];exact r);rw[L]at z p;generalize aG V X.D x=P at*
 by_cases a:P.1≠0
 ·rw[Zx a]at n
  rw[Zq a]at e;rw[n];exact .inr ⟨a,rfl,P.2.1,i,v,g,N,(ck i g).length,rfl,w,.inr ⟨y,z⟩,p,by rw[List.take_length,e];exact h,by rw[e,M];exact O,λf=>Zz f (Nat.lt_irrefl _),by rw[e];exact o⟩
 rw[Zq a]at n;have a:P.1=0:=Classical.not_not.1 a;rw[Zx a]at e;rw[cM.Mu y]at n;obtain⟨a2,s1,s2,s3⟩:=w.last;have R:∀b∈ck i g,Q b:=by rw[e];exact λb B=>(Q6.1 B).elim (o b) λq=>(H b q).2
 rcases EO w with⟨j,C⟩|⟨j,C⟩
 ·rw[Zq (by rw[j];simp)]at n
  rw[n];refine .inl ⟨rfl,wg E F x,λI=>⟨P.2.1,i,v,g,g.length,(ck i g).length,rfl,C,.inr ⟨y,z⟩,p,?_,by rw[si];exact Q4 _,λf=>Zz f (Nat.lt_irrefl _),R⟩⟩;rw[List.take_length,e,aq.AR,<-h];exact wg E F x
 ·obtain⟨z1,S⟩:=Py s1 j
  rw[Zx j]at n;rw[n];refine .inr ⟨j,rfl,P.2.1,i,v,g,N,(ck A l).length,rfl,C,.inl (by rw[S];rfl),p,?_,by rw[M];exact O,λ_=>⟨by rw[S];rfl,by rw[z1];simp⟩,R⟩;rw[e,List.take_left];exact h
def eZ.sub(a:eZ Q c X ref):∀n∈X.S.l,Q n:=λn P=>by
 obtain⟨V,A,no,l,k,d,f,g,h,i,b,j,m,e⟩:=a.log;rw[b]at P;exact e n (List.mem_of_mem_take ((aq.xS _ P).resolve_left sM))
def eZ.ej(P:eZ Q c X ref)(keep:Int):(gU c X keep).1=0/\(∀a∈X.S.l,a∈(gU c X keep).2.S.l)/\(ref=false->(gU c X keep).2.S=X.S)/\eZ Q c (gU c X keep).2 false:=by
 obtain⟨V,A,no,l,k,d,C,g,E,h,e,i,j,m⟩:=P.log;obtain⟨n,F,o,p,q,r,s,t,H⟩:=Mt (size:=c.bj) (keep:=keep) g;have u:gU c X keep=(0,{X with D:=(aU (dq (X.D.ej keep)) c.bj).D,waits:=[],gB:=⟨X.gB.de,[],[]⟩,log:=some (aU (dq (X.D.ej keep)) c.bj).V,S:=(⟨c.aD.toNat,[]⟩:aq).eC (ck A (l.take n))}):=by
  unfold gU fE;dsimp only;rw[Zq (by rw[p];simp),q]
 have v:(ck A l).take d=(ck A (l.take n)).take d:=by
  have f:d<=((A.map (·.2)).flatten).length+n:=by unfold Jr at i;omega
  unfold ck;rw[List.take_append,List.take_append,List.take_take,X2 oM]
 have w:(⟨c.aD.toNat,[]⟩:aq).eC (ck A (l.take n))=X.S.eC ((ck A (l.take n)).drop d):=by
  rw[e,v,<-aq.AR,ZX]
 rw[u];refine⟨rfl,λa b=>?_,λx=>?_,_,A,no,l.take n,n,(ck A (l.take n)).length,rfl,t,.inr ⟨r,s⟩,h,by rw[List.take_length],?_,λf=>Zz f (Nat.lt_irrefl _),λa b=>m a ?_⟩
 ·show a∈((⟨c.aD.toNat,[]⟩:aq).eC (ck A (l.take n))).l
  rw[w];exact aq.vZ _ b
 ·show(⟨c.aD.toNat,[]⟩:aq).eC (ck A (l.take n))=X.S
  have y:(ck A l).length<=d:=Nat.le_of_not_lt λz=>by have:=(j z).2;rw[x]at this;cases this
  have:=si A l;have B:n=l.length:=by unfold Jr at*;omega
  rw[B,List.take_length,e,Qz y]
 ·rw[si];unfold Jr;rw[Qy,X2 o];exact Q4 _
 ·unfold ck at b⊢
  exact(Q6.1 b).elim (λP=>ZV _ P) λP=>ZW _ (List.mem_of_mem_take P)
def eZ.UB(y:eZ Q c X ref)(f:X.S.Cl)(z:X.S.n=c.aD.toNat):(dN c X).2.S=X.S/\eZ Q c (dN c X).2 ref:=by
 obtain⟨V,A,no,l,k,d,g,q,B,r,i,s,t,j⟩:=y.log;have P:dN c X=(if(aS V X.D X.S.l c.bj).no≠0 then((aS V X.D X.S.l c.bj).no,{X with D:=(aS V X.D X.S.l c.bj).D})else(0,{X with D:=(aS V X.D X.S.l c.bj).D,log:=some (aS V X.D X.S.l c.bj).V})):=by
  unfold dN;rw[g]
 refine⟨by rw[P];split<;>rfl,?_⟩
 by_cases m:X.D.dead=true
 ·obtain⟨C,E,u⟩:=Hf (V:=V) (x:=X.S.l) (size:=c.bj) m
  rw[Zx C]at P;rw[P];exact⟨V,A,no,l,k,d,g,q.files E,.inl u,r,i,s,λa=>⟨u,(t a).2⟩,j⟩
 obtain⟨v,F⟩:=B.resolve_left m;have L:(ck A l).length<=d:=Nat.le_of_not_lt λH=>m (t H).1;have I:∀n∈X.S.l,n.Ok/\n.aM.length<=64:=λn b=>⟨f.ok.ok n b,by
  obtain⟨-,-,-,-,-,-,M,-⟩:=lr (f.ok.Xp n b);have:=f.ok.n;omega⟩
 have w:X.S=(⟨c.aD.toNat,[]⟩:aq).eC X.S.l:=by rw[<-z];exact f.VY.symm
 have x:∀n∈ck [] X.S.l,Q n:=λn b=>by
  have b:n∈X.S.l:=b;rw[i]at b;exact j n (List.mem_of_mem_take ((aq.xS _ b).resolve_left sM))
 rcases q.Ss v I (size:=c.bj)with⟨h,e⟩|⟨h,⟨e,o,J⟩|⟨e,o⟩⟩
 ·rw[Zx h]at P
  rw[P];exact⟨V,A,no,l,k,d,g,e,.inr ⟨v,F⟩,r,i,s,λa=>Zz a oM,j⟩
 ·rw[Zq (by rw[e];simp)]at P
  rw[P];exact⟨_,[],V.next,X.S.l,X.S.l.length,X.S.l.length,rfl,h,.inr ⟨o,J⟩,λK p=>by simp at p,by rw[show(ck [] X.S.l)=X.S.l from rfl,List.take_length];exact w,by unfold Jr;simp,λa=>Zz a (by rw[show(ck [] X.S.l)=X.S.l from rfl];exact Nat.lt_irrefl _),x⟩
 ·rw[Zx e]at P
  rw[P];exact⟨V,[],V.next,X.S.l,X.S.l.length,X.S.l.length,g,h,.inl o,λK p=>by simp at p,by rw[show(ck [] X.S.l)=X.S.l from rfl,List.take_length];exact w,by unfold Jr;simp,λa=>Zz a (by rw[show(ck [] X.S.l)=X.S.l from rfl];exact Nat.lt_irrefl _),x⟩
def OM{self:Int}(n:(cB c self).1=0):eZ Q c (cB c self).2 false/\(cB c self).2.waits=[]:=by
 have b:cB c self=Cc c:=by
  unfold cB at n⊢;split
  ·rename_i P;rw[Zx P]at n;exact Zz n P
  rename_i P;rw[Zq P]at n;split
  ·rename_i d;rw[Zx d]at n;simp at n
  ·rfl
 rw[b]at n⊢;unfold Cc fE at n⊢;dsimp only at n⊢;rcases Su c.uI.toNat c.bj with a|⟨a,e,f,g,h,l,m,o⟩
 ·rw[Zx oM]at n
  exact Zz n dg
 ·rw[Zq (by rw[a];simp)]
  exact⟨⟨_,[],1,[],0,0,rfl,f,.inr ⟨g,h⟩,λp i=>by simp at i,by rw[e];rfl,Qj _,λj=>by simp[ck]at j,λq k=>by simp[ck]at k⟩,rfl⟩
def Mv{P x:ah}(n:x∈(eT a I P).2):x=P\/x∈I:=by
 unfold eT at n;split at n
 ·exact .inr n
 ·exact Q2.1 ((cO P I).mem_iff.1 n)
def wh(n:Nat)(Q:ah->Prop):∀(l:List ah) (f:aq) (P b:List ah),(∀e∈l,Q e)->(∀e∈P,Q e)->(∀e∈b,Q e)->(∀e∈(gN n l f P b).2.1,Q e)/\∀e∈(gN n l f P b).2.2,Q e
 |[],f,P,b,_,c,d=>⟨c,d⟩
 |e::l,f,P,b,h,c,d=>by
  have i:=h e (QV ..);have g:∀x∈l,Q x:=λx a=>h x (QJ _ a);unfold gN;split
  ·exact wh n Q l _ _ _ g (λx a=>(Q6.1 a).elim (c x) λa=>by rw[List.mem_singleton.1 a];exact i) d
  split
  ·exact wh n Q l _ _ _ g c d
  ·exact wh n Q l _ _ _ g c λx a=>(Mv a).elim (λj=>by rw[j];exact i) (d x)
def rC(Q:ah->Prop):∀(l:List ah) (b:aq) (n:List ah),(∀e∈l,Q e)->(∀e∈n,Q e)->∀e∈(eG l b n).2,Q e
 |[],b,n,_,a=>a
 |e::l,b,n,c,a=>by
  have d:∀x∈l,Q x:=λx P=>c x (QJ _ P);unfold eG;split
  ·exact rC Q l _ _ d λx P=>(Q6.1 P).elim (a x) λP=>by rw[List.mem_singleton.1 P];exact c e (QV ..)
  ·exact rC Q l _ _ d a
def wi(Q:ah->Prop):∀(l:List ah) (P:aq) {a:ah×aq×List ah},dK P l=some a->(∀e∈l,Q e)->Q a.1/\∀e∈a.2.2,Q e
 |[],P,a,n,_=>by cases n
 |e::l,P,a,n,c=>by
  unfold dK at n;split at n
  ·cases n;exact⟨c e (QV ..),λx b=>c x (QJ _ b)⟩
  ·cases d:dK P l with
   |none=>rw[d]at n;cases n
   |some i=>
    rw[d]at n
    cases n
    obtain⟨f,g⟩:=wi Q l P d λx b=>c x (QJ _ b);exact⟨f,λx b=>(Q2.1 b).elim (λh=>by rw[h];exact c e (QV ..)) (g x)⟩
def wj(Q:ah->Prop):∀(k:Nat) (a:aq) (l n:List ah),(∀P∈l,Q P)->(∀P∈n,Q P)->(∀P∈(dm k a l n).1,Q P)/\∀P∈(dm k a l n).2,Q P
 |0,a,l,n,b,c=>⟨c,b⟩
 |k+1,a,l,n,b,c=>by
  unfold dm
  cases e:dK a l with
  |none=>exact⟨c,b⟩
  |some h=>
   obtain⟨f,g⟩:=wi Q l a e b;exact wj Q k _ _ _ g λx d=>(Q6.1 d).elim (c x) λd=>by rw[List.mem_singleton.1 d];exact f
def Jt(Q:ah->Prop):∀(k:Nat) (P:aq) (a b:List ah),(∀n∈a,Q n)->(∀n∈b,Q n)->(∀n∈(pM k P a b).1,Q n)/\∀n∈(pM k P a b).2,Q n
 |0,P,a,b,c,e=>⟨c,e⟩
 |k+1,P,a,b,c,e=>by
  unfold pM;have d:=wj Q ((b.filter λn=>(P.get (bd n)).isNone).length+1) P (b.filter λn=>(P.get (bd n)).isNone) [] (λx f=>e x (List.mem_filter.1 f).1) sM;have n:bJ P b=dm ((b.filter λn=>(P.get (bd n)).isNone).length+1) P (b.filter λn=>(P.get (bd n)).isNone) []:=rfl;rw[<-n]at d;dsimp only;split
  ·exact⟨c,d.2⟩
  ·exact Jt Q k _ _ _ (rC Q _ _ _ d.1 c) d.2
def PB{c:bK}{X:bh}{l:List ah}(Q:ah->Prop)(P:∀n∈l,Q n)(a:∀n∈X.waits,Q n):(∀n∈(iV c X l).1,Q n)/\∀n∈(iV c X l).2,Q n:=by
 obtain⟨b,d⟩:=wh c.buffer.toNat Q l (fg c X.S []) [] X.waits P sM a;exact Jt Q _ _ _ _ b d
def Cd(c:bK)(X:bh)(x:List ah):(dt c X x).2.waits=X.waits:=by
 unfold dt
 cases X.log with
 |none=>rfl
 |some V=>
  dsimp only;split
  ·rfl
  split<;>rfl
def Ju(ref:Bool)(kind no:Int):Bool:=ref&&kind !=4||(kind==0||kind==2)&&(no==15||no==12)
structure pN (Q:ah->Prop) (c:bK) (X:bh) (ref:Bool) (kind:Int) (r:Int×bh):Prop where
 Yz:∀e∈X.S.l,e∈r.2.S.l
 YT:eZ Q c r.2 (Ju ref kind r.1)
 idle:kind≠0->kind≠2->kind≠4->r.2.S=X.S
 no:kind=0\/kind=2->r.1≠0->r.2.S=X.S
 cr:kind=4->ref=false->r.2.S=X.S
 wait:∀e∈r.2.waits,e.Ok/\Q e
def oh{ref:Bool}{n no:Int}(P:n≠4)(a:ref=true):Ju ref n no=true:=by unfold Ju;rw[a];simp[P]
def pN.still{no:Int}(P:eZ Q c X ref)(b:e≠4)(n:c7.S=X.S)(d:c7.D=X.D)(f:c7.log=X.log)(g:∀a∈c7.waits,a.Ok/\Q a):pN Q c X ref e (no,c7):=
 ⟨λa h=>by rw[n];exact h,P.same n d f (oh b),λ_ _ _=>n,λ_ _=>n,λP=>Zz P b,g⟩
def PD{P:bD}(n:fh P a e=0)(c:P.kind=3)(d:e<=32):P.events.length<=32:=by
 rcases Nat.lt_or_ge 32 P.events.length with b|b
 ·exfalso
  unfold fh at n;rw[Zx c]at n;split at n
  ·cases n
  ·unfold fj at n
   split at n
   ·cases n
   ·rw[Zx (.inr oM)]at n;cases n
 ·exact b
def eZ.call{a:Ub}(b:eZ Q c X ref)(f:∀P∈X.waits,P.Ok/\Q P)(v:X.S.Cl)(w:X.S.n=c.aD.toNat)(B:X.D.Ok)(E:a.cmd.Ok)(F:∀P∈a.m.events,P.Ok/\Q P)(H:a.kind=0->(fP c.decl X.S (bR c.decl X.S.l) e c.start a.cmd).2.1=true->Q (fP c.decl X.S (bR c.decl X.S.l) e c.start a.cmd).1)(I:aK e)(J:aK c.start)(K:X.S.l.length<=20000000)(W:X.waits.length<=256)(L:c.chunk<=32):
  pN Q c X ref a.kind (RE c e X a):=by
 unfold RE;split
 ·rename_i h
  have i:a.kind≠4:=oM
  obtain⟨V,A,no,l,k,d,t,-⟩:=b.log;unfold eO;rw[t];dsimp only;split
  ·exact pN.still b i rfl rfl rfl f
  split
  ·rename_i M
   have N:=NJ (d:=c.decl) (V:=bR c.decl X.S.l) E v.ok I J K;have r:=b.take (x:=[(fP c.decl X.S (bR c.decl X.S.l) e c.start a.cmd).1]) v w B (λP g=>by rw[List.mem_singleton.1 g];exact⟨N,H h M⟩) sM;have o:=Cd c X [(fP c.decl X.S (bR c.decl X.S.l) e c.start a.cmd).1];generalize dt c X [(fP c.decl X.S (bR c.decl X.S.l) e c.start a.cmd).1]=x at r o;rcases r with⟨p,m,q⟩|⟨p,m,q⟩
   ·rw[Zq (by rw[p];simp)]
    exact⟨λP g=>by dsimp only;rw[m];exact aq.vZ _ g,q _,λn=>Zz h n,λ_ n=>Zz rfl n,λn=>Zz n i,by dsimp only;rw[o];exact f⟩
   ·rw[Zx p]
    refine⟨λP g=>by dsimp only;rw[m];exact g,q.same rfl rfl rfl λj=>?_,λn=>Zz h n,λ_ _=>m,λn=>Zz n i,by dsimp only;rw[o];exact f⟩;rcases Bool.or_eq_true .. ▸j with j|j
    ·exact oh i j
    ·unfold Ju;dsimp only;rw[j,h];simp
  ·exact pN.still b i rfl rfl rfl f
 split
 ·rename_i h
  unfold eX;split<;>exact pN.still b oM rfl rfl rfl f
 split
 ·rename_i h
  have i:a.kind≠4:=oM
  obtain⟨V,A,no,l,k,d,t,-⟩:=b.log;unfold cx;rw[t];dsimp only;split
  ·exact pN.still b i rfl rfl rfl f
  rename_i O;split
  ·exact pN.still b i rfl rfl rfl f
  split
  ·rename_i R
   have Y:=PD (Classical.not_not.1 O) R L;unfold lE;obtain⟨C,y⟩:=PB (c:=c) (X:=X) (λP=>P.Ok/\Q P) F f;have S:=Ce c X a.m.events;generalize iV c X a.m.events=s at C y S;dsimp only;split
   ·exact pN.still b i rfl rfl rfl y
   have r:=(b.same (Y:={X with waits:=s.2}) rfl rfl rfl id).take (x:=s.1) v w B C oM;have o:=Cd c {X with waits:=s.2} s.1;generalize dt c {X with waits:=s.2} s.1=x at r o;dsimp only at r o;rcases r with⟨p,m,q⟩|⟨p,m,q⟩
   ·rw[Zq (by rw[p];simp)]
    exact⟨λP g=>by dsimp only;rw[m];exact aq.vZ _ g,q _,λ_ n=>Zz h n,λ_ n=>Zz rfl n,λn=>Zz n i,by dsimp only;rw[o];exact y⟩
   ·rw[Zx p]
    refine⟨λP g=>by dsimp only;rw[m];exact g,q.same (Y:={x.2 with waits:=[]}) (r2:=Ju ref a.kind x.1) rfl rfl rfl λj=>?_,λ_ n=>Zz h n,λ_ _=>m,λn=>Zz n i,sM⟩;rcases Bool.or_eq_true .. ▸j with j|j
    ·exact oh i j
    ·unfold Ju;rw[j,h];simp
  split
  ·exact pN.still b i rfl rfl t.symm f
  split<;>exact pN.still b i rfl rfl t.symm f
 split
 ·exact pN.still b oM rfl rfl rfl f
 split
 ·rename_i h
  obtain⟨u,z,T,U⟩:=b.ej a.n;have P:Ju ref a.kind (gU c X a.n).1=false:=by unfold Ju;rw[h];simp
  refine⟨z,by rw[P];exact U,λ_ _ n=>Zz h n,λn=>oM,λ_ n=>T n,?_⟩;unfold gU fE;dsimp only;split<;>simp
 split
 ·rename_i h
  exact⟨λP g=>g,(b.Gu a.n).same rfl rfl rfl (oh oM),λ_ _ _=>rfl,λ_ _=>rfl,λ_ _=>rfl,f⟩
 split
 ·rename_i h
  obtain⟨u,z⟩:=b.UB v w;refine⟨λP g=>by rw[u];exact g,z.same rfl rfl rfl (oh oM),λ_ _ _=>u,λ_ _=>u,λ_ _=>u,?_⟩;unfold dN
  cases X.log with
  |none=>exact f
  |some V=>
   dsimp only;split<;>exact f
 ·exact⟨λP g=>g,b.same rfl rfl rfl (oh oM),λ_ _ _=>rfl,λ_ _=>rfl,λ_ _=>rfl,f⟩
end
structure yr (c:bK) (X:dw):Prop where
 len:X.aD.length=c.aD.toNat
 cl:∀R∈X.aD,R.S.Cl/\R.S.n=c.aD.toNat/\R.D.Ok/\R.S.l.length<=20000000/\R.waits.length<=256
 evs:∀m∈X.dZ,∀e∈m.events,e.Ok
 chunk:c.chunk<=32
 start:aK c.start
 aD:c.aD<=64
def AY(P:ah->Prop)(c:bK)(a:bh):Prop:=(∃n,eZ P c a n)/\∀b∈a.waits,b.Ok/\P b
def LC(a:Nat->ah->Prop)(b:bK)(c:dw):Prop:=∀n P,c.aD[n]? =some P->AY (a n) b P
section
variable {c:bK} {X:dw} {k j:Nat} {i:Int} {R R':bh} {s:ei} {ms:List bD} {m:bD} {Q:Nat->ah->Prop} {P:ah->Prop} {f:List bD} {now:Int} {n:Int}
def LC.set(d:LC Q c X)(e:AY (Q j) c R'):LC Q c ⟨X.aD.set j R',f,now⟩:=λP a n=>by
 have n:(X.aD.set j R')[P]? =some a:=n
 by_cases b:j=P
 ·subst b
  by_cases g:j<X.aD.length
  ·rw[List.getElem?_set_self g]at n;injection n with n;exact n▸e
  ·rw[Q7 (by rw[List.length_set];omega)]at n;cases n
 ·rw[List.getElem?_set_ne b]at n;exact d P a n
def AY.same(a:AY P c R)(b:R'.S=R.S)(d:R'.D=R.D)(e:R'.log=R.log)(f:R'.waits=R.waits):AY P c R':=by
 obtain⟨⟨n,g⟩,h⟩:=a;exact⟨⟨n,g.same b d e id⟩,by rw[f];exact h⟩
def AY.call(e:AY P c R)(n:yr c X)(f:R∈X.aD)(g:aK i){a:Ub}(h:a.cmd.Ok)(j:∀b∈a.m.events,b.Ok/\P b)(k:a.kind=0->(fP c.decl R.S (bR c.decl R.S.l) i c.start a.cmd).2.1=true->P (fP c.decl R.S (bR c.decl R.S.l) i c.start a.cmd).1):AY P c (RE c i R a).2:=by
 obtain⟨⟨l,m⟩,o⟩:=e;obtain⟨p,q,r,s,t⟩:=n.cl R f;have d:=m.call o p q r h j k g n.start s t n.chunk;exact⟨⟨_,d.YT⟩,d.wait⟩
def IA:Ub:=⟨0,0,0,⟨0,0,0,0,0,0,0⟩,⟨0,0,0,[],[]⟩⟩
def Ak:kv.Ok ⟨0,0,0,0,0,0,0⟩:=by
 have:aK 0:=by unfold aK;omega
 exact⟨this,this,this,this,this,this⟩
def AY.one(n:AY P c R)(b:yr c X)(d:R∈X.aD)(e:aK i)(g:s.Ok)(h:(fP c.decl R.S (bR c.decl R.S.l) i c.start s.cmd).2.1=true->P (fP c.decl R.S (bR c.decl R.S.l) i c.start s.cmd).1):AY P c (iB c i R s).2:=by
 have a:∀f∈([]:List ah),f.Ok/\P f:=λf a=>by cases a
 unfold iB;split
 ·exact n.call b d e (a:=⟨0,0,0,s.cmd,IA.m⟩) g.cmd a λ_=>h
 split
 ·exact n.call b d e (a:=⟨4,s.m,0,IA.cmd,IA.m⟩) Ak a λn=>by cases n
 split
 ·exact n.call b d e (a:=⟨6,0,0,IA.cmd,IA.m⟩) Ak a λn=>by cases n
 split
 ·exact n
 split
 ·exact n
 split
 ·exact n
 ·exact n.call b d e (a:=⟨5,s.m,0,IA.cmd,IA.m⟩) Ak a λn=>by cases n
def ON(c:bK)(i:Int)(R:bh)(n now:Int):(eX c i R n now).2.S=R.S/\(eX c i R n now).2.D=R.D/\(eX c i R n now).2.log=R.log/\(eX c i R n now).2.waits=R.waits:=by
 unfold eX;split<;>exact⟨rfl,rfl,rfl,rfl⟩
def Ls(n:LC Q c X):LC Q c (iN X j):=by
 unfold iN;split
 ·exact n
 ·rename_i R P
  exact n.set ((n j R P).same rfl rfl rfl rfl)
def IB:∀(n:List Nat) {X:dw},LC Q c X->LC Q c (n.foldl iN X)
 |[],_,P=>P
 |j::n,_,P=>IB n (Ls P)
def xj(P:eN a7 n=some m):m∈a7:=by
 unfold eN at P;split at P
 ·exact QZ P
 ·cases P
def Xt(n:yr c X)(P:j<X.aD.length):aK (j:Int):=by
 have:=n.len;have:=n.aD;unfold aK;omega
def IC(n:LC Q c X)(a:yr c X)(h:∀m,h0=some m->m∈X.dZ/\∀i:Nat,m.nk=i->∀P∈m.events,Q i P):LC Q c (gT c ⟨X.aD,f,X.now⟩ h0).2:=by
 unfold gT
 cases h0 with
 |none=>exact n
 |some m=>
  dsimp only;split
  ·exact n
  ·rename_i R b
   obtain⟨j,e,b⟩:=fu b;have d:X.aD[j]? =some R:=b;obtain⟨k,l⟩:=h m rfl;have o:=(n j R d).call a (QZ d) (Xt a (Qv.1 d).1) (a:=⟨2,0,0,IA.cmd,m⟩) Ak (λP g=>⟨a.evs m k P g,l j e P g⟩) λn=>by cases n
   rw[e];exact LC.set (X:=X) n o
def OO(P:LC Q c X)(b:yr c X)(g:s.Ok)(d:(s.kind=3\/s.kind=5)->∀m,eN X.dZ s.n=some m->∀i:Nat,m.nk=i->∀h∈m.events,Q i h)(k:∀(i:Nat) R,s.n=i->X.aD[i]? =some R->(fP c.decl R.S (bR c.decl R.S.l) i c.start s.cmd).2.1=true->Q i (fP c.decl R.S (bR c.decl R.S.l) i c.start s.cmd).1):LC Q c (cA c X s).2:=by
 unfold cA;split
 ·rename_i l
  exact IC P b λm n=>⟨xj n,d (.inl l) m n⟩
 split
 ·rename_i o
  exact IC (f:=X.dZ) P b λm n=>⟨xj n,d (.inr o) m n⟩
 split
 ·exact P
 split
 ·exact IB _ (X:=⟨X.aD,X.dZ,X.now+1⟩) P
 split
 ·exact P
 split
 ·exact P
 ·rename_i R a
  obtain⟨j,e,a⟩:=fu a;have p:=(Qv.1 a).1;have f:=P j R a;rw[e];split
  ·split
   ·exact P
   ·obtain⟨q,r,t,u⟩:=ON c j R s.m X.now
    exact LC.set (X:=X) P (f.same q r t u)
  ·exact LC.set (X:=X) P (f.one b (QZ a) (Xt b p) g (k j R e a))
end
section
variable {w w' w0 w1 w2 wb:World} {p q i k g:Nat} {F F1 F' G G' T D E:UL} {c:bK} {X Y:dw} {s:ei} {x:gF} {v:Value}
def RD(P:Row jh 96 w D d a I):∀n∈I,n.Ok:=λn b=>by
 obtain⟨i,c⟩:=List.mem_iff_getElem?.1 b;obtain⟨f,g,h,-,-,-,-,j,k,l,-,-,e⟩:=P.el i n c;exact e
def bY.facts(P:bY w0 w p F c X)(f:aK c.start):yr c X:=by
 have a:=P.len;obtain⟨r,g,s,b,t,h,u,i,v⟩:=P;refine⟨a.1,λx d=>?_,λy e=>?_,i.Lg.2,f,a.2.2.1⟩
 ·rw[h]at d
  obtain⟨z,j,rfl⟩:=Xk.1 d;obtain⟨A,k⟩:=List.mem_iff_getElem?.1 j;have n:=cR.rep b k;exact⟨n.cl.1,n.cl.2,n.dok,n.len,n.waits⟩
 ·obtain⟨B,C,E,H,D,I,J,l,m,-⟩:=b.Xr
  rw[<-l]at e;obtain⟨o,q,rfl⟩:=Xk.1 e;exact RD (m o q).2
def Ua{Q:Nat->ah->Prop}(P:(tU c).1=0):LC Q c (tU c).2:=λi a b=>by
 have n:=QZ b;have n:a∈List.replicate c.aD.toNat (cB c 0).2:=n;rw[(List.mem_replicate.1 n).2];obtain⟨d,e⟩:=OM (Q:=Q i) (c:=c) (self:=0) P;exact⟨⟨false,d⟩,by rw[e];intro g f;cases f⟩
end
def Bs:jF:=⟨[],[],[],[],[]⟩
def Bt(c:PA b (.cells #[.ii 0,.ii 0,.ii 0,.ii 0,.ii 0,.ii 0,.ii 0,.ii 0,.slice none 0 0,.slice none 0 0] 27) λn=>PA n (.cells #[.ii 1,.ii 1,.bool true,.slice none 0 0] 85) λP=>PA P (.cells #[.slice (some (ab_ n 0)) 1 1] 88) λd=>St 27 (ab_ b 0) (.agg #[.ii 2,.ii 4000,.ii 500,.ii 4,.ii 50,.ii 5,.ii 4,.ii 0,.slice (some (ab_ P 0)) 1 1,.slice none 0 0]) d λa=>(Ld 27 (ab_ b 0) a λe=>rt y e a)):be 13 #[] b y:=DC Bs Tryz.func13 rfl c
def DI:jF:=⟨[],[],[1],[],[]⟩
def DJ{f g h i j k l m o p q r s t u w x z:Int}{A B D C:Nat}(F:PA b (.cells #[.ii f,.ii g,.ii h,.slice d A B,.ii i,.ii j,.ii k,.ii l,.ii m,.ii o] 57) λa=>PA a (.cells #[.ii p,.ii q,.ii r,.slice v D C,.ii s,.ii t,.ii u,.ii w,.ii x,.ii z] 57) λG=>(∀n,bH G n->∃P:UL,(Ld 57 (ab_ b 0) n λH=>(¬P a.heap.size/\(Ld 57 (ab_ a 0) n λI=>PC_ 43 #[H] n (kX_ 106 λJ c=>(aj P n c/\PC_ 43 #[I] c (kX_ 106 λK e=>(aj P c e/\PC_ 44 #[J,K] e (kI_ λL E=>(aj P e E/\rt y ((.bool (decide (L<0)))) E)) (pZ y))) (pZ y))) (pZ y)))))):be 24 #[.agg #[.ii f,.ii g,.ii h,.slice d A B,.ii i,.ii j,.ii k,.ii l,.ii m,.ii o],.agg #[.ii p,.ii q,.ii r,.slice v D C,.ii s,.ii t,.ii u,.ii w,.ii x,.ii z]] b y:=DC DI Tryz.func24 rfl F
def qX:jF:=⟨[(5,[(5,WP 0)]),(9,[(6,WP 0)]),(14,[(7,WP 0)]),(20,[(9,WP 0)]),(25,[(12,.slice none 0 0),(13,WP 0)]),(32,[(14,WP 0)])],[],[11],[],[(22,⟨[0,0,0,0,12,16,32,0,0,384,512,1024,2115,4096,8192,8192,32767,131071],[262143,262143,262143,262143,262131,262127,262111,262143,262143,261759,261631,261119,260028,258047,253951,253951,245759,229375],[0,0,0,0,0,0,1,0,0,0,0,1,2,0,0,0,0,0]⟩),(34,⟨[0,0,3,4,8,0,0,96,128,272,512],[2047,2047,2044,2043,2039,2047,2047,1951,1919,1775,1535],[0,0,0,0,1,0,0,0,1,2,0]⟩)]⟩
def qY(a7:PA b (.cells #[.ii e,.ii p,.ii E,.ii a0,.ii c8,.ii c9,.ii e3,.ii e4,.slice d a c,.slice v i r,.slice d8 F b6] 30) λb2=>(Ld 30 (ab_ b 0) b2 λd5=>PC_ 4 #[d5] b2 (λd6 b3=>∃x b4,d6= .tuple #[.pointer x,.bool b4]/\al (!b4) (PC_ 5 #[] b3 (kB λd7 a8=>rt y ((.bool d7)) a8) (pE y)) ((∃K:Nat->Int->ba,(∃z,K z 0 b3)/\∀(z:Nat) (o:Int) (j1:Nat->Value) (s:World),K z o s->(rS s (ab_ b (0+10)) λj2 d9 j3=>al (decide (o<(d9:Int))) ((rS s (ab_ b (0+10)) λe0 e1 j4=>(ix_ e0 o e1 λe2 a9=>(Ld 49 (ad e2 (a9+Int.toNat o*10)) s λb0=>PC_ 6 #[.pointer x,b0] s (kX_ 44 λj5 e5=>(∃W:Nat->Int->ba,(∃L,W L 0 e5)/\∀(L:Nat) (M:Int) (j6:Nat->Value) (A:World),W L M A->(rI A (ab_ b 0) λe6=>al (decide (M<e6)) (al (((Int.tmod o 20):Int)==0) ((∀N,bH A N->∃X:UL,(¬X b.heap.size/\(rI N (ab_ b 0) λe7=>PC_ 8 #[.pointer x,.ii M] N (kS_ λe8 e9 f0 Y=>(aj X N Y/\PC_ 7 #[.slice e8 e9 f0,.ii e7] Y (kB λf1 Z=>(aj X Y Z/\al (!f1) (rt y ((.bool false)) Z) ((∃b5,b5<L/\W b5 (PP .i64 (M+1)) Z)))) (pZ y))) (pZ y))))) ((∃B,B<z/\K B (PP .i64 (o+1)) A))) ((∃B,B<z/\K B (PP .i64 (o+1)) A))))) (pE y))))) ((∃D:Nat->Int->ba,(∃C,D C 0 s)/\∀(C:Nat) (t:Int) (j7:Nat->Value) (O:World),D C t O->(rI O (ab_ b 0) λf2=>al (decide (t<f2)) (PC_ 8 #[.pointer x,.ii t] O (kS_ λl g f3 a4=>(rI a4 (ab_ b 0) λf4=>PC_ 7 #[.slice l g f3,.ii f4] a4 (kB λf5 b7=>al (!f5) (rt y ((.bool false)) b7) ((∃a1:Nat->Int->ba,(∃Q,a1 Q 0 b7)/\∀(Q:Nat) (f:Int) (j8:Nat->Value) (G:World),a1 Q f G->al (decide (f<(g:Int))) (al (decide (f<12)) ((∀R,bH G R->(ix_ l f g λf6 f7=>(rI R (ad f6 (f7+Int.toNat f*10+4)) λf8=>(ix_ l f g λf9 g0=>(rI R (ad f9 (g0+Int.toNat f*10+5)) λg1=>PC_ 9 #[.pointer x,.ii t,.ii f8,.ii g1] R (λg2 g3=>∃b8 S g4 b9,g2= .tuple #[.slice b8 S g4,.bool b9]/\(∃H:Nat->bc->Nat->Nat->Int->ba,(∃u,H u none 0 0 0 g3)/\∀(u:Nat) (I:bc) (w:Nat) (T:Nat) (n:Int) (j9:Nat->Value) (h:World),H u I w T n h->al (decide (n<(g:Int))) ((ix_ l n g λg5 g6=>(rI h (ad g5 (g6+Int.toNat n*10+4)) λg7=>(ix_ l f g λg8 g9=>(rI h (ad g8 (g9+Int.toNat f*10+4)) λh0=>al (g7==h0) ((ix_ l n g λh1 h2=>(rI h (ad h1 (h2+Int.toNat n*10+5)) λh3=>(ix_ l f g λh4 h5=>(rI h (ad h4 (h5+Int.toNat f*10+5)) λh6=>(∀P,bH h P->al (h3==h6) ((ix_ l n g λj k=>(∃c0 c1 c2 c3 c4 c5 c6 c7 a5 a6 d0 d1,P.cell? (ad j (k+Int.toNat n*10))=some (.ii c0)/\P.cell? (ad j (k+Int.toNat n*10+1))=some (.ii c1)/\P.cell? (ad j (k+Int.toNat n*10+2))=some (.ii c2)/\P.cell? (ad j (k+Int.toNat n*10+3))=some (.slice c3 c4 c5)/\P.cell? (ad j (k+Int.toNat n*10+4))=some (.ii c6)/\P.cell? (ad j (k+Int.toNat n*10+5))=some (.ii c7)/\P.cell? (ad j (k+Int.toNat n*10+6))=some (.ii a5)/\P.cell? (ad j (k+Int.toNat n*10+7))=some (.ii a6)/\P.cell? (ad j (k+Int.toNat n*10+8))=some (.ii d0)/\P.cell? (ad j (k+Int.toNat n*10+9))=some (.ii d1)/\PA P (.cells #[.ii c0,.ii c1,.ii c2,.slice c3 c4 c5,.ii c6,.ii c7,.ii a5,.ii a6,.ii d0,.ii d1] 57) λh7=>PR_ (ap_ 51 (.slice I w T) (.slice (some (ab_ P 0)) 1 1)) h7 (kS_ λh8 h9 i0 i1=>(∃m,m<u/\H m h8 h9 i0 (PP .i64 (n+1)) i1)) (pV y)))) ((∃m,m<u/\H m I w T (PP .i64 (n+1)) P)))))))) ((∀P,bH h P->(∃m,m<u/\H m I w T (PP .i64 (n+1)) P)))))))) (al (!b9) (rt y ((.bool false)) h) (al ((S:Int) !=(w:Int)) (rt y ((.bool false)) h) ((∃a2:Nat->Int->ba,(∃U,a2 U 0 h)/\∀(U:Nat) (q:Int) (k1:Nat->Value) (a3:World),a2 U q a3->al (decide (q<(S:Int))) ((∀V,bH a3 V->(ix_ b8 q S λi2 i3=>(Ld 57 (ad i2 (i3+Int.toNat q*13)) V λi4=>(ix_ I q w λi5 i6=>(Ld 57 (ad i5 (i6+Int.toNat q*10)) V λi7=>PC_ 10 #[i4,i7] V (kB λi8 d2=>al (!i8) (rt y ((.bool false)) d2) ((∃d3,d3<U/\a2 d3 (PP .i64 (q+1)) d2))) (pZ y))))))) ((∃d4,d4<Q/\a1 d4 (PP .i64 (f+1)) a3)))))))) (pZ y))))))) ((∃J,J<C/\D J (PP .i64 (t+1)) G))) ((∃J,J<C/\D J (PP .i64 (t+1)) G))))) (pE y))) (pE y)) (PC_ 5 #[] O (kB λi9 j0=>rt y ((.bool i9)) j0) (pE y))))))))) (pE y))):be 3 #[.agg #[.ii e,.ii p,.ii E,.ii a0,.ii c8,.ii c9,.ii e3,.ii e4,.slice d a c,.slice v i r,.slice d8 F b6]] b y:=DC qX Tryz.func3 rfl a7
def GN:jF:=⟨[],[],[],[],[]⟩
def GO(m:PA b (.cells #[.ii e,.ii p,.ii E,.ii a0,.ii c8,.ii c9,.ii e3,.ii e4,.slice d a c,.slice v i r,.slice d8 F b6] 30) λh=>(Ld 30 (ab_ b 0) h λo=>PC_ 11 #[o] h (kB λq g=>al q (rt y ((.tuple #[.pointer none,.bool false])) g) ((Ld 27 (ab_ b 0) g λD=>PC_ 12 #[D] g (λs P=>∃f j,s= .tuple #[.pointer f,.ii j]/\al (j==0) ((∃k,(∀l,(eq_ .neq 31 (.tmp 18) (.const (.pointer none)) (.pointer f) (.pointer none)).run LL (P.drewN l)= .ok (.bool k) (P.drewN l))/\al k ((rI P (ab_ b 0) λt=>al (decide (t>=1)) ((rI P (ab_ b 0) λG=>(∀n,bH P n->rt y ((.tuple #[.pointer f,.bool (decide (G<=64))])) n))) ((∀n,bH P n->rt y ((.tuple #[.pointer f,.bool false])) n)))) ((∀n,bH P n->rt y ((.tuple #[.pointer f,.bool false])) n)))) ((∀n,bH P n->rt y ((.tuple #[.pointer f,.bool false])) n))) (pE y)))) (pE y))):be 4 #[.agg #[.ii e,.ii p,.ii E,.ii a0,.ii c8,.ii c9,.ii e3,.ii e4,.slice d a c,.slice v i r,.slice d8 F b6]] b y:=DC GN Tryz.func4 rfl m
def IP:jF:=⟨[],[],[],[],[]⟩
def IQ{e f g h i j k l m:Int}(p:PA b (.cells #[.ii e,.ii f,.ii g,.slice d a c,.ii h,.ii i,.ii j,.ii k,.ii l,.ii m] 57) λP=>PA P (.cells #[.ii 0,.ii 0,.ii 0] 106) λn=>(rI n (ab_ b (0+2)) λq=>(rI n (ab_ b 0) λr=>(rI n (ab_ b (0+1)) λs=>St 106 (ab_ P 0) (.agg #[.ii q,.ii r,.ii s]) n λo=>(Ld 106 (ab_ P 0) o λt=>rt y t o))))):be 43 #[.agg #[.ii e,.ii f,.ii g,.slice d a c,.ii h,.ii i,.ii j,.ii k,.ii l,.ii m]] b y:=DC IP Tryz.func43 rfl p
def oV:jF:=⟨[],[],[1],[],[(1,⟨[0,1,0,4,10,0,32,0,128,336,0,1024,0,4096,10752,16912,49152,131071],[262143,262142,262143,262139,262133,262143,262111,262143,262015,261823,262143,261119,262143,258047,251903,245231,229375,196607],[0,1,0,1,2,0,1,0,1,2,0,1,0,1,2,2,2,0]⟩)]⟩
def oW(w:PA b (.cells #[.ii e,.ii p,.ii E] 106) λa=>PA a (.cells #[.ii a0,.ii c8,.ii c9] 106) λx=>(∀n,bH x n->∃P:UL,(∃l m,((some (ab_ b 0)):bc)=some ⟨l,m,none⟩/\(0:Int)<=0/\0<(3:Int)/\(rI n (ad l (m+Int.toNat 0)) λD=>(∃o q,((some (ab_ a 0)):bc)=some ⟨o,q,none⟩/\(0:Int)<=0/\0<(3:Int)/\(rI n (ad o (q+Int.toNat 0)) λz=>(∃d r,((some (ab_ b 0)):bc)=some ⟨d,r,none⟩/\(0:Int)<=1/\1<(3:Int)/\(¬P d/\(rI n (ad d (r+Int.toNat 1)) λA=>(∃f s,((some (ab_ a 0)):bc)=some ⟨f,s,none⟩/\(0:Int)<=1/\1<(3:Int)/\(¬P f/\(rI n (ad f (s+Int.toNat 1)) λG=>(∃g t,((some (ab_ b 0)):bc)=some ⟨g,t,none⟩/\(0:Int)<=2/\2<(3:Int)/\(¬P g/\(rI n (ad g (t+Int.toNat 2)) λB=>(∃h u,((some (ab_ a 0)):bc)=some ⟨h,u,none⟩/\(0:Int)<=2/\2<(3:Int)/\(¬P h/\(rI n (ad h (u+Int.toNat 2)) λC=>PC_ 73 #[.ii D,.ii z] n (kI_ λF i=>(aj P n i/\PC_ 73 #[.ii A,.ii G] i (kI_ λH j=>(aj P i j/\PC_ 73 #[.ii B,.ii C] j (kI_ λI c=>(aj P j c/\PA c (.cells #[.ii F,.ii H,.ii I] 3) λk=>(aj P c k/\PC_ 72 #[.slice (some (ab_ c 0)) 3 3] k (kI_ λJ v=>(aj P k v/\rt y ((.ii J)) v)) (pZ y)))) (pZ y))) (pZ y))) (pZ y))))))))))))))))))):be 44 #[.agg #[.ii e,.ii p,.ii E],.agg #[.ii a0,.ii c8,.ii c9]] b y:=DC oV Tryz.func44 rfl w
def IS:jF:=⟨[],[],[],[],[]⟩
def IT(l:PC_ 13 #[] b (kX_ 27 λm o=>PC_ 12 #[m] o (λp f=>∃P g,p= .tuple #[.pointer P,.ii g]/\al (g !=0) (rt y ((.bool false)) f) (PR_ (eq_ .eql 31 (.tmp 14) (.const (.pointer none)) (.pointer P) (.pointer none)) f (kB λq h=>al q (rt y ((.bool false)) h) (PC_ 6 #[.pointer P,.agg #[.ii 1,.ii 0,.ii 0,.ii 0,.ii 0,.ii 0,.ii 1,.ii 3,.ii (-1),.ii 4]] h (kX_ 44 λr a=>PA a (.cells #[.ii 0,.ii 0,.ii 0,.ii 0,.slice none 0 0,.slice none 0 0,.slice none 0 0,.bool false] 44) λs=>St 44 (ab_ a 0) r s λt=>PC_ 6 #[.pointer P,.agg #[.ii 1,.ii 0,.ii 0,.ii 0,.ii 0,.ii 0,.ii 1,.ii (-4),.ii (-1),.ii 0]] t (kX_ 44 λu e=>PA e (.cells #[.ii 0,.ii 0,.ii 0,.ii 0,.slice none 0 0,.slice none 0 0,.slice none 0 0,.bool false] 44) λv=>St 44 (ab_ e 0) u v λw=>PC_ 6 #[.pointer P,.agg #[.ii 2,.ii 1,.ii 0,.ii 0,.ii 0,.ii 0,.ii 0,.ii 0,.ii 0,.ii 0]] w (kX_ 44 λU x=>PC_ 6 #[.pointer P,.agg #[.ii 3,.ii 0,.ii 0,.ii 0,.ii 0,.ii 0,.ii 0,.ii 0,.ii 0,.ii 0]] x (kX_ 44 λV z=>PC_ 6 #[.pointer P,.agg #[.ii 3,.ii 0,.ii 0,.ii 0,.ii 0,.ii 0,.ii 0,.ii 0,.ii 0,.ii 0]] z (kX_ 44 λW A=>PC_ 6 #[.pointer P,.agg #[.ii 10,.ii 1,.ii 0,.ii 0,.ii 0,.ii 0,.ii 0,.ii 0,.ii 0,.ii 0]] A (kX_ 44 λB c=>PA c (.cells #[.ii 0,.ii 0,.ii 0,.ii 0,.slice none 0 0,.slice none 0 0,.slice none 0 0,.bool false] 44) λC=>St 44 (ab_ c 0) B C λd=>(rI d (ab_ a 0) λD=>al (D==0) ((∃i j,d.cell? (ab_ a (0+1))=some (.ii i)/\d.cell? (ab_ a (0+1+1))=some (.ii j)/\PR_ (eq_ .eql 37 (.tmp 42) (.tmp 43) (.agg #[.ii i,.ii j]) (.agg #[.ii 0,.ii 1])) d (kB λE n=>al E ((rI n (ab_ e 0) λF=>al (F==10) ((rI n (ab_ c 0) λG=>al (G==0) ((rS n (ab_ c (0+3+1)) λX H Y=>al ((H:Int)==1) ((rS n (ab_ c (0+3+1)) λI J Z=>(ix_ I 0 J λK L=>(rI n (ad K (L+Int.toNat 0*2)) λM=>al (M==3) (PC_ 15 #[.pointer P,.ii 1] n (kS_ λN O Q k=>PA k (.cells #[.ii 1,.ii 0] 3) λR=>PC_ 14 #[.slice N O Q,.slice (some (ab_ k 0)) 2 2] R (kB λS T=>rt y ((.bool S)) T) (pE y)) (pE y)) (rt y ((.bool false)) n))))) (rt y ((.bool false)) n))) (rt y ((.bool false)) n))) (rt y ((.bool false)) n))) (rt y ((.bool false)) n)) (pV y))) (rt y ((.bool false)) d))) (pE y)) (pE y)) (pE y)) (pE y)) (pE y)) (pE y))) (pV y))) (pE y)) (pE y)):be 5 #[] b y:=DC IS Tryz.func5 rfl l
def Bw:jF:=⟨[(3,[(6,WP 0)]),(9,[(8,WP 0)])],[(8,[])],[],[],[(6,⟨[0,1,2,4,8,16,48,80,16,400,528,1040,2048,6144,10240,2048,51200,67584,133120,262144,786432,1310720,2097152,2097152,10485760,23068672,35651584,2097152,203423744,270532608,539230208,1074003968],[4294967295,4294967294,4294967293,4294967291,4294967287,4294967279,4294967247,4294967215,4294967279,4294966895,4294966767,4294966271,4294965247,4294961151,4294957055,4294965247,4294916095,4294899711,4294836223,4294705151,4294180863,4293656575,4292870143,4292870143,4284481535,4271898623,4259315711,4292870143,4091543551,4024434687,3755737087,3220963327],[0,0,1,0,0,0,0,1,0,0,0,0,0,1,0,0,0,0,0,0,0,0,0,0,0,0,1,1,2,0,0,0]⟩),(13,⟨[0,0,2,4,0,0,32,64,144,256,512,2047,4095],[8191,8191,8189,8187,8191,8191,8159,8127,8047,7935,7679,8182,5119],[0,0,0,1,0,0,0,1,0,1,0,0,2]⟩)]⟩
def By(C:PR_ (Instr.makeSlice 55 (.ii e) (.ii e)) b (kS_ λj k b0 D=>(∃p:Nat->Int->ba,(∃l,p l 0 D)/\∀(l:Nat) (f:Int) (b1:Nat->Value) (n:World),p l f n->al (decide (f<(a:Int))) ((ix_ d f a λE F=>(Ld 57 (ad E (F+Int.toNat f*10)) n λG=>PA n (.cells #[.ii 0,.ii 0,.ii 0,.slice none 0 0,.ii 0,.ii 0,.ii 0,.ii 0,.ii 0,.ii 0] 57) λH=>St 57 (ab_ n 0) G H λI=>(∃q:ba,((∀P,bH I P->(rI P (ab_ n 0) λJ=>al (decide (J<0)) (rt y ((.bool false)) P) ((rI P (ab_ n 0) λK=>al (decide (K>=e)) (rt y ((.bool false)) P) ((rS P (ab_ n (0+3)) λb2 L b3=>al ((L:Int) !=e) (rt y ((.bool false)) P) (al (decide (f>0)) ((dr d λM N=>(0:Int)<=(PP .i64 (f-1))/\(PP .i64 (f-1))<(a:Int)/\(Ld 57 (ad M (N+Int.toNat (PP .i64 (f-1))*10)) P λO=>(Ld 57 (ab_ n 0) P λQ=>PC_ 24 #[O,Q] P (kB λR u=>al (!R) (rt y ((.bool false)) u) (q u)) (pZ y))))) (q P)))))))))/\∀(b4:Nat->Value) (v:World),q v->(∃r:Nat->Int->ba,(∃m,r m 0 v)/\∀(m:Nat) (g:Int) (b5:Nat->Value) (h:World),r m g h->al (decide (g<e)) ((rS h (ab_ n (0+3)) λS T b6=>(ix_ S g T λU V=>(rI h (ad U (V+Int.toNat g)) λW=>(ix_ j g k λX Y=>(rI h (ad X (Y+Int.toNat g)) λZ=>(∀s,bH h s->al (decide (W>Z)) (rt y ((.bool false)) s) ((∃w,w<m/\r w (PP .i64 (g+1)) s))))))))) ((∀i,bH h i->(rI i (ab_ n 0) λx=>(rI i (ab_ n 0) λz=>(ix_ j z k λa1 a2=>(rI i (ad a1 (a2+Int.toNat z)) λa3=>(ix_ j x k λa4 a5=>PS i (ad a4 (a5+Int.toNat x)) (.ii (PP .i64 (a3+1))) λo=>(rI o (ab_ n (0+1)) λa6=>(rI o (ab_ n 0) λA=>(ix_ j A k λa7 a8=>(rI o (ad a7 (a8+Int.toNat A)) λa9=>(∀t,bH o t->al (a6 !=a9) (rt y ((.bool false)) t) ((∃B,B<l/\p B (PP .i64 (f+1)) t))))))))))))))))))) (rt y ((.bool true)) n))) (pV y)):be 7 #[.slice d a c,.ii e] b y:=DC Bw Tryz.func7 rfl C
def Bz:jF:=⟨[(3,[(10,.slice none 0 0),(11,WP 0)])],[(8,[])],[],[],[]⟩
def BA(t:(∃h:Nat->bc->Nat->Nat->Int->ba,(∃g,h g none 0 0 0 b)/\∀(g:Nat) (c:bc) (a:Nat) (f:Nat) (i:Int) (F:Nat->Value) (j:World),h g c a f i j->al (decide (i<100)) (PC_ 6 #[.pointer d,.agg #[.ii 9,.ii e,.ii (a:Int),.ii p,.ii E,.ii 0,.ii 0,.ii 0,.ii 0,.ii 0]] j (kX_ 44 λu n=>PA n (.cells #[.ii 0,.ii 0,.ii 0,.ii 0,.slice none 0 0,.slice none 0 0,.slice none 0 0,.bool false] 44) λv=>St 44 (ab_ n 0) u v λP=>(∃k:ba,((rI P (ab_ n 0) λw=>al (w !=0) (rt y ((.tuple #[.slice c a f,.bool false])) P) ((rB P (ab_ n (0+7)) λx=>al x ((rS P (ab_ n (0+5)) λG z H=>al ((z:Int)==0) (rt y ((.tuple #[.slice c a f,.bool false])) P) (k P))) (k P)))))/\∀(I:Nat->Value) (l:World),k l->(rS l (ab_ n (0+5)) λA B D=>PR_ (ap_ 41 (.slice c a f) (.slice A B D)) l (kS_ λo q r m=>(rB m (ab_ n (0+7)) λC=>al (!C) (rt y ((.tuple #[.slice o q r,.bool true])) m) ((∃s,s<g/\h s o q r (PP .i64 (i+1)) m)))) (pV y)))) (pE y)) (rt y ((.tuple #[.slice c a f,.bool false])) j))):be 9 #[.pointer d,.ii e,.ii p,.ii E] b y:=DC Bz Tryz.func9 rfl t
section
variable {c:bK} {X:dw} {k j:Nat} {i:Int} {R R':bh} {s:ei} {ms:List bD} {m:bD}
def BR{n ms:List bD}(P:m∈Eo n ms):m∈n\/m∈ms:=(Q6.1 P).imp id List.mem_of_mem_take
def Ji(n:m∈gG a7 e):m∈a7:=by
 unfold gG at n;split at n
 ·exact(List.eraseIdx_sublist ..).subset n
 ·exact n
end
def sX:bK:=⟨2,4000,500,4,50,5,4,0,⟨[[⟨1,1,true,[]⟩]],[]⟩⟩
def VF:Bool:=
 let n:=sX
 let P:=cA n (tU n).2 ⟨1,0,0,⟨0,0,0,1,3,-1,4⟩⟩
 let b:=cA n P.2 ⟨1,0,0,⟨0,0,0,1,-4,-1,0⟩⟩
 let c:=cA n b.2 ⟨2,1,0,xR⟩
 let d:=cA n c.2 ⟨3,0,0,xR⟩
 let e:=cA n d.2 ⟨3,0,0,xR⟩
 let a:=cA n e.2 ⟨10,1,0,xR⟩
 (tU n).1==0&&(P.1.code==0&&(P.1.id.1==(0:Int)&&(P.1.id.2==(1:Int)&&(b.1.code==10&&(a.1.code==0&&(a.1.st.cells.length==1&&((a.1.st.cells.getD 0 ⟨0,[]⟩).n==3&&(a.2.aD[1]?).map (λf=>f.S.vec)==some [1,0])))))))
def Pm:VF=true:=by decide+kernel
def Mk:∃(c:dw) (n a d e f P:gF×dw),tU sX=(0,c)/\cA sX c ⟨1,0,0,⟨0,0,0,1,3,-1,4⟩⟩=n/\cA sX n.2 ⟨1,0,0,⟨0,0,0,1,-4,-1,0⟩⟩=a/\cA sX a.2 ⟨2,1,0,xR⟩=d/\cA sX d.2 ⟨3,0,0,xR⟩=e/\cA sX e.2 ⟨3,0,0,xR⟩=f/\cA sX f.2 ⟨10,1,0,xR⟩=P/\
  n.1.code=0/\n.1.id.1=0/\n.1.id.2=1/\a.1.code=10/\P.1.code=0/\P.1.st.cells.length=1/\(P.1.st.cells.getD 0 ⟨0,[]⟩).n=3/\(P.2.aD[1]?).map (λg=>g.S.vec)=some [1,0]:=by
 have b:=Pm;unfold VF at b;simp only[QK,beq_iff_eq]at b;obtain⟨h,i⟩:=b;exact⟨_,_,_,_,_,_,_,Prod.ext h rfl,rfl,rfl,rfl,rfl,rfl,rfl,i⟩
section
variable {c:bK} {X Y Z:dw} {k j:Nat} {i:Int} {R R':bh} {s:ei} {ms:List bD} {m z:bD} {f:List bD} {now:Int} {n:Int} {e:ah}
def eZ.Wt{n P:ah->Prop}(a:eZ n c R J)(b:∀e,n e->P e):eZ P c R J:=by
 obtain⟨d,f,no,g,k,h,i,j,l,m,o,p,q,r⟩:=a.log;exact⟨d,f,no,g,k,h,i,j,l,m,o,p,q,λe s=>b e (r e s)⟩
def LC.Wt{P a:Nat->ah->Prop}(g:LC P c X)(b:∀i e,P i e->a i e):LC a c X:=λi R h=>by
 obtain⟨⟨n,j⟩,d⟩:=g i R h;exact⟨⟨n,j.Wt (b i)⟩,λe f=>⟨(d e f).1,b i e (d e f).2⟩⟩
def Wu(X:dw)(m:bD):Prop:=∀e∈m.events,∃(i:Nat) (R:bh),X.aD[i]? =some R/\e∈R.S.l
def yE{P:List Int}{n:Int}(a:e∈B.missing P n):e∈B.l:=(List.mem_filter.1 (List.mem_of_mem_take a)).1
def Hb(n:z∈(cx c i R m).1):∀e∈z.events,e∈R.S.l:=by
 have P:∀(h j k:Int) (l:List Int) (o:aq),z=(⟨h,j,k,l,[]⟩:bD)->∀e∈z.events,e∈o.l:=λh j k l o q e a=>by rw[q]at a;cases a
 unfold cx at n
 cases p:R.log with
 |none=>rw[p]at n;simp at n
 |some v=>
  rw[p]at n;dsimp only at n;split at n
  ·simp at n
  split at n
  ·simp at n
  split at n
  ·unfold lE at n
   dsimp only at n;split at n
   ·exact P _ _ _ _ _ (List.mem_singleton.1 n)
   ·split at n
    ·simp at n
    ·exact P _ _ _ _ _ (List.mem_singleton.1 n)
  split at n
  ·unfold k_ at n
   split at n
   ·simp at n
   have b:∀(d:Prop) [Decidable d] (f:bD),z∈(if d then [f]else [])->z=f:=λd _ f g=>by
    split at g
    ·exact List.mem_singleton.1 g
    ·simp at g
   dsimp only at n;generalize r:(if 0<(R.S.missing m.vec (max 1 (min c.chunk 32))).length then [(⟨3,i,m.bM,[],R.S.missing m.vec (max 1 (min c.chunk 32))⟩:bD)]else [])=s at n;generalize t:(if m.kind=1/\(lD m.vec R.S.vec=2\/lD m.vec R.S.vec=3)then [(⟨2,i,m.bM,R.S.vec,[]⟩:bD)]else [])=u at n
   by_cases a:(s++u).isEmpty=true
   ·rw[Zx a]at n
    exact P _ _ _ _ _ (List.mem_singleton.1 n)
   ·rw[Zq a]at n
    rcases Q6.1 n with n|n
    ·rw[<-r]at n;rw[b _ _ n];exact λe a=>yE a
    ·rw[<-t]at n;exact P _ _ _ _ _ (b _ _ n)
  split at n
  ·simp at n
  ·rw[List.mem_singleton.1 n];exact λe a=>yE a
def BV(n:m∈(gT c X h0).2.dZ):m∈X.dZ\/Wu X m:=by
 unfold gT at n
 cases h0 with
 |none=>exact .inl n
 |some b=>
  dsimp only at n;split at n
  ·exact .inl n
  ·rename_i R P
   obtain⟨j,d,P⟩:=fu P;rcases BR n with h|h
   ·exact .inl h
   ·exact .inr λe a=>⟨j,R,P,Hb h e a⟩
def Hc(n:m∈(iN X j).dZ):m∈X.dZ\/m.events=[]:=by
 unfold iN at n;split at n
 ·exact .inl n
 ·rcases BR n with h|h
  ·exact .inl h
  ·obtain⟨P,-,rfl⟩:=Xk.1 h
   exact .inr rfl
def BW:∀(n:List Nat) {X:dw},m∈(n.foldl iN X).dZ->m∈X.dZ\/m.events=[]
 |[],X,P=>.inl P
 |j::n,X,P=>(BW n P).elim Hc .inr
def Ml(n:m∈(cA c X s).2.dZ):m∈X.dZ\/Wu X m:=by
 have P:∀{m:bD},m.events=[]->Wu X m:=λh e a=>by rw[h]at a;cases a
 unfold cA at n;split at n
 ·exact(BV n).imp Ji id
 split at n
 ·exact BV n
 split at n
 ·exact .inl (Ji n)
 split at n
 ·exact(BW _ n).imp id P
 split at n
 ·exact .inl n
 split at n
 ·exact .inl n
 ·rename_i R b
  split at n
  ·split at n
   ·exact .inl n
   ·rcases BR n with h|h
    ·exact .inl h
    ·unfold eX at h
     split at h
     ·simp at h
     ·exact .inr (P (by rw[List.mem_singleton.1 h];rfl))
  ·exact .inl n
end
def Mm{n b:aq}(d:n.Cl)(e:b.Cl)(f:∀P∈n.l,P∈b.l)(g:a<n.n):n.sA a<=b.sA a:=by
 rcases Nat.eq_zero_or_pos (n.sA a)with F|F
 ·omega
 ·obtain⟨P,h,i⟩:=d.has a (n.sA a) g oM oM
  have j:=e.le P (f P h);have c:P.origin=a/\P.seq=n.sA a:=by simpa[bd]using i
  rw[c.1,c.2,Qx]at j;omega
def Jl(n:aq)(P:Nat):fq n.vec P=if P<n.n then(n.sA P:Int)else 0:=by
 split
 ·rename_i a
  rw[Hd (x:=(n.sA P:Int)) oM (by rw[Qx];exact n.lg a)];omega
 ·exact BX (by rw[aq.bI];omega)
def aq.Cl.nxt(a:B.Cl){k:Nat}(b:k<B.l.length):aq.add ⟨B.n,B.l.take k⟩ B.l[k]=(0,⟨B.n,B.l.take (k+1)⟩):=by
 have c:=(a.take (k:=k) oM).1;have n:=(a.take (k:=k+1) oM).1;rw[Qw,Qq b,Option.toList_some,aq.nB,c]at n;rcases aq.eU ⟨B.n,B.l.take k⟩ B.l[k]with⟨-,P⟩|⟨P,-⟩
 ·rw[P]at n
  have:=Zj (λd:aq=>d.l.length) n;simp at this;omega
 ·rw[P]at n
  simp only at n;rw[P,n,Qw,Qq b,Option.toList_some]
structure Wv (S:aq) (k:Nat) (e:ah):Prop where
 org:∃o:Nat,e.origin=(o:Int)/\o<S.n/\e.seq=(aq.sA ⟨S.n,S.l.take k⟩ o:Int)+1
 aM:e.aM.length=S.n
 lW:∀o:Nat,fq e.aM o<=fq (aq.vec ⟨S.n,S.l.take k⟩) o
 next:aq.vec ⟨S.n,S.l.take (k+1)⟩=(aq.vec ⟨S.n,S.l.take k⟩).set e.origin.toNat e.seq
def aq.Cl.Ww(b:B.Cl){k:Nat}(h:B.l[k]? =some l):Wv B k l:=by
 obtain⟨i,rfl⟩:=Qv.1 h;have c:=b.nxt i;have q:=(b.take (k:=k) oM).2;have j:=XY i;generalize B.l[k]=l at c j h;rcases aq.eU ⟨B.n,B.l.take k⟩ l with⟨d,-⟩|⟨r,d,C,s,t⟩
 ·rw[c]at d;exact Zz rfl d
 obtain⟨E,F,H,I,J,K,u,L,M,-⟩:=lr (b.ok.Xp l j);obtain⟨P,a⟩:∃P:Nat,l.origin=P:=⟨l.origin.toNat,oM⟩
 have m:P<B.n:=oM
 have v:B.l.take (k+1)=dz l (B.l.take k):=Zj (λw:Int×aq=>w.2.l) (c.symm.trans r);have o:l.seq=(aq.sA ⟨B.n,B.l.take k⟩ P:Int)+1:=by rw[s,a,Qx,aq.qF (S:=⟨B.n,B.l.take k⟩) m]
 refine⟨⟨P,a,m,o⟩,u,λn=>?_,?_⟩
 ·rw[Jl]
  by_cases e:n<B.n
  ·rw[Zx (show n<(⟨B.n,B.l.take k⟩:aq).n from e)]
   have x:fq l.aM n=max (l.aM.getD n 0) 0:=by
    unfold fq;rw[Zq oM,Qx]
   rcases u_.1 (t n e)with f|⟨g,f,-⟩
   ·rw[x,f];omega
   ·obtain⟨y,z⟩:=aq.get_some f
    have A:=q.le g y;have p:g.origin=n/\g.seq=l.aM.getD n 0:=by simpa[bd]using z
    rw[p.1,p.2,Qx]at A;omega
  ·rw[Zq (show¬n<(⟨B.n,B.l.take k⟩:aq).n from e),BX oM]
   exact Int.le_refl _
 ·rw[v,aq.NH ⟨B.n,B.l.take k⟩ l a,a,Qx,o]
end Go.Proofs.YtkpomgifkloklabGreatDoor
namespace Go.aw
open Go Go.WideShapes
variable{J:Bool}{g2:List MemPlace}{a:Nat}{h:Program}{L j:Type}{g:TypeId}{w:Value}{b:World}
def Sh{n:TypeId×Value->j}{f:Reach}{d:DataW j}{e:kq L}{i:Array Field}(k:h.underlying g=some (.struct i))(l:Reads h e g)(m:Value.okWide h b f a g w)(o:DataW.Trod n h b 0 (λ_=>true) J g w d g2)(p:mC h g d):∃c cs,w= .agg cs/\e.rep b (In b) c cs.toList:=by
 obtain⟨cs,rfl,-⟩:=okWide_struct k m;obtain⟨P,q⟩:=o;obtain⟨c,r⟩:=l j n b J P cs.toList _ q p;exact⟨c,cs,rfl,r⟩
end Go.aw
namespace Go.Proofs.YtkpomgifkloklabGreatDoor
section
open Go.aw
structure XN (c:bK):Prop where
 aD:aK c.aD
 uI:aK c.uI
 bj:aK c.bj
 chunk:aK c.chunk
 buffer:aK c.buffer
 de:aK c.de
 every:aK c.every
 start:aK c.start
def XO:kq aR where
 k:=2
 rep:=λh D i cs=>∃n tn b P a c,cs=[.slice n tn b,.slice P a c]/\bt h D i n tn P a
 keep:=λ⟨n,tn,b,P,a,c,d,e⟩ j f=>⟨n,tn,b,P,a,c,d,e.keep j f⟩
 mono:=λ⟨n,tn,b,P,a,c,d,e⟩ f=>⟨n,tn,b,P,a,c,d,e.mono f⟩
 len:=λ⟨n,tn,b,P,a,c,d,_⟩=>by rw[d];rfl
 one:=λ⟨n,tn,b,P,a,c,d,_⟩ k g=>by rw[d]at g;simp at g;rcases g with rfl|rfl<;>rfl
def Zc:kq bK where
 k:=10
 rep:=λj D e cs=>∃n tn b P a c,cs=eY e n tn b P a c/\bt j D e.decl n tn P a/\XN e
 keep:=λ⟨n,tn,b,P,a,c,d,f,g⟩ k h=>⟨n,tn,b,P,a,c,d,f.keep k h,g⟩
 mono:=λ⟨n,tn,b,P,a,c,d,f,g⟩ h=>⟨n,tn,b,P,a,c,d,f.mono h,g⟩
 len:=λ⟨n,tn,b,P,a,c,d,_,_⟩=>by rw[d];rfl
 one:=λ⟨n,tn,b,P,a,c,d,_,_⟩ l i=>by rw[d]at i;simp[eY]at i;rcases i with rfl|rfl|rfl|rfl|rfl|rfl|rfl|rfl|rfl|rfl<;>rfl
def Zd:kq kv:=flat 7 iM kv.Ok (λ_=>rfl) (λP a n=>by simp[iM]at n;rcases n with rfl|rfl|rfl|rfl|rfl|rfl|rfl<;>rfl)
def Mn:Reads LL kO 228:=λz f A P a cs B g C=>by
 obtain⟨h,E,_,rfl,i,j,n⟩:=DataW.trod_struct (Tryz.underlying228) g;have k:Tryz.prog.cellsOf 228=4:=kR
 have l:cs.length=4:=i.trans k;have m:Tryz.prog.cellsOf 3=1:=kR
 match cs,l with
 |[F,H,I,J],_=>
 match h,j with
 |[K,L,M,N],_=>
  have b:=n 0 _ rfl;have c:=n 1 _ rfl;have d:=n 2 _ rfl;have e:=n 3 _ rfl;simp only[m,List.drop_zero,List.drop_succ_cons,Zw,List.take_zero,List.take_nil,ZJ,ZZ]at b c d e;obtain⟨o,p,-,q⟩:=DataW.trod_int Tryz.underlying3 b;obtain⟨z1,r,-,s⟩:=DataW.trod_int Tryz.underlying3 c;obtain⟨t,u,-,v⟩:=DataW.trod_int Tryz.underlying3 d;obtain⟨w,x,-,y⟩:=DataW.trod_int Tryz.underlying3 e
  cases p;cases r;cases u;cases x
  exact⟨⟨o,z1,t,w⟩,rfl,bq q,bq s,bq v,bq y⟩
def Po:Reads LL tR 85:=λL f M P a cs N g h=>by
 obtain⟨i,O,_,rfl,j,k,n⟩:=DataW.trod_struct (Tryz.underlying85) g;have l:Tryz.prog.cellsOf 85=4:=kR
 have m:cs.length=4:=j.trans l;have o:Tryz.prog.cellsOf 3=1:=kR
 have p:Tryz.prog.cellsOf 4=1:=kR
 have q:Tryz.prog.cellsOf 83=1:=kR
 match cs,m with
 |[Q,R,S,T],_=>
 match i,k with
 |[U,V,W,r],_=>
  have b:=n 0 _ rfl;have c:=n 1 _ rfl;have d:=n 2 _ rfl;have e:=n 3 _ rfl;simp only[o,p,q,List.drop_zero,List.drop_succ_cons,Zw,List.take_zero,List.take_nil,ZJ,ZZ]at b c d e;obtain⟨s,t,-,u⟩:=DataW.trod_int Tryz.underlying3 b;obtain⟨z1,v,-,w⟩:=DataW.trod_int Tryz.underlying3 c;obtain⟨x,y,-⟩:=DataW.trod_bool Tryz.underlying4 d;have z:mC LL 83 r.1:=by
   intro A B;refine h A ?_;have C:Tryz.prog.underlying 85=_:=Tryz.underlying85;simp only[DataW.weights,C,QY,List.map_nil,DataW.weightsEach,Q6];right;right;right;left;exact B
  obtain⟨E,F,H,I,J,-,-,K⟩:=open_row (bytes:=32) Tryz.underlying83 kR dC kR (Mn) e z
  cases t;cases v;cases y;cases J
  exact⟨⟨s,z1,x,I⟩,E,F,H,rfl,K,bq u,bq w⟩
def Pp:Reads LL ns 88:=λx b y n P cs z c d=>by
 obtain⟨e,A,_,rfl,f,g,h⟩:=DataW.trod_struct (Tryz.underlying88) c;have i:Tryz.prog.cellsOf 88=1:=kR
 have j:cs.length=1:=f.trans i;have k:Tryz.prog.cellsOf 86=1:=kR
 match cs,j with
 |[B],_=>
 match e,g with
 |[l],_=>
  have a:=h 0 _ rfl;simp only[k,List.drop_zero,List.drop_succ_cons,Zw,List.take_zero,List.take_nil,ZJ,ZZ]at a;have m:mC LL 86 l.1:=by
   intro o p;refine d o ?_;have q:Tryz.prog.underlying 88=_:=Tryz.underlying88;simp only[DataW.weights,q,QY,List.map_nil,DataW.weightsEach,Q6];left;exact p
  obtain⟨r,s,t,u,v,-,-,w⟩:=open_row (bytes:=48) Tryz.underlying86 kR dC kR (Po) a m
  cases v
  exact⟨u,r,s,t,rfl,w⟩
def Mo:Reads LL Jj 156:=λE g F P a cs H h I=>by
 obtain⟨i,J,_,rfl,j,k,n⟩:=DataW.trod_struct (Tryz.underlying156) h;have l:Tryz.prog.cellsOf 156=5:=kR
 have m:cs.length=5:=j.trans l;have o:Tryz.prog.cellsOf 3=1:=kR
 match cs,m with
 |[K,L,M,N,O],_=>
 match i,k with
 |[Q,R,S,T,U],_=>
  have b:=n 0 _ rfl;have c:=n 1 _ rfl;have d:=n 2 _ rfl;have e:=n 3 _ rfl;have f:=n 4 _ rfl;simp only[o,List.drop_zero,List.drop_succ_cons,Zw,List.take_zero,List.take_nil,ZJ,ZZ]at b c d e f;obtain⟨p,q,-,r⟩:=DataW.trod_int Tryz.underlying3 b;obtain⟨z1,s,-,t⟩:=DataW.trod_int Tryz.underlying3 c;obtain⟨u,v,-,w⟩:=DataW.trod_int Tryz.underlying3 d;obtain⟨x,y,-,z⟩:=DataW.trod_int Tryz.underlying3 e;obtain⟨A,B,-,C⟩:=DataW.trod_int Tryz.underlying3 f
  cases q;cases s;cases v;cases y;cases B
  exact⟨⟨p,z1,u,x,A⟩,rfl,bq r,bq t,bq w,bq z,bq C⟩
def Mp:Reads LL XO 25:=λI h J b c cs K i d=>by
 obtain⟨j,L,_,rfl,k,l,e⟩:=DataW.trod_struct (Tryz.underlying25) i;have m:Tryz.prog.cellsOf 25=2:=kR
 have o:cs.length=2:=k.trans m;have p:Tryz.prog.cellsOf 22=1:=kR
 have q:Tryz.prog.cellsOf 23=1:=kR
 match cs,o with
 |[M,N],_=>
 match j,l with
 |[r,s],_=>
  have f:=e 0 _ rfl;have g:=e 1 _ rfl;simp only[p,q,List.drop_zero,List.drop_succ_cons,Zw,List.take_zero,List.take_nil,ZJ,ZZ]at f g;have t:mC LL 22 r.1:=by
   intro n P;refine d n ?_;have a:Tryz.prog.underlying 25=_:=Tryz.underlying25;simp only[DataW.weights,a,QY,List.map_nil,DataW.weightsEach,Q6];left;exact P
  obtain⟨u,v,w,x,y,-,-,z⟩:=open_row (bytes:=24) Tryz.underlying22 kR dC kR (Pp) f t;have A:mC LL 23 s.1:=by
   intro n P;refine d n ?_;have a:Tryz.prog.underlying 25=_:=Tryz.underlying25;simp only[DataW.weights,a,QY,List.map_nil,DataW.weightsEach,Q6];right;left;exact P
  obtain⟨B,C,E,z1,F,-,-,H⟩:=open_row (bytes:=40) Tryz.underlying23 kR dC kR (Mo) g A
  cases y;cases F
  exact⟨⟨x,z1⟩,u,v,w,B,C,E,rfl,⟨z,H⟩⟩
def Pq:Reads LL Zc 27:=λl a m P b cs a0 o p=>by
 obtain⟨q,n2,_,rfl,r,s,n⟩:=DataW.trod_struct (Tryz.underlying27) o;have t:Tryz.prog.cellsOf 27=10:=kR
 have u:cs.length=10:=r.trans t;have v:Tryz.prog.cellsOf 3=1:=kR
 have w:Tryz.prog.cellsOf 25=2:=kR
 match cs,u with
 |[v0,v1,v2,v3,v4,v5,v6,v7,v8,v9],_=>
 match q,s with
 |[y0,y1,y2,y3,y4,y5,y6,y7,x],_=>
  have c:=n 0 _ rfl;have d:=n 1 _ rfl;have e:=n 2 _ rfl;have f:=n 3 _ rfl;have g:=n 4 _ rfl;have h:=n 5 _ rfl;have i:=n 6 _ rfl;have j:=n 7 _ rfl;have k:=n 8 _ rfl;simp only[v,w,List.drop_zero,List.drop_succ_cons,Zw,List.take_zero,List.take_nil,ZJ,ZZ]at c d e f g h i j k;obtain⟨y,z,-,A⟩:=DataW.trod_int Tryz.underlying3 c;obtain⟨z1,B,-,C⟩:=DataW.trod_int Tryz.underlying3 d;obtain⟨E,F,-,H⟩:=DataW.trod_int Tryz.underlying3 e;obtain⟨I,J,-,K⟩:=DataW.trod_int Tryz.underlying3 f;obtain⟨L,M,-,N⟩:=DataW.trod_int Tryz.underlying3 g;obtain⟨O,Q,-,R⟩:=DataW.trod_int Tryz.underlying3 h;obtain⟨S,T,-,U⟩:=DataW.trod_int Tryz.underlying3 i;obtain⟨V,W,-,X⟩:=DataW.trod_int Tryz.underlying3 j;have Y:mC LL 25 x.1:=by
   intro Z hq;refine p Z ?_;have hu:Tryz.prog.underlying 27=_:=Tryz.underlying27;simp only[DataW.weights,hu,QY,List.map_nil,DataW.weightsEach,Q6];right;right;right;right;right;right;right;right;left;exact hq
  obtain⟨z8,r8⟩:=Mp l a m P _ _ _ k Y
  cases z;cases B;cases F;cases J;cases M;cases Q;cases T;cases W
  obtain⟨ta,tn,tc,pa,pn,pc,he,hd⟩:=r8
  cases he
  exact⟨⟨y,z1,E,I,L,O,S,V,z8⟩,ta,tn,tc,pa,pn,pc,rfl,hd,bq A,bq C,bq H,bq K,bq N,bq R,bq U,bq X⟩
def Ps:Reads LL Zd 47:=λM i N P a cs O j Q=>by
 obtain⟨k,R,_,rfl,l,m,n⟩:=DataW.trod_struct (Tryz.underlying47) j;have o:Tryz.prog.cellsOf 47=7:=kR
 have p:cs.length=7:=l.trans o;have q:Tryz.prog.cellsOf 3=1:=kR
 match cs,p with
 |[S,T,U,V,W,X,Y],_=>
 match k,m with
 |[Z,y1,y2,y3,y4,y5,y6],_=>
  have b:=n 0 _ rfl;have c:=n 1 _ rfl;have d:=n 2 _ rfl;have e:=n 3 _ rfl;have f:=n 4 _ rfl;have g:=n 5 _ rfl;have h:=n 6 _ rfl;simp only[q,List.drop_zero,List.drop_succ_cons,Zw,List.take_zero,List.take_nil,ZJ,ZZ]at b c d e f g h;obtain⟨r,s,-,t⟩:=DataW.trod_int Tryz.underlying3 b;obtain⟨z1,u,-,v⟩:=DataW.trod_int Tryz.underlying3 c;obtain⟨w,x,-,y⟩:=DataW.trod_int Tryz.underlying3 d;obtain⟨z,A,-,B⟩:=DataW.trod_int Tryz.underlying3 e;obtain⟨C,E,-,F⟩:=DataW.trod_int Tryz.underlying3 f;obtain⟨H,I,-,w5⟩:=DataW.trod_int Tryz.underlying3 g;obtain⟨J,K,-,L⟩:=DataW.trod_int Tryz.underlying3 h
  cases s;cases u;cases x;cases A;cases E;cases I;cases K
  exact⟨⟨r,z1,w,z,C,H,J⟩,rfl,bq t,bq v,bq y,bq B,bq F,bq L⟩
end
section
open Go.aw
def XP:kq (bK×List ei) where
 k:=11
 rep:=λo D i cs=>∃n tn d P a e b c f,cs=lu i.1 n tn d P a e b c f/\bt o D i.1.decl n tn P a/\XN i.1/\Row Et 80 o D b c i.2
 keep:=λ⟨n,tn,d,P,a,e,b,c,f,g,j,k,l⟩ p h=>⟨n,tn,d,P,a,e,b,c,f,g,j.keep p h,k,l.keep p h⟩
 mono:=λ⟨n,tn,d,P,a,e,b,c,f,g,j,k,l⟩ h=>⟨n,tn,d,P,a,e,b,c,f,g,j.mono h,k,l.mono h⟩
 len:=λ⟨n,tn,d,P,a,e,b,c,f,g,_⟩=>by rw[g];rfl
 one:=λ⟨n,tn,d,P,a,e,b,c,f,g,_⟩ q m=>by rw[g]at m;simp[lu,eY]at m;rcases m with rfl|rfl|rfl|rfl|rfl|rfl|rfl|rfl|rfl|rfl|rfl<;>rfl
def Mq:Reads LL Et 49:=λh a i n b cs L j k=>by
 obtain⟨l,M,_,rfl,m,o,P⟩:=DataW.trod_struct (Tryz.underlying49) j;have p:Tryz.prog.cellsOf 49=10:=kR
 have q:cs.length=10:=m.trans p;have r:Tryz.prog.cellsOf 3=1:=kR
 have s:Tryz.prog.cellsOf 47=7:=kR
 match cs,q with
 |[N,O,Q,R,S,T,U,V,W,X],_=>
 match l,o with
 |[Y,Z,y2,t],_=>
  have c:=P 0 _ rfl;have d:=P 1 _ rfl;have e:=P 2 _ rfl;have f:=P 3 _ rfl;simp only[r,s,List.drop_zero,List.drop_succ_cons,Zw,List.take_zero,List.take_nil,ZJ,ZZ]at c d e f;obtain⟨u,v,-,w⟩:=DataW.trod_int Tryz.underlying3 c;obtain⟨z1,x,-,y⟩:=DataW.trod_int Tryz.underlying3 d;obtain⟨z,A,-,B⟩:=DataW.trod_int Tryz.underlying3 e;have C:mC LL 47 t.1:=by
   intro E F;refine k E ?_;have H:Tryz.prog.underlying 49=_:=Tryz.underlying49;simp only[DataW.weights,H,QY,List.map_nil,DataW.weightsEach,Q6];right;right;right;left;exact F
  obtain⟨I,J⟩:=Ps h a i n _ _ _ f C
  cases v;cases x;cases A
  obtain⟨g,K⟩:=J;simp only[iM,List.cons.injEq,and_true]at g;obtain⟨rfl,rfl,rfl,rfl,rfl,rfl,rfl⟩:=g;exact⟨⟨u,z1,z,I⟩,rfl,bq w,bq y,bq B,K⟩
def Mr:Reads LL XP 30:=λj P k n d cs O l e=>by
 obtain⟨m,Q,_,rfl,o,p,f⟩:=DataW.trod_struct (Tryz.underlying30) l;have q:Tryz.prog.cellsOf 30=11:=kR
 have r:cs.length=11:=o.trans q;have s:Tryz.prog.cellsOf 27=10:=kR
 have t:Tryz.prog.cellsOf 28=1:=kR
 match cs,r with
 |[R,S,T,U,V,W,X,Y,Z,v9,a0],_=>
 match m,p with
 |[u,v],_=>
  have g:=f 0 _ rfl;have h:=f 1 _ rfl;simp only[s,t,List.drop_zero,List.drop_succ_cons,Zw,List.take_zero,List.take_nil,ZJ,ZZ]at g h;have w:mC LL 27 u.1:=by
   intro a b;refine e a ?_;have c:Tryz.prog.underlying 30=_:=Tryz.underlying30;simp only[DataW.weights,c,QY,List.map_nil,DataW.weightsEach,Q6];left;exact b
  obtain⟨x,y⟩:=Pq j P k n _ _ _ g w;have z:mC LL 28 v.1:=by
   intro a b;refine e a ?_;have c:Tryz.prog.underlying 30=_:=Tryz.underlying30;simp only[DataW.weights,c,QY,List.map_nil,DataW.weightsEach,Q6];right;left;exact b
  obtain⟨A,B,C,z1,E,-,-,F⟩:=open_row (bytes:=80) Tryz.underlying28 kR dC kR (Mq) h z
  cases E
  obtain⟨H,tn,I,J,K,L,i,M,N⟩:=y;simp only[eY,List.cons.injEq,and_true]at i;obtain⟨rfl,rfl,rfl,rfl,rfl,rfl,rfl,rfl,rfl,rfl⟩:=i;exact⟨(x,z1),H,tn,I,J,K,L,A,B,C,rfl,M,N,F⟩

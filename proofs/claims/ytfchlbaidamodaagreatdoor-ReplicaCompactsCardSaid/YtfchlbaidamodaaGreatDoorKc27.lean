import Derived.Test.YtfchlbaidamodaaGreatDoorKc26
set_option linter.all false
set_option maxRecDepth 20000
namespace Go.Proofs.YtfchlbaidamodaaGreatDoor
open Go.ax
structure xC where
 ta:Option Addr
 tn:Nat
 tc:Nat
 pa:Option Addr
 pn:Nat
 pc:Nat
 every:Nat
 ea:Option Addr
 en:Nat
 ec:Nat
 vp:Nat
 ra:Option Addr
 rn:Nat
 rc:Nat
 qa:Option Addr
 qn:Nat
 qc:Nat
abbrev xC.cells(a:xC):Array Value:= #[.slice a.ta a.tn a.tc,.slice a.pa a.pn a.pc,QH (a.every:Int),.slice a.ea a.en a.ec,ZX a.vp,.slice a.ra a.rn a.rc,.slice a.qa a.qn a.qc]
def Bj(d:Nat)(e:Array Value)(a:xC)(f:aR)(g:bk)(h:List ef)(i:List ah)(c:List (List ef)):Nat->World->(Nat->Prop)->Prop
 |0=>λb G=>G d/\b.heap[d]? =some (.cells e 222 (0,0))
 |1=>λb G=>bh b G f a.ta a.tn a.pa a.pn
 |2=>λb G=>aV fZ 59 G b a.ea a.en a.ec i
 |3=>λb G=>cT b a.vp G g
 |4=>λb G=>cU b G a.ra a.rn a.rc h
 |5=>λb G=>aV Zh 219 G b a.qa a.qn a.qc c
 |_=>λ_ _=>True
variable{r:Array Value}{B:List ah}{g6:List ef}{a c:Nat}{b:World}{M:aR}{d8:bk}{d9:jO}
def ej{f:xC}{e:List (List ef)}:vC (Bj a r f M d8 g6 B e):=by
 intro k g w' G h b c d
 match k,b with
 |0,b=>exact⟨b.1,c.get b.2 (d a b.1)⟩
 |1,b=>exact bh.keep b c d
 |2,b=>exact aV.keep b c d
 |3,b=>exact cT.keep b c d
 |4,b=>exact cU.keep b c d
 |5,b=>exact aV.keep b c d
 |k+6,b=>trivial
abbrev eH(d:World)(e:Nat->Prop)(a:Nat->Nat)(f:Nat)(c:xC)(g:aR)(h:bk)(i:List ef)(j:List ah)(b:List (List ef)):Prop:=bS d e a (Bj f c.cells c g h i j b)
section
variable {w w':World} {p:Nat} {F T D:Nat->Prop} {cls:Nat->Nat} {q:xC} {d:aR} {V:bk} {Rs:List ef} {l:List ah} {pts:List (List ef)}
def eH.af(a:eH w F cls p q d V Rs l pts)(b:ai w w'):eH w' F cls p q d V Rs l pts:=bS.af a ej b
def eH.bG(a:eH w F cls p q d V Rs l pts):w.heap[p]? =some (.cells q.cells 222 (0,0)):=(a.at' 0).2
def eH.self(a:eH w F cls p q d V Rs l pts):F p/\cls p=0:=(a.at' 0).1
def Fj(t:eH w F cls p q d V Rs l pts)(hd:dd d=0)(hT:eM w)(hl:l.length<=20000000){vp:Option Addr}{z:Option Addr}(hr:cU w D z a c g6)(hD:∀b,D b->b<w.heap.size)(hn:g6.length<=8):
  Calls ZQ 180 #[ZX p,.agg #[.pointer vp,.slice z a c]] w (Ok λT w'=>∃i z a c g G,T= .agg #[ZX i,.slice z a c]/\cT w' i g (cG d l)/\cU w' G z a c g6/\(∀b,g b->w.heap.size<=b)/\(∀b,G b->w.heap.size<=b/\b<w'.heap.size/\¬g b)/\ai w w'):=by
 have U:=t.aF;have g4:=hr.len;refine uf (PA.mk λu k5 s5 g5=>PA.mk λA k6 s6 a3=>?_);have B:=k5.then k6;have c0:∀{k:World},ai w k->Row fZ 96 k (λb=>F b/\cls b=2) q.ea q.en l:=λ{k} v=>((show aV fZ 59 (λb=>F b/\cls b=2) w q.ea q.en q.ec l from t.at' 2).af v).row dC (by unfold aQ;omega);have o:∀{k:World},ai w k->Calls ZQ 40 #[.agg #[.slice q.ta q.tn q.tc,.slice q.pa q.pn q.pc],.slice q.ea q.en q.ec] k (Ok λT w'=>∃p F,T= ZX p/\cT w' p F (cG d l)/\(∀b,F b->k.heap.size<=b)/\ai k w'):=λ{k} v=>
  ID hd (hT.af v) (show bh k (λb=>F b/\cls b=1) d q.ta q.tn q.pa q.pn from bh.keep (t.at' 1) v λ_ _ t=>t) (λb e=>by have:=U b e.1;have:=v.size;omega) (c0 v) (λb e=>by have:=U b e.1;have:=v.size;omega) hl
 refine⟨λj oo w'=>oo=0/\∃i g,w'.heap[j]? =some (.cells #[ZX i,.slice none 0 0] 219 (0,0))/\cT w' i g (cG d l)/\(∀b,g b->A.heap.size<=b)/\¬g j/\A.heap.size<=j/\ai A w',?_,?_⟩
 ·intro r d9
  have x:ai A r:=d9.keep;have s9:r.heap.size=A.heap.size:=by rw[d9.heap]
  have W:=(t.af (B.then x)).bG;have zp:=U p t.self.1;have nS:¬r.heap.size<=p:=by have:=(B.then x).size;omega
  refine⟨λb=>r.heap.size<=b,p,0,rfl,nS,_,_,_,_,_,_,ae W rfl,ae W rfl,p,0,rfl,nS,_,_,_,ae W rfl,PC.ok (o (B.then x)) ?_,PA.mk λg7 X g8 d2=>⟨ai.keep X,PC.ok (o ((B.then x).then X)) ?_⟩⟩
  ·rintro _ K ⟨i,g,rfl,s,C,Y⟩
   refine⟨_,rfl,ai.keep Y,PA.mk λd3 Z g9 d4=>⟨ai.keep Z,PS.mk d4 sM λh0 d5 h2 d6=>PS.mk d6 sM λd7 d8 h3 e0=>?_⟩⟩;have E:=s.aF;have h4:=Y.size;have h:aj (λb=>b=K.heap.size) d3 d7:=d5.then d8;refine⟨h.mono λb _ f=>by have f:b=K.heap.size:=f;omega,rfl,i,g,e0,(s.af Z).keep h λb e f=>by have f:b=K.heap.size:=f;have:=E b e;omega,λb e=>by have:=C b e;omega,λe=>by have:=E _ e;omega,oM,((x.then Y).then Z).new h λb e=>.inr (by have e:b=K.heap.size:=e;omega)⟩
  ·rintro _ e1 ⟨i,g,rfl,s,C,L⟩
   have e2:=L.get d2 id;have E:=s.aF;have h5:=L.size;refine⟨_,rfl,ai.keep L,PS.mk e2 sM λh6 e3 h7 e4=>PS.mk e4 sM λe5 e6 h8 e7=>?_⟩;have h:aj (λb=>b=r.heap.size) e1 e5:=e3.then e6;refine⟨h.mono λb _ f=>by have f:b=r.heap.size:=f;omega,rfl,i,g,e7,s.keep h λb e f=>by have f:b=r.heap.size:=f;have:=C b e;omega,λb e=>by have:=C b e;omega,λe=>by have:=C _ e;omega,oM,((x.then X).then L).new h λb e=>.inr (by have e:b=r.heap.size:=e;omega)⟩
 rintro j _ _ M ⟨rfl,i,g,H,s,c1,e8,g3,N⟩;have a5:=B.then N;have h9:=N.size;have a4:j<M.heap.size:=aC H;have E:=s.aF;have c4:=N.get (k6.get g5 id) id;have c5:=N.get a3 id;refine⟨_,_,_,ae c4 rfl,λa2 a7 w'=>∃m:Nat,a7=m/\m<=a/\a2=a-m/\∃O I P G,w'.heap[j]? =some (.cells #[ZX i,.slice O I P] 219 (0,0))/\cU w' G O I P (g6.take m)/\(∀b,G b->M.heap.size<=b/\b<w'.heap.size)/\aj (·=j) M w',
  ⟨_,0,rfl,Qj _,rfl,none,0,0,λ_=>False,H,cU.nil _,λb e=>e.elim,aj.refl _⟩,?_⟩
 rintro a2 _ _ J ⟨m,rfl,hj,rfl,O,I,P,G,Q,R,n,y⟩;have i0:=y.size;refine al.dec (λi1=>?_) (λi2=>?_)
 ·have e9:m<g6.length:=oM
  have hx:g6[m]? =some g6[m]:=Qq e9;generalize g6[m]=f0 at hx;obtain⟨a8,pj,rj,ha,a0,hR,a9,b0,b1,-,-⟩:=((hr.af a5).keep y λb e f=>by have f:b=j:=f;have:=hD b e;omega).elem hx;have f2:=R.len;rw[Qy,X2 oM]at f2;refine⟨a8,0,ha,oM,oM,_,by rw[Qx];exact a0,λc6 c7=>⟨λ_=>False,id,?_⟩⟩;have b2:ai J c6:=c7.keep;have i3:c6.heap.size=J.heap.size:=by rw[c7.heap]
  refine⟨_,_,_,ae (b2.get Q id) rfl,PC.ok (OT (hR.af b2)) ?_⟩;rintro _ i4 ⟨p',r',rfl,f3,f4,i5,i6,i7,i8,b3⟩;have i9:=b3.size;refine⟨_,rfl,b3,PA.mk λj0 b4 j1 f5=>⟨b4,?_⟩⟩;have a1:=(b2.then b3).then b4;refine(R.af a1).push (λb e=>by have:=(n b e).2;omega) (f3.af b4) (λe=>by have:=(n _ e).2;omega) (λe=>by have:=(n _ e).2;omega) f4 Rl f5 (by rw[Qy];omega) λb6 c3 j2 G3 f6 b5 g0 c8=>⟨_,_,_,rfl,?_⟩
  have j3:=b5.size;have c2:=b5.get (a1.get Q id) λe=>by have:=(n _ e).1;omega
  have a6:∀b,G3 b->M.heap.size<=b:=λb e=>by
   rcases g0 b e with S|S|S|S
   ·exact(n b S).1
   ·omega
   ·omega
   ·omega
  refine PS.mk c2 sM λj4 c9 j5 g1=>⟨_,oM,m+1,an oM,oM,rfl,b6,I+1,c3,G3,g1,?_,λb e=>⟨a6 b e,by have:=c8 b e;omega⟩,?_⟩
  ·rw[Qw,hx]
   exact f6.keep c9 λb e f=>by have f:b=j:=f;have:=a6 b e;omega
  ·exact((y.af a1).new b5 λb e=>.inr (n b e).1).then c9
 ·rw[Qz oM]at R
  have d0:=y.get c5 λf=>by have f:u.heap.size=j:=f;omega
  refine⟨_,_,_,_,ae Q rfl,ae Q rfl,PS.mk d0 sM λj6 b7 j7 g2=>PS.mk g2 sM λb8 b9 j8 d1=>⟨_,_,_,_,ae d1 rfl,ae d1 rfl,Ok.mk ⟨i,O,I,P,g,G,rfl,?_,?_,λb e=>by have:=c1 b e;omega,λb e=>⟨?_,?_,?_⟩,?_⟩⟩⟩
  ·have h:aj (λb=>b=u.heap.size) J b8:=b7.then b9
   exact(s.keep y λb e f=>e8 ((show b=j from f)▸e)).keep h λb e f=>by have f:b=u.heap.size:=f;have:=c1 b e;omega
  ·have h:aj (λb=>b=u.heap.size) J b8:=b7.then b9
   exact R.keep h λb e f=>by have f:b=u.heap.size:=f;have:=n b e;omega
  ·have:=n b e;omega
  ·have:=n b e;omega
  ·intro hf;have:=n b e;have:=E b hf;omega
  ·have h:aj (λb=>b=u.heap.size) J b8:=b7.then b9
   exact(a5.new y λb e=>.inr (by have e:b=j:=e;omega)).new h λb e=>.inr (by have e:b=u.heap.size:=e;omega)
end
section
variable {w w':World} {p:Nat} {F T D:Nat->Prop} {cls:Nat->Nat} {q:xC} {d:aR} {V:bk} {Rs:List ef} {l:List ah} {pts:List (List ef)}
def Ef{e:ah}{f:Option Addr}{w:World}{D:Nat->Prop}(j:Row aP 8 w D f a e.aK)(t:∀b,D b->b<w.heap.size):
  Calls ZQ 202 #[kK e f a c] w (Ok λu w'=>∃f a c G,u=kK e f a c/\Row aP 8 w' G f a e.aK/\(∀b,G b->w.heap.size<=b/\b<w'.heap.size)/\ai w w'):=by
 have v:=j.d_;have x:=j.len;refine Aa (PA.mk λA n B g=>PA.mk λC h E k=>⟨_,_,_,ae (h.get g id) rfl,PC.ok (cH (j.af (n.then h)) λb d=>by have:=t b d;omega) ?_⟩);rintro _ F ⟨o,p,q,G,rfl,r,i,l⟩;have g:=i.get (h.get g id) id;have k:=i.get k id;refine⟨_,_,_,rfl,PS.mk g (by simp[aE]) λH m I y=>?_⟩;refine aw (cs:=aE e o p q) (bg _ _ _ _) y (aD (bg _ _ _ _) (m.get k oM) rfl λJ s K z=>aw (bg _ _ _ _) z (Ok.mk ⟨o,p,q,G,rfl,?_,?_,?_⟩))
 ·refine(((r.keep m λb d=>?_).keep s λb d=>?_).row (bytes:=8) dC (by rw[<-x];exact v))
  ·have:=l b d;omega
  ·have:=l b d;omega
 ·intro b d
  have:=l b d;have:=r.aF b d;omega
 ·have L:=i.size
  exact((aj.new ((n.then h).then i) m λb d=>.inr oM).new s λb d=>.inr oM)
def eH.store{b:xC}(a:bS w F cls (Bj p q.cells b d V Rs l pts))(e:aj (·=p) w w')(f:w'.heap[p]? =some (.cells r 222 (0,0))):bS w' F cls (Bj p r b d V Rs l pts):=by
 refine bS.same a ej (k:=0) (e.mono λj _ g=>g▸(a.at' 0).1) ⟨(a.at' 0).1,f⟩ λc G h i=>?_;rcases c with _|_|_|_|_|_|c<;>first|exact i|exact absurd rfl h
def Fk(b:eH w F cls p q d V Rs l pts)(J:dd d=0)(K:eM w)(L:l.length<=20000000)(M:Rs.length<=8)(b2:pts.length*q.every<9223372036854775808)(b3:pts.length<=20000001):
  Calls ZQ 134 #[ZX p] w (Ok λN w'=>N= .tuple #[]/\∃u v g,eH w' v g p u d V Rs l (if l.length=pts.length*q.every then pts++[Rs]else pts)/\u.every=q.every/\de F w v w'):=by
 have k:=b.bG;have O:=aV.len (b.at' 2) dC;have P:=aV.len (b.at' 5) dC;have Q:=b.aF;have R:IntKind.wrap .i64 (((q.qn:Nat):Int)*(q.every:Int))=((pts.length*q.every:Nat):Int):=by
  rw[P,show((pts.length:Nat):Int)*(q.every:Int)=((pts.length*q.every:Nat):Int) by push_cast;rfl,wrap_i64 (by unfold aN;omega)]
 refine ug ⟨p,0,rfl,_,_,_,ae k rfl,p,0,rfl,_,_,_,ae k rfl,p,0,rfl,_,ae k rfl,λS T=>?_⟩;rw[R,O];have m:ai w S:=T.keep;refine al.dX (λb4=>?_) (λb5=>Ok.mk ⟨rfl,q,F,cls,?_,rfl,ai.keep m,λa c=>.inl c⟩)
 rotate_left
 ·rw[if_neg oM];exact eH.af b m
 rw[if_pos oM];intro x U;have j:ai w x:=m.then U.keep;have f:=eH.af b j;have n:=f.bG;refine⟨λ_=>False,p,0,rfl,id,_,_,_,ae n rfl,p,0,rfl,_,_,_,_,ae n rfl,ae n rfl,PC.ok (Fj f J (K.af j) L (f.at' 4) (λa c=>f.aF a c.1) M) ?_⟩;rintro _ b6 ⟨b7,a3,n2,c2,Fv,G,rfl,-,W,-,o,r⟩;refine⟨_,_,_,_,rfl,r,PA.mk λb8 s b9 X=>⟨s,?_⟩⟩;have y:=r.then s;have Y:=eH.af f y;have c0:=j.size;have c1:=r.size;have t:∀a,aI q.qa=some a->F a/\cls a=5:=λa c=>aV.self (b.at' 5) a c;refine fh (c:=Zh) (x:=Rs) (Y.at' 5) Xa X (D:=G) ⟨_,_,_,_,rfl,W.af s⟩ (λa c=>⟨by have:=(o a c).2.1;omega,λh=>by have:=Q a (t a h).1;have:=(o a c).1;omega⟩) (by unfold aQ;omega) (by unfold maxLen;omega) λz e Z F2 A B b0=>⟨_,_,_,rfl,p,0,rfl,?_⟩
 have a0:¬aI q.qa=some p:=λh=>by have i:=(t p h).2;rw[b.self.2]at i;cases i
 have c3:=B.size;have a1:aj (λa=>F a/\cls a=5) x Z:=(ai.keep y).then (B.mono λa _ c=>t a c);obtain⟨F3,a2,C,E,-,-⟩:=f.fr ej (k:=5) (G':=F2) (C2:=Bj p q.cells {q with qa:=z,qn:=q.qn+1,qc:=e} d V Rs l (pts++[Rs])) a1
  (λa c=>(b0 a c).imp id λb=>b.elim (λb=>(o a b).1) λb=>oM) A.aF A λH G hj hc=>by
   rcases H with _|_|_|_|_|_|H<;>first|exact hc|exact absurd rfl hj
 refine PS.mk (C.at' 0).2 sM λc4 I c5 b1=>Ok.mk ⟨rfl,{q with qa:=z,qn:=q.qn+1,qc:=e},F3,a2,eH.store C I b1,rfl,?_,λa c=>?_⟩
 ·refine((ai.keep j).then E.keep).then (I.mono λa _ h=>h▸b.self.1)
 ·rcases E.new a c with i|i
  ·exact .inl i
  ·exact .inr oM
end
section
variable {w w':World} {p:Nat} {F T D:Nat->Prop} {cls:Nat->Nat} {q:xC} {d:aR} {V:bk} {Rs:List ef} {l:List ah} {pts:List (List ef)}
def qG(V:bk)(a:ah)(Rs:List ef):List ef:=Rs.map λb=>b.add (V.add a).1 (tI ((V.add a).2.state a.bd a.agg) b.p)
def TG{d:aR}(e:dd d=0)(f:d9∈d.projs):0<=d9.GO:=by
 have b:=(lu e).2.2 d9 f;unfold mK at b;split at b
 ·cases b
 split at b
 ·cases b
 rename_i a
 by_cases c:d9.group=3
 ·rw[c]at a
  simp only[BEq.rfl,Bool.true_and,bne_self_eq_false,Bool.false_and,Bool.or_false,Bool.not_eq_true,Bool.not_eq_false']at a;unfold Tz within at a;simp only[QK,decide_eq_true_eq]at a;exact a.1.1
 ·have g:(d9.group==3)=false:=by simpa using c
  have h:(d9.group !=3)=true:=by simpa using c
  rw[g,h]at a;simp at a;omega
def Fq{V:bk}(b:V.OK)(a:ah):((V.state a.bd a.agg).getD IB).cells.length<=8:=by
 have c:=b.len a;have d:=(xD (lu b.decl).1).2.2.2;have i:(V.decl.at a.bd).length<=8:=by
  unfold aR.at;split
  ·rw[QQ]
   cases e:V.decl.types[a.bd.toNat]? with
   |none=>simp
   |some f=>exact(d f (QZ e)).2
  ·simp
 unfold bk.cellsOf at c;unfold bk.state
 cases g:ay V.fj (a.bd,a.agg)with
 |none=>simp
 |some h=>simp only[g]at c;show h.cells.length<=8;omega
def YD(w a:World)(p:Nat)(F:Nat->Prop)(q:xC)(d:aR)(V:bk)(Rs:List ef)(l:List ah)(pts:List (List ef))(f:ah)(b g:Nat)(w':World):Prop:=
 g=0/\∃h i j c k,w'.heap[b]? =some (.cells (iG (V.add f).1 h i j).toArray 160 (0,0))/\eH w' c k p q d (V.add f).2 Rs l pts/\(∀e,c e->F e\/a.heap.size<=e)/\aj F a w'/\a.heap.size<=b/\¬c b
def Rm(v:eH w F cls p q d V Rs l pts)(hd:dd d=0)(hT:eM b)(g0:ai b w)(g3:∀e,F e->b.heap.size<=e)(hl:l.length+1<=20000000)(k4:V.entries.length<=20000000)(g4:Rs.map (·.p)=d.projs)(k5:pts.length*q.every<9223372036854775808)(k6:pts.length<=20000001){g:ah}{J:Option Addr}(k7:((ay V.done (g.bd,g.agg,g.field)).getD []).length<=20000000)(hr:Row aP 8 w D J a g.aK)(R:∀e,D e->e<w.heap.size/\¬F e)(he:g.Ok):
  Calls ZQ 144 #[ZX p,kK g J a c] w (Ok λa5 w'=>a5= .tuple #[]/\∃q' S a0,eH w' S a0 p q' d (V.add g).2 (qG V g Rs) (l++[g]) (if l.length+1=pts.length*q.every then pts++[qG V g Rs]else pts)/\q'.every=q.every/\de F w S w'):=by
 have T:=v.aF;have q7:=T p v.self.1;have q8:Rs.length=d.projs.length:=by rw[<-g4,Q8]
 have q9:d.projs.length<=8:=(xD (lu hd).1).2.2.1;refine vD (PA.mk λe0 b8 r0 g5=>?_);have k8:=eH.af v b8;refine⟨YD w e0 p F q d V Rs l pts g,?_,?_⟩
 ·intro s g6
  have a6:ai e0 s:=g6.keep;have r3:s.heap.size=e0.heap.size:=by rw[g6.heap]
  have e1:=eH.af k8 a6;have a7:=b8.then a6;have g7:=e1.bG;have a1:∀{r:World},ai s r->Calls ZQ 79 #[ZX q.vp,kK g J a c] r (Ok λa5 w'=>∃J a c G,a5=GP (V.add g).1 J a c/\Row aP 8 w' G J a g.aK/\∃S,cT w' q.vp S (V.add g).2/\de (λe=>F e/\cls e=3) r S w'/\∀e,G e->r.heap.size<=e/\e<w'.heap.size/\¬S e):=λ{r} U=>
   IE (show cT r q.vp (λe=>F e/\cls e=3) V from(eH.af e1 U).at' 3) (hT.af (g0.then (a7.then U))) (hr.af (a7.then U)) (λe f=>⟨by have:=(R e f).1;have:=(a7.then U).size;omega,λj=>(R e f).2 j.1⟩) he k7 k4
  have fr:∀{r w2:World} {t:Nat->Prop},ai s r->cT w2 q.vp t (V.add g).2->de (λe=>F e/\cls e=3) r t w2->∃k n,eH w2 k n p q d (V.add g).2 Rs l pts/\(∀e,k e->F e\/t e)/\(∀e,k e->F e\/r.heap.size<=e)/\aj F r w2:=λ{r w2 t} U W y=>by
   obtain⟨k,n,X,K,o,-⟩:=(eH.af e1 U).Ec ej (k:=3) (G':=t) (C2:=Bj p q.cells q d (V.add g).2 Rs l pts) y W.aF W λh G Y hc=>by
    rcases h with _|_|_|_|_|_|h<;>first|exact hc|exact absurd rfl Y
   exact⟨k,n,X,λe f=>(o e f).imp (·.1) id,K.new,K.keep⟩
  have nS:¬((F p/\cls p=3)\/s.heap.size<=p):=by
   rintro(⟨-,i⟩|i)
   ·rw[v.self.2]at i;cases i
   ·omega
  have b9:¬((F w.heap.size/\cls w.heap.size=3)\/s.heap.size<=w.heap.size):=by
   rintro(⟨i,-⟩|i)
   ·have:=T _ i;omega
   ·omega
  refine⟨λe=>(F e/\cls e=3)\/s.heap.size<=e,p,0,rfl,nS,_,ae g7 rfl,b9,aw (bg g J a c) (a6.get g5 id) ⟨PC.ok (a1 (aj.refl _)) ?_,PA.mk λr4 c0 r5 k9=>⟨ai.keep c0,PC.ok (a1 c0) ?_⟩⟩⟩
  ·rintro _ e2 ⟨z,A,B,G1,rfl,-,t,W,y,-⟩
   obtain⟨k,n,X,g8,o,kF⟩:=fr (aj.refl _) W y;have r6:=y.keep.size;have g9:=X.aF;refine cu (Rn _ z A B) ⟨rfl,y.keep.mono λe _ f=>.inl f,PA.mk λr7 e3 r8 l0=>⟨ai.keep e3,aD (mg _ z A B) l0 rfl λr9 e4 s0 l3=>⟨e4.mono λe _ g=>.inr (by have g:e=e2.heap.size:=g;omega),rfl,z,A,B,k,n,l3,?_,λe f=>?_,?_,oM,λj=>by have:=g9 _ j;omega⟩⟩⟩
   ·exact bS.keep (eH.af X e3) ej e4 λe f g=>by have g:e=e2.heap.size:=g;have:=g9 e f;omega
   ·rcases o e f with i|i
    ·exact .inl i
    ·exact .inr oM
   ·exact(((ai.keep a6).then kF).af e3).new e4 λe f=>.inr (by have f:e=e2.heap.size:=f;omega)
  ·rintro _ s1 ⟨z,A,B,G1,rfl,-,t,W,y,-⟩
   obtain⟨k,n,X,g8,o,kF⟩:=fr c0 W y;have s2:=y.keep.size;have nf:¬k s.heap.size:=λj=>by
    rcases o _ j with i|i
    ·have:=T _ i;omega
    ·omega
   have l4:=kF.get k9 λj=>by have:=T _ j;omega
   refine cu (Rn _ z A B) ⟨rfl,y.keep.mono λe _ f=>.inl f,aD (mg _ z A B) l4 rfl λs3 e5 s4 l5=>⟨e5.mono λe _ g=>.inr (by have g:e=s.heap.size:=g;omega),rfl,z,A,B,k,n,l5,?_,λe f=>?_,?_,oM,nf⟩⟩
   ·exact bS.keep X ej e5 λe f g=>by have g:e=s.heap.size:=g;exact nf (g▸f)
   ·rcases o e f with i|i
    ·exact .inl i
    ·exact .inr oM
   ·exact(((ai.keep a6).then (ai.keep c0)).then kF).new e5 λe f=>.inr (by have f:e=s.heap.size:=f;omega)
 rintro xb _ _ L ⟨rfl,xa,xn,xc,k,n,gx,Z,o,c2,s5,l6⟩;have h0:=c2.get g5 λj=>by have:=T _ j;omega
 have h2:=(hr.af b8).keep c2 λe f=>(R e f).2;have a8:=Z.aF;have s6:=c2.size;have xw:=aC gx;have a9:aj F w L:=(ai.keep b8).then c2;have p8:ai b L:=g0.new a9 λe f=>.inr (g3 e f);obtain⟨m,hS⟩:∃m,m=(V.add g).2.state g.bd g.agg:=⟨_,rfl⟩
 have s7:(m.getD IB).cells.length<=8:=by rw[hS];exact Fq (show(V.add g).2.OK from(show cT L q.vp (λe=>k e/\n e=3) (V.add g).2 from Z.at' 3).1) g
 refine⟨λsb so w'=>so=0/\∃sa sn sc G2,w'.heap[sb]? =some (.cells #[QH (m.getD IB).version,.slice sa sn sc] 42 (0,0))/\Row fL 32 w' G2 sa sn (m.getD IB).cells/\(∀e,G2 e->L.heap.size<=e/\e<w'.heap.size)/\L.heap.size<=sb/\ai L w',?_,?_⟩
 ·intro C h3
  have c3:ai L C:=h3.keep;have s8:C.heap.size=L.heap.size:=by rw[h3.heap]
  have e6:=eH.af Z c3;have h4:=e6.bG;have d4:=c3.get h0 id;have nS:¬C.heap.size<=p:=by have:=a8 p Z.self.1;omega
  have b9:¬C.heap.size<=w.heap.size:=oM
  refine⟨λe=>C.heap.size<=e,p,0,rfl,nS,_,ae h4 rfl,b9,_,ae d4 rfl,b9,_,ae d4 rfl,PC.ok (ox (e6.at' 3)) ?_,PA.mk λs9 e7 t0 l7=>⟨ai.keep e7,PC.ok (ox ((eH.af e6 e7).at' 3)) ?_⟩⟩
  ·rintro _ c4 ⟨ca,cn,cc,G,rfl,O,M,e8⟩
   have t1:=e8.size;have c5:=O.aF;rw[<-hS]at O⊢;refine⟨_,_,_,_,_,rfl,ai.keep e8,PA.mk λl8 e9 t2 l9=>⟨ai.keep e9,PS.mk l9 sM λt3 m0 t4 m1=>PS.mk m1 sM λm2 m3 t5 m4=>?_⟩⟩;have P:aj (λe=>e=c4.heap.size) l8 m2:=m0.then m3;refine⟨P.mono λe _ g=>by have g:e=c4.heap.size:=g;omega,rfl,ca,cn,cc,G,m4,((O.af e9).keep P λe f g=>by have g:e=c4.heap.size:=g;have:=c5 e f;omega).row dC (by unfold aQ;omega),λe f=>⟨by have:=M e f;omega,by have:=c5 e f;omega⟩,oM,((c3.then e8).then e9).new P λe f=>.inr (by have f:e=c4.heap.size:=f;omega)⟩
  ·rintro _ m5 ⟨ca,cn,cc,G,rfl,O,M,c6⟩
   have t6:=c6.size;have c5:=O.aF;have m6:=c6.get l7 id;rw[<-hS]at O⊢;refine⟨_,_,_,_,_,rfl,ai.keep c6,PS.mk m6 sM λt7 m7 t8 m8=>PS.mk m8 sM λm9 n0 t9 n2=>?_⟩;have P:aj (λe=>e=C.heap.size) m5 m9:=m7.then n0;refine⟨P.mono λe _ g=>by have g:e=C.heap.size:=g;omega,rfl,ca,cn,cc,G,n2,(O.keep P λe f g=>by have g:e=C.heap.size:=g;have:=M e f;omega).row dC (by unfold aQ;omega),λe f=>⟨by have:=M e f;omega,by have:=c5 e f;omega⟩,oM,((c3.then e7).then c6).new P λe f=>.inr (by have f:e=C.heap.size:=f;omega)⟩
 rintro sb _ _ h5 ⟨rfl,sa,sn,sc,G2,gs,n3,n4,u0,Q⟩;have c7:=eH.af Z Q;have h6:=c7.bG;have u1:=Q.size;have h7:bh h5 (λe=>k e/\n e=1) d q.ta q.tn q.pa q.pn:=c7.at' 1;have p9:=h7.Bk.len;have q0:=c7.aF;have h8:=Q.get gx id;obtain⟨E,j⟩:∃E:ef->ef,E=λx=>x.add (V.add g).1 (tI ((V.add g).2.state g.bd g.agg) x.p):=⟨_,rfl⟩
 have g2:=aC gs;refine⟨p,0,rfl,_,_,_,ae h6 rfl,λd5 b0 w'=>∃h:Nat,b0=h/\h<=q.pn/\d5=q.pn-h/\eH w' k n p q d (V.add g).2 ((Rs.take h).map E++Rs.drop h) l pts/\aj k h5 w',⟨_,0,rfl,Qj _,rfl,by simpa using c7,aj.refl _⟩,?_⟩;rintro d5 _ _ H ⟨h,rfl,Y,rfl,u,I⟩;have u2:=I.size;have d6:=I.get gs λj=>by have:=a8 _ j;omega
 have h1:=n3.keep I λe f j=>by have:=a8 _ j;have:=(n4 e f).1;omega
 have h9:=I.get h8 l6;have q1:=u.bG;refine al.dec (λu3=>?_) (λu4=>?_)
 ·have i0:h<d.projs.length:=oM
  have hx:d.projs[h]? =some d.projs[h]:=Qq i0;have i1:d.projs[h]∈d.projs:=XY i0;generalize d.projs[h]=x at hx i1;obtain⟨e,i8,es,b1,j0,j1,b2,rfl,d7⟩:=(show bh H (λe=>k e/\n e=1) d q.ta q.tn q.pa q.pn from u.at' 1).Bk.el h x hx;have n8:=TG hd i1;refine⟨e,i8,b1,oM,oM,br (es:=oy x) (k:=5) (qH x) rfl (λb0 ht=>by rw[Qx];exact b2 b0 ht) (PA.mk λu5 i2 u6 n9=>aD (qH x) n9 rfl λi3 i4 u7 i5=>⟨λj3 w'=>j3=tI m x/\aN (tI m x)/\i3=w',?_,?_⟩)⟩
  ·have b3:ai H i3:=i2.new i4 λe f=>.inr (by have f:e=H.heap.size:=f;omega)
   have d8:=h1.af b3;have u9:=d8.len;have a4:tI m x=(((m.getD IB).cells[x.GO.toNat]?).map (·.n)).getD 0:=by
    cases m<;>rfl
   refine⟨_,ae i5 rfl,_,_,_,ae (b3.get d6 id) rfl,al.dec (λi6=>?_) (λi6=>⟨?_,?_,rfl⟩)⟩
   ·obtain⟨bi,f3⟩:∃bi:Nat,x.GO=bi:=⟨x.GO.toNat,oM⟩
    obtain⟨cb,co,v0,v1,v2,o0,v3,v4,o1,-,-,i7,-⟩:=ni d8 (i:=bi) oM;refine⟨_,_,_,ae (b3.get d6 id) rfl,_,ae i5 rfl,cb,co,o0,n8,i6,_,by rw[f3,Qx];exact o1,?_,?_,rfl⟩
    ·rw[a4,f3,Qx,QQ,Qq (show bi<(m.getD IB).cells.length by omega)];rfl
    ·rw[a4,f3,Qx,Qq (show bi<(m.getD IB).cells.length by omega)]
     rw[QQ,Qq (show bi<(m.getD IB).cells.length by omega)]at i7;exact i7
   ·rw[a4,Q7 oM];rfl
   ·rw[a4,Q7 oM];exact IF
  ·rintro _ _ _ ⟨rfl,j4,rfl⟩ o2 o3
   have b4:ai H o2:=(i2.new i4 λe f=>.inr (by have f:e=H.heap.size:=f;omega)).then o3.keep;have c8:=eH.af u b4;have o4:((Rs.take h).map E++Rs.drop h)[h]? =Rs[h]? :=by
    rw[X8 (by simp;omega)];simp[Qy,X2 (show h<=Rs.length by omega)]
   have c9:Rs[h]? =some Rs[h]:=Qq oM;have d9:Rs[h].p=x:=by
    have:=congrArg (·[h]?) g4;simp only[Q9,c9,hx,Option.map_some,Q1]at this;exact this
   generalize Rs[h]=b5 at c9 d9;obtain⟨rg,pj,rj,o5,o6,hR,j5,v5,i9,-,b6⟩:=cU.elem (c8.at' 4) (o4.trans c9);have o7:=cU.len (c8.at' 4);rw[QX,Q8,Qy,XZ]at o7;have j6:=c8.bG;refine⟨p,0,rfl,_,_,_,ae j6 rfl,rg,0,o5,oM,oM,_,by rw[Qx];exact o6,aw (mg _ xa xn xc) (b4.get h9 id) (PC.ok (Ro hR j5 (x:=(V.add g).1) he j4) ?_)⟩;rintro _ o8 ⟨rfl,o9,f5⟩;have fz:((Rs.take h).map E++Rs.drop h).set h (b5.add (V.add g).1 (tI m x))=(Rs.take (h+1)).map E++Rs.drop (h+1):=by
    have j7:((Rs.take h).map E).length=h:=by simp;omega
    rw[Qw,c9,Q3,XQ,List.set_append,if_neg oM,j7,Nat.sub_self,X4 (show h<Rs.length by omega)];have p0:E b5=b5.add (V.add g).1 (tI m x):=by rw[j,hS,<-d9]
    rw[<-p0];rfl
   have j2:=b6 o8 _ f5 o9;rw[fz]at j2;refine⟨rfl,_,oM,h+1,an oM,oM,rfl,?_,I.then ((ai.keep b4).then (f5.mono λe _ g=>?_))⟩
   ·refine bS.same c8 ej (k:=4) (f5.mono λe _ g=>by have g:e=rj:=g;rw[g];exact i9) j2 λh G Y hc=>by
     rcases h with _|_|_|_|_|_|h<;>first|exact hc|exact absurd rfl Y
   ·have g:e=rj:=g;rw[g];exact i9.1
 have j9:(Rs.take h).map E++Rs.drop h=qG V g Rs:=by
  rw[Qz oM,List.drop_eq_nil_of_le oM,List.append_nil,j];rfl
 rw[j9]at u;intro b7 f0;have a2:ai H b7:=f0.keep;have q2:b7.heap.size=H.heap.size:=by rw[f0.heap]
 have k0:=eH.af u a2;have k1:=k0.bG;have p1:¬k w.heap.size:=λj=>by
  rcases o _ j with i|i
  ·have:=T _ i;omega
  ·omega
 have k2:=a2.get (I.get (Q.get h0 id) p1) id;have nD:∀e,D e->¬k e:=λe f j=>by
  rcases o _ j with i|i
  ·exact(R e f).2 i
  ·have:=(R e f).1;omega
 have k3:=((h2.af Q).keep I nD).af a2;have v6:=aV.len (u.at' 2) dC;have v7:aj F w b7:=((a9.af Q).new I λe f=>(o e f).imp id oM).af a2;refine⟨λ_=>False,p,0,rfl,id,_,_,_,ae k1 rfl,aw (bg g J a c) k2 (PC.ok (Ef k3 λe f=>by have:=(R e f).1;omega) ?_)⟩;rintro _ q3 ⟨z,A,B,G,rfl,p2,M,c1⟩;refine⟨_,_,_,_,_,_,_,_,_,_,_,_,rfl,c1,PA.mk λq4 d0 q5 l1=>⟨d0,?_⟩⟩;have f1:=(a2.then c1).then d0;have l2:=eH.af u f1;have q6:=c1.size;have n1:=u.aF;have f2:∀e,aI q.ea=some e->k e/\n e=2:=λe f=>aV.self (u.at' 2) e f;refine fh (c:=fZ) (x:=g) (l2.at' 2) Eg l1 (D:=G) ⟨z,A,B,rfl,p2.af d0,he⟩ (λe f=>⟨by have:=(M e f).2;omega,λee=>by have:=n1 e (f2 e ee).1;have:=(M e f).1;omega⟩) (by unfold aQ;omega) (by unfold maxLen;omega) λa' N r1 F2 f4 f6 p3=>⟨_,_,_,rfl,p,0,rfl,?_⟩
 have r2:=f6.size;obtain⟨t,a3,j8,f7,n5,-⟩:=u.fr ej (k:=2) (G':=F2) (C2:=Bj p q.cells {q with ea:=a',en:=q.en+1,ec:=N} d (V.add g).2 (qG V g Rs) (l++[g]) pts) ((ai.keep f1).then (f6.mono λe _ f=>f2 e f))
  (λe f=>(p3 e f).imp id λv=>v.elim (λv=>by have:=(M e v).1;omega) λv=>oM) f4.aF f4 λh G Y hc=>by
   rcases h with _|_|_|_|_|_|h<;>first|exact hc|exact absurd rfl Y
 refine PS.mk (j8.at' 0).2 sM λd1 f8 u8 n6=>?_;have n7:eH d1 t a3 p {q with ea:=a',en:=q.en+1,ec:=N} d (V.add g).2 (qG V g Rs) (l++[g]) pts:=eH.store j8 f8 n6;have f9:∀e,t e->F e\/w.heap.size<=e:=λe f=>by
  rcases f7.new e f with i|i
  ·exact(o e i).imp id oM
  ·exact .inr oM
 have p4:aj k H d1:=f7.keep.then (f8.mono λe _ ee=>by have ee:e=p:=ee;rw[ee];exact Z.self.1);have p5:aj F w H:=(a9.af Q).new I λe f=>(o e f).imp id oM;have d2:aj F w d1:=p5.new p4 λe f=>(o e f).imp id oM;refine PC.ok (Fk n7 hd (hT.af (g0.new d2 λe f=>.inr (g3 e f))) (by simp;omega) (by unfold qG;rw[Q8];omega) k5 k6) ?_;rintro _ v8 ⟨rfl,q',F4,p6,p7,d3,g1⟩;refine⟨rfl,Ok.mk ⟨rfl,q',F4,p6,?_,d3,d2.new g1.keep f9,λe f=>?_⟩⟩
 ·simpa using p7
 ·rcases g1.new e f with i|i
  ·exact f9 e i
  ·have:=d2.size;exact .inr oM
end
def si(b:ep):∀a,(ng b a).Perm (b::a)
 |[]=>List.Perm.refl _
 |y::a=>by
  unfold ng;split
  ·exact List.Perm.refl _
  ·exact((si b a).cons y).trans (List.Perm.swap b y a)
def yP(a:List ep):(a.foldr ng []).Perm a:=by
 induction a with
 |nil=>exact List.Perm.refl _
 |cons b a c=>exact(si b _).trans (c.cons b)
def zI{d:ep}:∀{b:List ep},vE b->(∀y∈b,y.group≠d.group)->vE (ng d b)
 |[],_,_=>by simp[ng,vE]
 |y::b,f,g=>by
  unfold ng;have e:=List.pairwise_cons.1 f;have i:=g y (QV ..);split
  ·rename_i h
   refine List.pairwise_cons.2 ⟨λc a=>?_,f⟩;rcases Q2.1 a with rfl|a
   ·exact h
   ·have:=e.1 c a;omega
  ·rename_i j
   refine List.pairwise_cons.2 ⟨λc a=>?_,zI e.2 λc a=>g c (QJ _ a)⟩;rcases Q2.1 ((si d b).mem_iff.1 a)with rfl|a
   ·omega
   ·exact e.1 c a
def Gr:∀{a:List ep},(a.map (·.group)).Nodup->vE (a.foldr ng [])
 |[],_=>List.Pairwise.nil
 |x::a,b=>by
  rw[QY,List.nodup_cons]at b;refine zI (Gr b.2) λc d e=>b.1 ?_;rw[<-e];exact Xk.2 ⟨c,(yP a).mem_iff.1 d,rfl⟩
def zJ:∀{c b:List ep},(c.Pairwise λx d=>¬d.group<x.group)->vE b->c.Perm b->c=b
 |[],b,_,_,a=>by have:=a.length_eq;cases b;rfl;simp at this
 |x::c,[],_,_,a=>by have:=a.length_eq;simp at this
 |x::c,d::b,i,j,a=>by
  have f:=List.pairwise_cons.1 i;have g:=List.pairwise_cons.1 j;have k:x=d:=by
   rcases Q2.1 (a.mem_iff.1 (QV ..))with h|h
   ·exact h
   rcases Q2.1 (a.mem_iff.2 (QV ..))with e|e
   ·exact e.symm
   have:=g.1 x h;exact absurd this (f.1 d e)
  subst k;rw[zJ f.2 g.2 a.cons_inv]
section
variable {w w':World} {p r:Nat} {R:ef}
def lO.Wm(c:lO w p r R):((R.rows.map (·.2)).map (·.group)).Nodup:=by
 have b:=c.map.tidy;unfold Tidy at b;rw[List.map_map]at b⊢;have:R.rows.map ((·.group)∘(·.2))=R.rows.map ((·.1)∘λa=>(a.1,ub a.2)):=List.map_congr_left λa d=>(c.ok a d).2;rw[this];exact b
def lO.Ac(a:lO w p r R):vE R.list:=Gr a.Wm
def OZ(h:lO w p r R)(b:R.rows.length<=20000000):Calls ZQ 393 #[ZX p] w (Ok (qD IN 268 w R.list)):=by
 refine yo ⟨p,0,rfl,_,ae h.at' rfl,mapRange SN h.map λw6 P Q s6=>?_⟩;refine⟨λA k l m w'=>∃(left:List (Int×ep)) (c:List ep) (j:Nat->Prop),A=left.length/\dj w' w.heap.size r (Value.int .i64) (R.rows.map λd=>(d.1,ub d.2)) (left.map λd=>(d.1,ub d.2))/\(∀d∈left,ep.Ok d.2)/\
  (c++left.map (·.2)).Perm (R.rows.map (·.2))/\aV IN 268 j w' k l m c/\(∀a,j a->w.heap.size<a)/\ai w w',⟨_,R.rows,[],λ_=>False,rfl,P,λd n=>(h.ok d n).1,List.Perm.refl _,aV.nil _,λa b=>b.elim,Q⟩,?_⟩
 rintro A k l m _ B ⟨left,c,j,rfl,C,E,o,f,g,q⟩;have s:c.length+left.length=R.rows.length:=by have:=o.length_eq;simpa using this
 have b4:=f.len dC;refine nX C (λS=>.inl ⟨rfl,?_⟩) (λa2 a3 l1 l2 t T U V W b5=>.inr ⟨_,_,rfl,ry V ?_⟩)
 ·have X:left=[]:=by simpa using S
  subst X;refine PC.ok (Qe f (by simp at s;omega)) ?_;rintro _ b6 ⟨rfl,Y,u,v,x,Z⟩;have he:Y=R.list:=zJ v h.Ac ((u.trans (by simpa using o)).trans (yP _).symm);subst he;exact⟨rfl,Ok.mk ⟨k,l,m,j,rfl,x,q.new Z λa b=>.inr (by have:=g a (f.self a b);omega),λa b=>by have:=g a b;omega⟩⟩
 ·obtain⟨F,a5,rfl,rfl,n⟩:=List.map_eq_append_iff.1 T
  obtain⟨d,H,rfl,I,rfl⟩:=List.map_eq_cons_iff.1 n;simp only[Prod.mk.injEq]at I;obtain⟨rfl,rfl⟩:=I;have a0:=E d sM;have b7:=q.size;have b3:w.heap.size<B.heap.size:=C.lt;refine⟨_,_,_,_,rfl,PA.mk λb8 J b9 b0=>aD (PM d.2) b0 rfl λc0 L c1 y=>⟨_,_,_,ae y rfl,ae y rfl,ae y rfl,PA.mk λM N c2 b1=>?_⟩⟩;have z:aj (λa=>a=w.heap.size) B M:=((W.af J).new L λa b=>.inr (by have b:a=t.heap.size:=b;omega)).af N;refine fh (c:=IN) (x:=d.2) (f.keep z λa b e=>by have e:a=w.heap.size:=e;have:=g a b;omega) XR b1 (D:=λ_=>False) ⟨rfl,a0⟩ (λa b=>b.elim) (by simp at s;unfold aQ;omega) (by simp at s;unfold maxLen;omega) λa' c' c3 F2 a4 O b2=>⟨_,_,_,rfl,_,?_,F++H,c++[d.2],F2,rfl,?_,λa1 K=>E a1 (by simp at K⊢;rcases K with K|K;exact .inl K;exact .inr (.inr K)),?_,a4,λa b=>?_,?_⟩
  ·simp
  ·have i:dj M w.heap.size r (Value.int .i64) (R.rows.map λd=>(d.1,ub d.2)) ((F++H).map λd=>(d.1,ub d.2)):=by
    rw[Q3];exact((U.af J).keep L (λe=>by have e:w.heap.size=t.heap.size:=e;omega) (λe=>by have e:r=t.heap.size:=e;have:=h.map.lt;omega)).af N
   refine i.keep O (λe=>by have:=g _ (f.self _ e);omega) (λe=>by have:=g _ (f.self _ e);have:=h.map.lt;omega)
  ·refine List.Perm.trans ?_ o
   simp only[Q3,QY,XQ];refine List.Perm.append_left c ?_;rw[List.singleton_append];exact List.perm_middle.symm
  ·rcases b2 a b with i|i|i
   ·exact g a i
   ·exact i.elim
   ·have:=z.size;omega
  ·exact(q.new z λa b=>.inr (by have b:a=w.heap.size:=b;omega)).new O λa b=>.inr (by have:=g a (f.self a b);omega)
end
end Go.Proofs.YtfchlbaidamodaaGreatDoor
namespace Go.ax
open Go
variable{a c i:Nat}{f:Nat->Prop}{R Y:Operand}{d:Option Addr}{h:Program}{j:Type}{A g q:TypeId}{o u:Value->World->Prop}{b:World}
def Bm{bytes:Nat}{e:kM j}(w:jP h g q e.k bytes)(E:OV h q=true){x:List j}(m:aV e q f b d a c x)(S:i<=a)(n:∀l,aV e q f l d i c (x.take i)->aj (λk=>aI d=some k) b l->l.heap.size=b.heap.size->o (.tuple #[]) l):
  aH h (Builtin.clear_ #[g] A #[.slice (cM d i c e.k) (a-i) (c-i)]) b o u:=by
 rcases Nat.lt_or_ge i a with T|U
 rotate_left
 ·obtain rfl:i=a:=oM
  rw[Nat.sub_self];exact aH.mk (w':=b) (v:=.tuple #[]) (by cases cM d i c e.k<;>simp[Builtin.clear_,run_underlying w.under]) (n b (m.take (Q4 _)) (aj.refl _) rfl)
 obtain⟨cs,D,r,F,y⟩:=m.body;have H:=r.length;rcases r.cases with⟨_,V,_,_⟩|⟨z,I,rfl,J,K,B,L⟩
 ·omega
 have s:c<=maxLen:=by
  obtain⟨_,W,_,C,_,_,_,s,_⟩:=r.row.2.resolve_left (by rintro⟨m,_⟩;cases m);simp only[XX]at C;rw[C.2.2];exact s
 have M:i*e.k<=a*e.k:=Q0 _ oM;have X:a*e.k<=c*e.k:=Q0 _ K;rw[f_ (show c≠i by omega),Xz];refine Sl w E J (by rw[B,Nat.sub_mul];omega) λl p N O P Q R=>?_;have t:aj (λk=>aI (some (⟨z,0,none⟩:Addr))=some k) b l:=Q.mono λk _ q=>by rw[q];rfl
 refine n l ⟨⟨cs.take (i*e.k),D,⟨⟨by rw[Qy,H];omega,.inr ⟨z,c,p,rfl,Qj _,N,oM,s,by rw[O,B],?_⟩⟩⟩,(F.keep t λk v=>(y k v).2).take i,y⟩,m.self,λk v=>Qk (m.aF k v) t.size⟩ t R;rw[P,<-L,List.take_take,X2 M]
def TI(k:0<c)(l:a<9223372036854775808):(do eqGuard .quo g R Y (QH (a:Int)) (QH (c:Int));binOp .quo g (QH (a:Int)) (QH (c:Int)):Sem Value).run h b= .ok (QH ((a/c:Nat):Int)) b:=by
 have f:c≠0:=oM
 have d:(a:Int).tdiv (c:Int)=((a/c:Nat):Int):=by rw[Int.tdiv_eq_ediv_of_nonneg oM];rfl
 have i:=Nat.div_le_self a c;generalize a/c=e at d i;have j:IntKind.wrap .i64 (e:Int)=(e:Int):=wrap_i64 (by unfold aN;omega);simp[eqGuard,binOp,Op.intDiv,f,d,j]
end Go.ax
namespace Go.Proofs.YtfchlbaidamodaaGreatDoor
open Go.ax
def dF(f:World)(g:Nat)(h:Nat->Prop)(b:aR)(a:Nat)(c:List ah):Prop:=
 (dd b=0/\0<a/\a<9223372036854775808/\c.length<=20000000)/\∃e d,e.every=a/\eH f h d g e b (cG b c) (eN b c).rows c (kY b a c)
variable{C V e m:Int}{B:List ah}{a c:Nat}{R Y:Operand}{h:Program}{g q:TypeId}{b:World}
def TH{d:aR}(b:0<a)(c:a<9223372036854775808)(e:B.length<=20000000):(kY d a B).length*a<9223372036854775808/\(kY d a B).length<=20000001:=by
 rw[Bl];have f:=Nat.div_le_self B.length a;refine⟨?_,oM⟩;rcases Nat.lt_or_ge B.length a with h|h
 ·rw[Nat.div_eq_of_lt h];omega
 ·have:=Nat.div_mul_le_self B.length a
  rw[X7,Nat.one_mul];omega
section
variable {w w':World} {p:Nat} {F T D:Nat->Prop} {d:aR} {every:Nat} {l:List ah}
def dF.keep(c:dF w p F d every l)(e:aj T w w')(f:∀b,F b->¬T b):dF w' p F d every l:=by
 obtain⟨g,h,a,i,j⟩:=c;exact⟨g,h,a,i,bS.keep j ej e f⟩
def dF.af(a:dF w p F d every l)(b:ai w w'):dF w' p F d every l:=a.keep b λ_ _ a=>a
def dF.aF(b:dF w p F d every l):∀a,F a->a<w.heap.size:=by obtain⟨f,g,c,h,e⟩:=b;exact e.aF
def xE(d:aR)(l:List ah)(e:l.length<=20000000):(cG d l).entries.length<=20000000/\∀a,((ay (cG d l).done a).getD []).length<=20000000:=by
 have b:=λa=>GQ d l (bk.new d) a;refine⟨?_,λa=>?_⟩
 ·have c:(cG d l).entries.length=0+l.length:=(b (0,0,0)).2
  omega
 ·have c:((ay (cG d l).done a).getD []).length<=0+l.length:=(b a).1
  omega
def IG(d:aR)(l:List ah)(a:ah):qG (cG d l) a (eN d l).rows=(eN d (l++[a])).rows:=by
 rw[Lf];unfold qG kL.add;rw[Lg]
def Rp(t:dF w p F d every l)(u:eM b)(v:ai b w)(x:∀e,F e->b.heap.size<=e)(m:l.length+1<=20000000){g:ah}{n:Option Addr}(y:Row aP 8 w D n a g.aK)(z:∀e,D e->e<w.heap.size/\¬F e)(A:g.Ok):
  Calls ZQ 144 #[ZX p,kK g n a c] w (Ok λo w'=>o= .tuple #[]/\∃h,dF w' p h d every (l++[g])/\de F w h w'):=by
 obtain⟨⟨q,i,r,s⟩,M,B,rfl,C⟩:=t;obtain⟨E,H⟩:=xE d l s;obtain⟨I,J⟩:=TH (d:=d) i r s;refine(Rm C q u v x m E (IH d l) I J (H _) y z A).mono ?_;rintro _ w' ⟨o,rfl,rfl,K,h,f,j,k,L⟩;refine Ok.mk ⟨rfl,h,⟨⟨q,i,r,by simpa using m⟩,K,f,k,?_⟩,L⟩;rw[Lh,OU i,<-IG,<-Bl (d:=d)];exact j
def Zp:OV ZQ 219=true:=kR
def OW(a0:dF w p F d every l)(hT:eM b)(g0:ai b w)(c6:∀e,F e->b.heap.size<=e)(hn:a<=l.length):
  Calls ZQ 143 #[ZX p,QH (a:Int)] w (Ok λa1 w'=>a1= .tuple #[]/\∃I,dF w' p I d every (l.take (a/every*every))/\de F w I w'):=by
 obtain⟨⟨r,v,h3,h4⟩,c,j,rfl,i⟩:=a0;have c7:=i.bG;have e2:=i.aF;have c8:=aV.len (i.at' 5) dC;have J:=aV.len (i.at' 2) dC;rw[Bl]at c8;obtain⟨k,x⟩:∃k,k=a/c.every:=⟨_,rfl⟩
 have t:k<=l.length/c.every:=by rw[x];exact Nat.div_le_div_right hn
 have K:k*c.every<=l.length:=Xx (Q0 _ t) (Nat.div_mul_le_self ..);have e3:k<=l.length:=Xx t (Nat.div_le_self ..);rw[<-x];have y:IntKind.wrap .i64 ((k:Int)*(c.every:Int))=((k*c.every:Nat):Int):=by
  rw[show((k:Int)*(c.every:Int))=((k*c.every:Nat):Int) by push_cast;rfl,wrap_i64 (by unfold aN;omega)]
 have c9:IntKind.wrap .i64 ((k:Int)+1)=((k+1:Nat):Int):=an oM;have ec:=aV.jx (i.at' 2);have qc:=aV.jx (i.at' 5);refine sT ⟨p,0,rfl,_,ae c7 rfl,aH.mk (TI v oM) ⟨_,rfl,λL d0=>?_⟩⟩;rw[<-x,c9];simp only[Qx];have M:ai w L:=d0.keep;have z:=eH.af i M;have A:=z.bG;have a2:bS L F j (Bj p c.cells {c with en:=k*c.every} d (cG d l) (eN d l).rows (l.take (k*c.every)) (kY d c.every l)):=z.same ej (k:=2) (aj.refl _) (aV.take (z.at' 2) (show k*c.every<=c.en from J▸K)) λm G n o=>by
  rcases m with _|_|_|_|_|_|m<;>first|exact o|exact absurd rfl n
 refine⟨p,0,rfl,_,_,_,ae A rfl,p,0,rfl,_,ae A rfl,by rw[y];exact Int.natCast_nonneg _,by rw[y];exact Int.ofNat_le.2 (Xx K (J▸ec)),p,0,rfl,?_⟩;rw[y,Qx];refine PS.mk A sM λd1 N e4 O=>?_;have P:eH d1 F j p {c with en:=k*c.every} d (cG d l) (eN d l).rows (l.take (k*c.every)) (kY d c.every l):=eH.store a2 N O;refine⟨p,0,rfl,_,_,_,ae O rfl,oM,by show _<=((c.qn:Nat):Int);omega,?_⟩;have g:∀e,aI c.qa=some e->F e/\j e=5:=λe f=>aV.self (i.at' 5) e f;have a3:¬aI c.qa=some p:=λh=>by have r:=(g p h).2;rw[i.self.2]at r;cases r
 refine Bm Xa Zp (P.at' 5) (by show k+1<=c.qn;omega) λd2 a5 Q e5=>?_;have R:bS d2 F j (Bj p ({c with en:=k*c.every}:xC).cells {c with en:=k*c.every,qn:=k+1} d (cG d l) (eN d l).rows (l.take (k*c.every)) ((kY d c.every l).take (k+1))):=P.same ej (k:=5) (Q.mono λe _ f=>g e f) a5 λm G n o=>by
  rcases m with _|_|_|_|_|_|m<;>first|exact o|exact absurd rfl n
 have S:=(R.at' 0).2;refine⟨p,0,rfl,_,_,_,ae S rfl,oM,by show _<=((c.qc:Nat):Int);omega,p,0,rfl,PS.mk S sM λT U e6 V=>?_⟩;have s:eH T F j p {c with en:=k*c.every,qn:=k+1} d (cG d l) (eN d l).rows (l.take (k*c.every)) ((kY d c.every l).take (k+1)):=eH.store R U V;have B:aj F w T:=(((ai.keep M).then (N.mono λe _ h=>by have h:e=p:=h;rw[h];exact i.self.1)).then (Q.mono λe _ f=>(g e f).1)).then (U.mono λe _ h=>by have h:e=p:=h;rw[h];exact i.self.1);have d3:((kY d c.every l).take (k+1))[k]? =some (eN d (l.take (k*c.every))).rows:=by
  rw[Xw,if_pos oM];exact Rq t
 obtain⟨pb,po,es,d4,e7,e8,W,e9,ra,rn,rc,rfl,d5⟩:=(aV.row (bytes:=32) (s.at' 5) dC (by rw[Qy];unfold aQ;omega)).el k _ d3;have c0:=W 0 dC;have c1:=W 1 dC;refine⟨p,0,rfl,_,_,_,ae V rfl,pb,po,d4,oM,by show(k:Int)<((k+1:Nat):Int);omega,_,_,_,_,c0,c1,PC.ok (Fj s r (hT.af (g0.new B λe f=>.inr (c6 e f))) (by rw[Qy];omega) d5 (λe f=>s.aF e f.1) (by rw[qI];exact(xD (lu r).1).2.2.1)) ?_⟩;rintro _ X ⟨C,Y,Z,c2,Fv,G,rfl,hv,b4,b5,u,b6⟩;have f2:=B.size;obtain⟨F1,e1,d6,f3,b7,-⟩:=s.II ej (k:=3) (w':=X) (G':=Fv) (C2:=Bj p ({c with en:=k*c.every,qn:=k+1}:xC).cells {c with en:=k*c.every,qn:=k+1,vp:=C} d (cG d (l.take (k*c.every))) (eN d l).rows (l.take (k*c.every)) ((kY d c.every l).take (k+1)))
  (ai.keep b6) (λe f E=>by have:=b5 e f;have:=s.aF e E;omega) hv.aF hv λm G n o=>by
   rcases m with _|_|_|_|_|_|m<;>first|exact o|exact absurd rfl n
 obtain⟨F2,b8,b9,f4,d7,-⟩:=d6.II ej (k:=4) (w':=X) (G':=G) (C2:=Bj p ({c with en:=k*c.every,qn:=k+1}:xC).cells {c with en:=k*c.every,qn:=k+1,vp:=C,ra:=Y,rn:=Z,rc:=c2} d (cG d (l.take (k*c.every))) (eN d (l.take (k*c.every))).rows (l.take (k*c.every)) ((kY d c.every l).take (k+1)))
  (aj.refl _) (λe f E=>by
   rcases b7 e E with q|q
   ·have:=(u e f).1;have:=s.aF e q.1;omega
   ·exact absurd q (u e f).2.2) (λe f=>(u e f).2.1) b4 λm G n o=>by
   rcases m with _|_|_|_|_|_|m<;>first|exact o|exact absurd rfl n
 have c3:∀e,F2 e->F e\/w.heap.size<=e:=λe f=>by
  rcases d7 e f with q|q
  ·rcases b7 e q.1 with H|H
   ·exact .inl H.1
   ·exact .inr (by have:=b5 e H;omega)
  ·exact .inr (by have:=(u e q).1;omega)
 have d8:=(b9.at' 0).2;refine⟨_,_,_,_,rfl,p,0,rfl,PS.mk d8 sM λf5 c4 f6 d9=>PS.mk d9 sM λg1 c5 g2 e0=>Ok.mk ⟨rfl,F2,⟨⟨r,v,h3,by rw[Qy];omega⟩,{c with en:=k*c.every,qn:=k+1,vp:=C,ra:=Y,rn:=Z,rc:=c2},b8,rfl,?_⟩,?_,c3⟩⟩
 ·rw[<-OX v t]
  exact eH.store b9 (c4.then c5) e0
 ·exact(B.af b6).then ((c4.then c5).mono λe _ h=>by have h:e=p:=h;rw[h];exact i.self.1)
end
def YE(a:Le h g q):(do eqGuard .eql g R Y (.agg #[QH e,QH m]) (.agg #[QH C,QH V]);binOp .eql g (.agg #[QH e,QH m]) (.agg #[QH C,QH V]):Sem Value).run h b= .ok (.bool (e==C&&m==V)) b:=by
 rw[Sem.run_bind,run_eqGuard_agg b .eql _ R Y _ _ a.hm,Result.andThen_ok,run_eql_struct];have:=a.equalIn 9998 (e,m) (C,V) b;unfold pO at this;rw[this];rfl
section
variable {w w':World} {p:Nat} {F T D:Nat->Prop} {d:aR} {every:Nat} {l l2:List ah}
def IJ(U:dF w p F d every l)(V:eM b)(K:ai b w)(L:∀f,F f->b.heap.size<=f){M:Option Addr}(N:Row fZ 96 w D M a l2)(e1:a<=c)(A:∀f,D f->f<w.heap.size/\¬F f)(e2:l2.length<=20000000)(b2:∀(W:Nat) (i m:ah),l[W]? =some i->l2[W]? =some m->aO i=aO m->i=m):
  Calls ZQ 76 #[ZX p,.slice M a c] w (Ok λb3 w'=>∃B:Int,b3= QH B/\∃j,dF w' p j d every l2/\de F w j w'):=by
 have hn:=N.len;have X:=U;obtain⟨⟨h1,h2,h3,h4⟩,e0,b6,e3,C⟩:=U;have e4:=aV.len (C.at' 2) dC;have e5:=C.aF;refine qJ ⟨λk w'=>∃e:Nat,k=e/\e<=l.length/\e<=l2.length/\l.take e=l2.take e/\ai w w',?_,?_⟩
 ·refine⟨λg k w'=>∃e:Nat,k=e/\e<=l.length/\e<=l2.length/\g=l.length-e/\l.take e=l2.take e/\ai w w',⟨_,0,rfl,Qj _,Qj _,rfl,rfl,aj.refl _⟩,?_⟩
  rintro g _ _ w9 ⟨e,rfl,Y,Z,rfl,o,u⟩;have h9:=eH.af C u;have a4:=h9.bG;refine⟨p,0,rfl,_,_,_,ae a4 rfl,al.dec (λO=>?_) (λa5 c0 E=>⟨e,rfl,Y,Z,o,u.then E.keep⟩)⟩;have a6:e<l.length/\e<l2.length:=by split at O<;>omega
  have n:l[e]? =some l[e]:=Qq a6.1;have H:l2[e]? =some l2[e]:=Qq a6.2;generalize l[e]=i at n;generalize l2[e]=m at H;obtain⟨f,q,es,P,c1,c2,I,ya,yn,yc,rfl,e6,e7⟩:=(N.af u).el e m H;obtain⟨b7,o2,e8,c3,e9,f0,a0,v,x,y,rfl,a7,a1⟩:=(aV.row (bytes:=96) (h9.at' 2) dC (by unfold aQ;omega)).el e i n;have y0:=I 0 dC;have y1:=I 1 dC;have x0:=a0 0 dC;have x1:=a0 1 dC;refine⟨f,q,P,oM,oM,_,_,y0,y1,p,0,rfl,_,_,_,ae a4 rfl,b7,o2,c3,oM,oM,_,_,x0,x1,(m.origin==i.origin&&m.seq==i.seq),λg=>YE NN,λc0 E=>al.mk (λQ=>⟨_,?_,e+1,an oM,oM,oM,rfl,?_,u.then E.keep⟩) (λ_=>⟨e,rfl,Y,Z,o,u.then E.keep⟩)⟩
  ·omega
  ·simp only[QK,beq_iff_eq]at Q
   have c4:=b2 e i m n H (by simp[aO,Q.1,Q.2]);rw[Qw,Qw,o,n,H,c4]
 rintro _ _ f1 ⟨k,rfl,c5,c6,o,r⟩;have c7:=eH.af C r;have b9:=c7.bG;have f2:=r.size;refine⟨λw'=>∃g j,g<=l2.length/\dF w' p j d every (l2.take g)/\de F w j w',⟨p,0,rfl,_,_,_,ae b9 rfl,al.dec (λO=>?_) (λa5=>?_)⟩,?_⟩
 ·refine PC.ok (OW (X.af r) V (K.then r) L c5) ?_
  rintro _ f3 ⟨rfl,j,R,a9⟩;have b0:k/every*every<=k:=Nat.div_mul_le_self ..;refine⟨rfl,_,j,Xx b0 c6,?_,(ai.keep r).then a9.keep,λf h=>(a9.new f h).imp id oM⟩;have:l.take (k/every*every)=l2.take (k/every*every):=by
   have:=congrArg (List.take (k/every*every)) o
   rwa [List.take_take,List.take_take,X2 b0]at this
  rw[<-this];exact R
 ·have c8:k=l.length:=oM
  refine⟨l.length,F,oM,?_,ai.keep r,λf h=>.inl h⟩;rw[c8,List.take_length]at o;rw[<-o];exact X.af r
 rintro _ f4 ⟨g,F1,hm,b1,a2⟩;have c9:=b1;obtain⟨-,q1,f5,f6,b4⟩:=b1;have a3:=aV.len (b4.at' 2) dC;rw[Qy,X2 hm]at a3;have f7:=a2.keep.size;refine⟨p,0,rfl,_,_,_,ae b4.bG rfl,oM,oM,?_⟩;rw[Qx,a3];refine⟨λB t w'=>∃(e:Nat) (j:Nat->Prop),t=e/\e<=a-g/\B=a-g-e/\dF w' p j d every (l2.take (g+e))/\de F w j w',⟨_,0,F1,rfl,Qj _,rfl,c9,a2⟩,?_⟩;rintro B _ _ b5 ⟨e,S,rfl,hj,rfl,T,s⟩;refine al.dec (λO=>?_) (λa5=>?_)
 ·have d0:g+e<l2.length:=oM
  have n:l2[g+e]? =some l2[g+e]:=Qq d0;generalize l2[g+e]=i at n;have d1:=N.keep s.keep λf h=>(A f h).2;obtain⟨f,q,es,P,c1,c2,I,v,x,y,rfl,a7,a1⟩:=d1.el (g+e) i n;have d2:cM M g c 10=some ⟨f,q+g*10,none⟩:=by rw[P];exact f_ oM
  have f8:=s.keep.size;refine⟨f,q+g*10,d2,oM,oM,br (es:=aE i v x y) (k:=10) (bg i v x y) rfl (λt ht=>by rw[Qx];have:=I t ht;rw[show q+g*10+e*10+t=q+(g+e)*fZ.k+t by show _=q+(g+e)*10+t;omega];exact this) (PA.mk λf9 d3 g1 d4=>aD (bg i v x y) d4 rfl λb8 d5 g2 d6=>aw (bg i v x y) d6 ?_)⟩;have J:ai b5 b8:=d3.new d5 λf h=>.inr (by have h:f=b5.heap.size:=h;omega);have a8:de F w S b8:=⟨s.keep.af J,s.new⟩
  have d7:∀f,D f->¬S f:=λf h hf=>by
   rcases s.new f hf with z|z
   ·exact(A f h).2 z
   ·have:=(A f h).1;omega
  refine PC.ok (Rp (T.af J) V (K.new a8.keep λf h=>.inr (L f h)) (λf h=>?_) (by rw[Qy];omega) (a7.af J) (λf h=>⟨by have:=(A f h).1;have:=J.size;omega,d7 f h⟩) a1) ?_
  ·rcases s.new f h with z|z
   ·exact L f z
   ·have:=K.size;omega
  rintro _ g3 ⟨rfl,F3,d8,d9⟩;refine⟨rfl,_,?_,e+1,F3,an oM,oM,rfl,?_,a8.trans d9⟩
  ·omega
  ·rw[show g+(e+1)=g+e+1 by omega,Qw,n];exact d8
 ·rw[Qz oM]at T
  exact Ok.mk ⟨_,rfl,S,T,s⟩
end
section
variable {w w':World} {p:Nat} {F T D:Nat->Prop} {d:aR} {every:Nat} {l l2:List ah}
def Rr{d:aR}{ta pa:Option Addr}{tn tc pn pc:Nat}{ev:Int}(o:dd d=0)(g8:aN ev)(hT:eM w)(q:bh w D d ta tn pa pn)(hD:∀a,D a->a<w.heap.size):
  Calls ZQ 73 #[.agg #[.slice ta tn tc,.slice pa pn pc],QH ev] w (Ok λe2 w'=>∃p F,e2= ZX p/\dF w' p F d (max 1 ev).toNat []/\(∀a,F a->w.heap.size<=a)/\ai w w'):=by
 have g9:=q.bd.len;have X:=q.bd.d_;have h0:=q.Bk.len;have h3:=q.Bk.d_;have e5:d.projs.length<=8:=(xD (lu o).1).2.2.1;obtain⟨every,e6⟩:∃every:Nat,every=(max 1 ev).toNat:=⟨_,rfl⟩
 have e7:(if ev>1 then ev else 1)=(every:Int):=by split<;>omega
 have c0:0<every/\every<9223372036854775808:=by unfold aN at g8;omega
 rw[<-e6];refine Eh ?_;rw[e7];refine PA.mk λw1 k1 s1 g1=>⟨_,_,_,ae g1 rfl,PC.ok (qK (q.Bk.af k1) λa B=>by have:=hD a B;omega) ?_⟩
 rintro _ b ⟨j,h,x,y,rfl,Y,k8,h4⟩;have z8:=k8.size;refine⟨_,_,_,rfl,PA.mk λc1 Z k9 h5=>?_⟩;have e8:ai w c1:=(k1.then k8).then Z;have ga:=Z.get (k8.get g1 id) id;have l0:=Z.size;refine⟨_,_,_,ae ga rfl,λr J w'=>∃c:Nat,J=c/\c<=tn/\r=tn-c/\aj (·=b.heap.size) c1 w'/\∃s t K m,w'.heap[b.heap.size]? =some (.cells #[.slice s t K,.slice j h x,QH (every:Int),.slice none 0 0,.pointer none,.slice none 0 0,.slice none 0 0] 222 (0,0))/\aV lv 130 m w' s t K (d.types.take c)/\∀a,m a->c1.heap.size<=a,
  ⟨_,0,rfl,Qj _,rfl,aj.refl _,none,0,0,λ_=>False,h5,aV.nil _,λ_ q=>q.elim⟩,?_⟩
 rintro r _ _ z ⟨c,rfl,hj,rfl,kk,s,t,K,m,L,u,M⟩;have a7:ai w z:=e8.new kk λa B=>.inr oM;have zk:=kk.size;refine al.dec (λl4=>?_) (λl5=>?_)
 ·have d9:c<d.types.length:=oM
  obtain⟨a,a4,es,ha,B,h6,e9,fa,fn,fc,rfl,a8⟩:=(q.bd.af a7).el c d.types[c] (by simp[d9]);have e0:d.types[c]? =some d.types[c]:=Qq d9;generalize d.types[c]=a0 at a8 e0;have c2:=e9 0 dC;have h7:lv.k=1:=rfl;rw[h7,Nat.mul_one]at c2;refine⟨a,a4,ha,oM,oM,fa,fn,fc,by rw[Qx];exact c2,PA.mk λl6 h8 l7 h9=>PS.mk h9 sM λe1 i0 l8 i1=>⟨_,_,_,ae i1 rfl,?_⟩⟩;have a1:ai z e1:=h8.new i0 λa B=>.inr oM;have f0:=a7.then a1;obtain⟨E,l1,l2,l3⟩:=fv.boxes (N:=Li) a8;have c4:=a8.d_;refine PC.ok (qL (l2.af a1) λa B=>by have:=hD a B;have:=f0.size;omega) ?_;rintro _ e3 ⟨a9,N,f1,F9,rfl,b0,e4,i2⟩;have l9:=a1.size;have m0:=e4.size;have a2:∀a,aI a9=some a->e1.heap.size<=a:=λa B=>i2 a (b0.self a B);have f4:∀a,aI a9=some a->a<e3.heap.size:=λa B=>b0.aF a (b0.self a B);refine⟨_,_,_,rfl,λr J w'=>∃c:Nat,J=c/\c<=N/\r=N-c/\eO Li 123 e3 a9 N f1 E c w',⟨_,0,rfl,Qj _,rfl,eO.start b0.alone⟩,?_⟩;rintro r _ _ i3 ⟨f,rfl,i,rfl,A⟩;have m1:=A.len;have m2:E.length=a0.length:=by rw[<-l1];simp
  have i4:=a8.len;have O:ai z i3:=(a1.then e4).new A.keep λa B=>.inr (by have:=a2 a B;omega);have m3:=A.keep.size;refine al.dec (λf7=>?_) (λf8=>?_)
  ·obtain⟨a3,rfl⟩:=A.some oM
   have f9:=f4 a3 rfl;have a5:E[f]? =some E[f]:=Qq oM;have P:=l3 E[f] (XY oM);generalize E[f]=bx at a5 P;refine⟨a3,0,rfl,oM,oM,_,_,_,A.cell rfl a5 (by show N*4<=aQ;unfold aQ at c4⊢;omega) 3 _ rfl,PC.ok (uh (P.1.af O) λa B=>by have:=hD a B;have:=(a7.then O).size;omega) ?_⟩;rintro _ m4 ⟨m5,m6,m7,G,rfl,c3,i5,l⟩;refine⟨_,_,_,rfl,a3,0,rfl,oM,oM,?_⟩;refine(A.af i5).step (g:=a3) rfl a5 (c3.row (bytes:=32) dC ?_) P.2 (λv H=>⟨by have:=l v H;omega,c3.aF v H⟩) f9 λm8 g2 m9 n0=>⟨_,?_,f+1,an (by unfold aQ at c4;omega),oM,rfl,g2⟩
   ·have g:=P.1.d_
    have n:=P.1.len;show bx.x.bH.length*32<=aQ;have n1:bx.n=bx.x.bH.length:=n;have n2:bx.n*32<=aQ:=g;omega
   ·omega
  ·obtain rfl:f=N:=oM
   obtain⟨Fd,o,c6⟩:=A.done;rw[l1,IK]at o;have c5:=O.get L id;refine⟨b.heap.size,0,rfl,_,_,_,ae c5 rfl,IL (c:=lv) (x:=a0) (u.af O) NO (D:=Fd) ⟨_,_,_,rfl,o.row dC (by rw[<-i4];exact c4)⟩ (λa B=>⟨o.aF a B,λe=>?_⟩) ?_ ?_ λa' Q n3 F' g5 c7 f2 n4=>⟨_,_,_,rfl,b.heap.size,0,rfl,?_⟩⟩
   ·have g:=u.aF a (u.self a e)
    rcases c6 a B with n|n
    ·have:=a2 a n;omega
    ·omega
   ·have:=List.length_take_le c d.types;unfold aQ at X⊢;omega
   ·have:=List.length_take_le c d.types;unfold aQ at X;unfold maxLen;omega
   ·have i6:¬aI s=some b.heap.size:=λe=>by have:=M _ (u.self _ e);omega
    have i7:=c7.get c5 i6;have n5:=c7.size;refine PS.mk i7 sM λn6 f3 n7 i8=>⟨_,?_,c+1,an (by unfold aQ at X;omega),oM,rfl,?_,a',t+1,Q,F',i8,?_,?_⟩
    ·omega
    ·exact((kk.af O).new c7 λa B=>.inr (M _ (u.self a B))).then f3
    ·rw[Qw,e0]
     refine g5.keep f3 λa B e=>?_;rcases f2 a B with g|g|g
     ·have:=M a g;omega
     ·rcases c6 a g with n|n
      ·have:=a2 a n;omega
      ·omega
     ·omega
    ·intro a B
     rcases f2 a B with g|g|g
     ·exact M a g
     ·rcases c6 a g with n|n
      ·have:=a2 a n;omega
      ·omega
     ·omega
 ·obtain rfl:c=tn:=oM
  rw[Qz oM]at u;have h1:=(Y.af Z).keep kk λa B e=>by have:=Y.aF a B;omega
  have n8:b.heap.size<z.heap.size:=aC L;have f5:bh z (λa=>m a\/y a) d s t j h:=⟨(u.row (bytes:=24) dC (by rw[<-g9];exact X)).mono λa B=>.inl B,(h1.row (bytes:=40) dC (by rw[<-h0];exact h3)).mono λa B=>.inr B⟩
  have C:∀a,m a\/y a->w.heap.size<=a/\a<z.heap.size/\a≠b.heap.size:=λa B=>by
   rcases B with B|B
   ·have:=M a B;have:=u.aF a B;omega
   ·have:=h4 a B;have:=Y.aF a B;omega
  refine⟨b.heap.size,0,rfl,_,_,_,_,_,_,ae L rfl,ae L rfl,PC.ok (IM o f5 λa B=>(C a B).2.1) ?_⟩;rintro _ i9 ⟨vp,R,rfl,hv,b1,b2⟩;have o0:=b2.size;have f6:=hv.aF;refine⟨_,rfl,b.heap.size,0,rfl,PS.mk (b2.get L id) sM λS c8 o1 g0=>⟨b.heap.size,0,rfl,_,_,_,ae g0 rfl,?_⟩⟩;have n9:=Y.len dC;have c9:bh S (λa=>m a\/y a) d s t j h:=(f5.af b2).keep c8 λa B e=>(C a B).2.2 e;have h2:cT S vp R (bk.new d):=hv.keep c8 λa B e=>by have e:a=b.heap.size:=e;have:=b1 a B;omega
  refine⟨λr J w'=>∃(c:Nat) (ra:Option Addr) (T rc:Nat) (G:Nat->Prop),J=c/\c<=h/\r=h-c/\aj (·=b.heap.size) S w'/\w'.heap[b.heap.size]? =some (.cells #[.slice s t K,.slice j h x,QH (every:Int),.slice none 0 0,ZX vp,.slice ra T rc,.slice none 0 0] 222 (0,0))/\
   cU w' G ra T rc ((d.projs.take c).map λp=>(⟨p,[]⟩:ef))/\∀a,G a->S.heap.size<=a/\a<w'.heap.size,⟨_,0,none,0,0,λ_=>False,rfl,Qj _,rfl,aj.refl _,g0,cU.nil _,λa B=>B.elim⟩,?_⟩
  rintro r _ _ b3 ⟨f,ra,T,rc,G,rfl,i,rfl,I,d0,b4,l⟩;have o2:=I.size;refine al.dec (λf7=>?_) (λf8=>?_)
  ·have j0:f<d.projs.length:=oM
   have H:d.projs[f]? =some d.projs[f]:=Qq j0;generalize d.projs[f]=v at H;obtain⟨a,a4,es,a6,d5,h6,b5,rfl,d6⟩:=(c9.keep I λa B e=>(C a B).2.2 e).Bk.el f v H;refine⟨a,a4,a6,oM,oM,br (es:=oy v) (k:=5) (qH v) rfl (λa0 ht=>by rw[Qx];exact b5 a0 ht) (PA.mk λo3 j1 o4 j2=>aD (qH v) j2 rfl λo5 j3 o6 j4=>λj5 g3=>⟨λ_=>False,b.heap.size,0,rfl,id,?_⟩)⟩;have d1:ai b3 j5:=(j1.new j3 λa B=>.inr (by have B:a=b3.heap.size:=B;omega)).then g3.keep;refine⟨_,_,_,ae (d1.get d0 id) rfl,aw (qH v) ((g3.keep (S:=λ_=>False)).get j4 id) (PC.ok Rt ?_)⟩;rintro _ o7 ⟨p',r',rfl,d2,o8,o9,p0,p1,d3⟩;have j6:p'≠r':=λe=>by
    obtain⟨es,cl,hm,-⟩:=d2.map.at';have:=d2.at';rw[e,hm]at this;cases this
   have p2:=d3.size;have p3:=d1.size;refine⟨_,rfl,d3,PA.mk λp4 d4 p5 j7=>⟨d4,?_⟩⟩;have b6:=(d1.then d3).then d4;have j8:=b4.len;rw[Q8,Qy,X2 oM]at j8;refine(b4.af b6).push (λa B=>by have:=(l a B).2;omega) (d2.af d4) (λB=>by have:=(l _ B).2;omega) (λB=>by have:=(l _ B).2;omega) j6 Rl j7 (by rw[Q8,Qy];omega) λj9 k0 p6 G3 k2 g4 k3 k4=>⟨_,_,_,rfl,b.heap.size,0,rfl,?_⟩
   have k5:=g4.get (b6.get d0 id) λB=>by have:=(l _ B).1;omega
   have d7:∀a,G3 a->S.heap.size<=a:=λa B=>by
    rcases k3 a B with g|g|g|g
    ·exact(l a g).1
    ·omega
    ·omega
    ·omega
   refine PS.mk k5 sM λp7 g6 p8 k6=>⟨_,?_,f+1,j9,T+1,k0,G3,an oM,oM,rfl,((I.af b6).new g4 λa B=>.inr (l a B).1).then g6,k6,?_,λa B=>⟨d7 a B,by have:=k4 a B;omega⟩⟩
   ·omega
   ·rw[Qw,H,Q3]
    exact k2.keep g6 λa B e=>by have e:a=b.heap.size:=e;have:=d7 a B;omega
  ·rw[Qz oM]at b4
   have k7:∃U,eH b3 (λa=>∃k,(match k with|0=>a=b.heap.size|1=>m a\/y a|3=>R a|4=>G a|_=>False:Prop)) U b.heap.size ⟨s,t,K,j,h,x,every,none,0,0,vp,ra,T,rc,none,0,0⟩ d (cG d []) (eN d []).rows [] []:=by
    refine bS.join (G:=λk a=>match k with|0=>a=b.heap.size|1=>m a\/y a|3=>R a|4=>G a|_=>False) (λk=>?_) (λf c a i hj=>?_) λk a B=>?_
    ·match k with
     |0=>exact⟨rfl,d0⟩
     |1=>exact c9.keep I λa B e=>(C a B).2.2 e
     |2=>exact aV.nil _
     |3=>exact h2.keep I λa B e=>by have e:a=b.heap.size:=e;have:=b1 a B;omega
     |4=>exact b4
     |5=>exact aV.nil _
     |k+6=>trivial
    ·have V:∀f:Nat,(match f with|0=>a=b.heap.size|1=>m a\/y a|3=>R a|4=>G a|_=>False:Prop)->f=(if a=b.heap.size then 0 else if a<z.heap.size then 1 else if a<i9.heap.size then 3 else 4):=λf i=>by
      rcases f with _|_|_|_|_|f
      ·have i:a=b.heap.size:=i
       rw[if_pos i]
      ·have:=C a i;rw[if_neg oM,if_pos oM]
      ·exact i.elim
      ·have:=b1 a i;have:=f6 a i;rw[if_neg oM,if_neg oM,if_pos oM]
      ·have:=l a i;rw[if_neg oM,if_neg oM,if_neg oM]
      ·exact i.elim
     rw[V f i,<-V c hj]
    ·rcases k with _|_|_|_|_|k
     ·have B:a=b.heap.size:=B
      omega
     ·have:=C a B;omega
     ·exact B.elim
     ·have:=f6 a B;omega
     ·have:=l a B;omega
     ·exact B.elim
   obtain⟨U,hq⟩:=k7;have b7:ai w b3:=(((a7.then b2).new c8 λa B=>.inr (by have B:a=b.heap.size:=B;omega)).new I λa B=>.inr (by have B:a=b.heap.size:=B;omega))
   have g7:∀a,(∃k,(match k with|0=>a=b.heap.size|1=>m a\/y a|3=>R a|4=>G a|_=>False:Prop))->w.heap.size<=a:=λa ⟨k,B⟩=>by
    rcases k with _|_|_|_|_|k
    ·have B:a=b.heap.size:=B
     omega
    ·exact(C a B).1
    ·exact B.elim
    ·have:=b1 a B;omega
    ·have:=l a B;omega
    ·exact B.elim
   refine PC.ok (Fk hq o (hT.af b7) sM (by rw[qI];exact e5) sM sM) ?_;rintro _ p9 ⟨rfl,q',F',W,b8,b9,d8⟩;refine⟨rfl,Ok.mk ⟨b.heap.size,F',rfl,⟨⟨o,c0.1,c0.2,sM⟩,q',W,b9,?_⟩,λa B=>?_,b7.new d8.keep λa B=>.inr (g7 a B)⟩⟩
   ·rw[Ru];simpa using b8
   ·rcases d8.new a B with g|g
    ·exact g7 a g
    ·have:=b7.size;omega
end
end Go.Proofs.YtfchlbaidamodaaGreatDoor

import Derived.Test.YtjgjkeponbeekaaGreatDoorKa23
set_option linter.all false
set_option maxHeartbeats 4000000
set_option maxRecDepth 100000
namespace Go.Proofs.YtjgjkeponbeekaaGreatDoor
open Go.ar
structure vD where
 ta:Option Addr
 tn:Nat
 tc:Nat
 pa:Option Addr
 pn:Nat
 pc:Nat
 every:Nat
 ea:Option Addr
 en:Nat
 ec:Nat
 vp:Nat
 ra:Option Addr
 rn:Nat
 rc:Nat
 qa:Option Addr
 qn:Nat
 qc:Nat
abbrev vD.cells(a:vD):Array Value:= #[.slice a.ta a.tn a.tc,.slice a.pa a.pn a.pc,XH (a.every:Int),.slice a.ea a.en a.ec,ZQ a.vp,.slice a.ra a.rn a.rc,.slice a.qa a.qn a.qc]
def zr(d:Nat)(e:Array Value)(a:vD)(f:aM)(g:aU)(h:List de)(i:List aj)(c:List (List de)):Nat->World->(Nat->Prop)->Prop
 |0=>λb G=>G d/\b.heap[d]? =some (.cells e 202 (0,0))
 |1=>λb G=>bb b G f a.ta a.tn a.pa a.pn
 |2=>λb G=>aO jj 63 G b a.ea a.en a.ec i
 |3=>λb G=>b_ b a.vp G g
 |4=>λb G=>cd b G a.ra a.rn a.rc h
 |5=>λb G=>aO WS 199 G b a.qa a.qn a.qc c
 |_=>λ_ _=>True
variable{n:Array Value}{s:Ending->World->Prop}{e:Int}{K:List aj}{g2:List de}{a c:Nat}{d:Option Addr}{b:World}{P:aM}{d3:aU}{o:aj}{d8:iP}
def dh{f:vD}{e:List (List de)}:kV (zr a n f P d3 g2 K e):=by
 intro k g w' G h b c d
 match k,b with
 |0,b=>exact⟨b.1,c.get b.2 (d a b.1)⟩
 |1,b=>exact bb.af b c d
 |2,b=>exact aO.af b c d
 |3,b=>exact b_.af b c d
 |4,b=>exact cd.af b c d
 |5,b=>exact aO.af b c d
 |k+6,b=>trivial
abbrev dz(d:World)(e:Nat->Prop)(a:Nat->Nat)(f:Nat)(c:vD)(g:aM)(h:aU)(i:List de)(j:List aj)(b:List (List de)):Prop:=aT d e a (zr f c.cells c g h i j b)
section
variable {w w':World} {p:Nat} {F T D:Nat->Prop} {cls:Nat->Nat} {q:vD} {d:aM} {V:aU} {Rs:List de} {l:List aj} {pts:List (List de)}
def dz.ah(a:dz w F cls p q d V Rs l pts)(b:ai w w'):dz w' F cls p q d V Rs l pts:=aT.ah a dh b
def dz.bh(a:dz w F cls p q d V Rs l pts):w.heap[p]? =some (.cells q.cells 202 (0,0)):=(a.at' 0).2
def dz.self(a:dz w F cls p q d V Rs l pts):F p/\cls p=0:=(a.at' 0).1
def CR(t:dz w F cls p q d V Rs l pts)(hd:cN d=0)(hT:eA w)(hl:l.length<=20000000){vp:Option Addr}{z:Option Addr}(hr:cd w D z a c g2)(hD:∀b,D b->b<w.heap.size)(hn:g2.length<=8):
  Calls XP 159 #[ZQ p,.agg #[.pointer vp,.slice z a c]] w (Ok λT w'=>∃i z a c g G,T= .agg #[ZQ i,.slice z a c]/\b_ w' i g (cm d l)/\cd w' G z a c g2/\(∀b,g b->w.heap.size<=b)/\(∀b,G b->w.heap.size<=b/\b<w'.heap.size/\¬g b)/\ai w w'):=by
 have U:=t.aB;have g7:=hr.len;refine sB (PA.mk λu k5 s5 g5=>PA.mk λA k6 s6 g6=>?_);have B:=k5.then k6;have c1:∀{k:World},ai w k->Row jj 96 k (λb=>F b/\cls b=2) q.ea q.en l:=λ{k} v=>((show aO jj 63 (λb=>F b/\cls b=2) w q.ea q.en q.ec l from t.at' 2).ah v).row dC (by unfold aK;omega);have o:∀{k:World},ai w k->Calls XP 79 #[.agg #[.slice q.ta q.tn q.tc,.slice q.pa q.pn q.pc],.slice q.ea q.en q.ec] k (Ok λT w'=>∃p F,T= ZQ p/\b_ w' p F (cm d l)/\(∀b,F b->k.heap.size<=b)/\ai k w'):=λ{k} v=>
  Gu hd (hT.ah v) (show bb k (λb=>F b/\cls b=1) d q.ta q.tn q.pa q.pn from bb.af (t.at' 1) v λ_ _ t=>t) (λb e=>by have:=U b e.1;have:=v.size;omega) (c1 v) (λb e=>by have:=U b e.1;have:=v.size;omega) hl
 refine⟨λj oo w'=>oo=0/\∃i g,w'.heap[j]? =some (.cells #[ZQ i,.slice none 0 0] 199 (0,0))/\b_ w' i g (cm d l)/\(∀b,g b->A.heap.size<=b)/\¬g j/\A.heap.size<=j/\ai A w',?_,?_⟩
 ·intro r d9
  have x:ai A r:=d9.af;have s9:r.heap.size=A.heap.size:=by rw[d9.heap]
  have W:=(t.ah (B.then x)).bh;have zp:=U p t.self.1;have nS:¬r.heap.size<=p:=by have:=(B.then x).size;omega
  refine⟨λb=>r.heap.size<=b,p,0,rfl,nS,_,_,_,_,_,_,ae W rfl,ae W rfl,p,0,rfl,nS,_,_,_,ae W rfl,PC.ok (o (B.then x)) ?_,PA.mk λg8 X g9 d3=>⟨ai.af X,PC.ok (o ((B.then x).then X)) ?_⟩⟩
  ·rintro _ K ⟨i,g,rfl,s,C,Y⟩
   refine⟨_,rfl,ai.af Y,PA.mk λd4 Z h0 d5=>⟨ai.af Z,PS.mk d5 sM λh2 d6 h3 d7=>PS.mk d7 sM λd8 e0 h4 e1=>?_⟩⟩;have E:=s.aB;have h5:=Y.size;have h:ak (λb=>b=K.heap.size) d4 d8:=d6.then e0;refine⟨h.mono λb _ f=>by have f:b=K.heap.size:=f;omega,rfl,i,g,e1,(s.ah Z).af h λb e f=>by have f:b=K.heap.size:=f;have:=E b e;omega,λb e=>by have:=C b e;omega,λe=>by have:=E _ e;omega,oM,((x.then Y).then Z).new h λb e=>.inr (by have e:b=K.heap.size:=e;omega)⟩
  ·rintro _ e2 ⟨i,g,rfl,s,C,L⟩
   have e3:=L.get d3 id;have E:=s.aB;have h6:=L.size;refine⟨_,rfl,ai.af L,PS.mk e3 sM λh7 e4 h8 e5=>PS.mk e5 sM λe6 e7 h9 e8=>?_⟩;have h:ak (λb=>b=r.heap.size) e2 e6:=e4.then e7;refine⟨h.mono λb _ f=>by have f:b=r.heap.size:=f;omega,rfl,i,g,e8,s.af h λb e f=>by have f:b=r.heap.size:=f;have:=C b e;omega,λb e=>by have:=C b e;omega,λe=>by have:=C _ e;omega,oM,((x.then X).then L).new h λb e=>.inr (by have e:b=r.heap.size:=e;omega)⟩
 rintro j _ _ M ⟨rfl,i,g,H,s,c4,e9,g4,N⟩;have a5:=B.then N;have i0:=N.size;have a3:j<M.heap.size:=ax H;have E:=s.aB;have c5:=N.get (k6.get g5 id) id;have c6:=N.get g6 id;refine⟨_,_,_,ae c5 rfl,λa2 a4 w'=>∃m:Nat,a4=m/\m<=a/\a2=a-m/\∃O I P G,w'.heap[j]? =some (.cells #[ZQ i,.slice O I P] 199 (0,0))/\cd w' G O I P (g2.take m)/\(∀b,G b->M.heap.size<=b/\b<w'.heap.size)/\ak (·=j) M w',
  ⟨_,0,rfl,Qj _,rfl,none,0,0,λ_=>False,H,cd.nil _,λb e=>e.elim,ak.refl _⟩,?_⟩
 rintro a2 _ _ J ⟨m,rfl,hj,rfl,O,I,P,G,Q,R,n,y⟩;have i1:=y.size;refine al.dec (λi2=>?_) (λi3=>?_)
 ·have f2:m<g2.length:=oM
  have hx:g2[m]? =some g2[m]:=Qq f2;generalize g2[m]=c2 at hx;obtain⟨a7,pj,rj,ha,a0,hR,a8,a9,b0,-,-⟩:=((hr.ah a5).af y λb e f=>by have f:b=j:=f;have:=hD b e;omega).elem hx;have f3:=R.len;rw[Qy,X2 oM]at f3;refine⟨a7,0,ha,oM,oM,_,by rw[Qx];exact a0,λc7 c8=>⟨λ_=>False,id,?_⟩⟩;have b2:ai J c7:=c8.af;have i4:c7.heap.size=J.heap.size:=by rw[c8.heap]
  refine⟨_,_,_,ae (b2.get Q id) rfl,PC.ok (Mj (hR.ah b2)) ?_⟩;rintro _ i5 ⟨p',r',rfl,f5,f6,i6,i7,i8,i9,b3⟩;have j0:=b3.size;refine⟨_,rfl,b3,PA.mk λj1 b4 j2 f8=>⟨b4,?_⟩⟩;have a1:=(b2.then b3).then b4;refine(R.ah a1).push (λb e=>by have:=(n b e).2;omega) (f5.ah b4) (λe=>by have:=(n _ e).2;omega) (λe=>by have:=(n _ e).2;omega) f6 Oi f8 (by rw[Qy];omega) λb1 c3 j3 G3 g0 b5 g1 c9=>⟨_,_,_,rfl,?_⟩
  have j4:=b5.size;have b6:=b5.get (a1.get Q id) λe=>by have:=(n _ e).1;omega
  have a6:∀b,G3 b->M.heap.size<=b:=λb e=>by
   rcases g1 b e with S|S|S|S
   ·exact(n b S).1
   ·omega
   ·omega
   ·omega
  refine PS.mk b6 sM λj5 d0 j6 c0=>⟨_,oM,m+1,aq oM,oM,rfl,b1,I+1,c3,G3,c0,?_,λb e=>⟨a6 b e,by have:=c9 b e;omega⟩,?_⟩
  ·rw[Qw,hx]
   exact g0.af d0 λb e f=>by have f:b=j:=f;have:=a6 b e;omega
  ·exact((y.ah a1).new b5 λb e=>.inr (n b e).1).then d0
 ·rw[Qz oM]at R
  have d1:=y.get c6 λf=>by have f:u.heap.size=j:=f;omega
  refine⟨_,_,_,_,ae Q rfl,ae Q rfl,PS.mk d1 sM λj7 b7 j8 g3=>PS.mk g3 sM λb8 b9 j9 d2=>⟨_,_,_,_,ae d2 rfl,ae d2 rfl,Ok.mk ⟨i,O,I,P,g,G,rfl,?_,?_,λb e=>by have:=c4 b e;omega,λb e=>⟨?_,?_,?_⟩,?_⟩⟩⟩
  ·have h:ak (λb=>b=u.heap.size) J b8:=b7.then b9
   exact(s.af y λb e f=>e9 ((show b=j from f)▸e)).af h λb e f=>by have f:b=u.heap.size:=f;have:=c4 b e;omega
  ·have h:ak (λb=>b=u.heap.size) J b8:=b7.then b9
   exact R.af h λb e f=>by have f:b=u.heap.size:=f;have:=n b e;omega
  ·have:=n b e;omega
  ·have:=n b e;omega
  ·intro hf;have:=n b e;have:=E b hf;omega
  ·have h:ak (λb=>b=u.heap.size) J b8:=b7.then b9
   exact(a5.new y λb e=>.inr (by have e:b=j:=e;omega)).new h λb e=>.inr (by have e:b=u.heap.size:=e;omega)
end
section
variable {w w':World} {p:Nat} {F T D:Nat->Prop} {cls:Nat->Nat} {q:vD} {d:aM} {V:aU} {Rs:List de} {l:List aj} {pts:List (List de)}
def BU{e:Option Addr}{w:World}{D:Nat->Prop}(i:Row aJ 8 w D e a o.aP)(t:∀b,D b->b<w.heap.size):
  Calls XP 186 #[jA o e a c] w (Ok λu w'=>∃e a c G,u=jA o e a c/\Row aJ 8 w' G e a o.aP/\(∀b,G b->w.heap.size<=b/\b<w'.heap.size)/\ai w w'):=by
 have v:=i.dN;have x:=i.len;refine xX (PA.mk λA m B f=>PA.mk λC g E j=>⟨_,_,_,ae (g.get f id) rfl,PC.ok (bC (i.ah (m.then g)) λb d=>by have:=t b d;omega) ?_⟩);rintro _ F ⟨n,p,q,G,rfl,r,h,k⟩;have f:=h.get (g.get f id) id;have j:=h.get j id;refine⟨_,_,_,rfl,PS.mk f (by simp[aC]) λH l I y=>?_⟩;refine au (cs:=aC o n p q) (aV _ _ _ _) y (az (aV _ _ _ _) (l.get j oM) rfl λJ s K z=>au (aV _ _ _ _) z (Ok.mk ⟨n,p,q,G,rfl,?_,?_,?_⟩))
 ·refine(((r.af l λb d=>?_).af s λb d=>?_).row (bytes:=8) dC (by rw[<-x];exact v))
  ·have:=k b d;omega
  ·have:=k b d;omega
 ·intro b d
  have:=k b d;have:=r.aB b d;omega
 ·have L:=h.size
  exact((ak.new ((m.then g).then h) l λb d=>.inr oM).new s λb d=>.inr oM)
def dz.store{b:vD}(a:aT w F cls (zr p q.cells b d V Rs l pts))(e:ak (·=p) w w')(f:w'.heap[p]? =some (.cells n 202 (0,0))):aT w' F cls (zr p n b d V Rs l pts):=by
 refine aT.same a dh (k:=0) (e.mono λj _ g=>g▸(a.at' 0).1) ⟨(a.at' 0).1,f⟩ λc G h i=>?_;rcases c with _|_|_|_|_|_|c<;>first|exact i|exact absurd rfl h
def CS(b:dz w F cls p q d V Rs l pts)(J:cN d=0)(K:eA w)(L:l.length<=20000000)(M:Rs.length<=8)(b2:pts.length*q.every<9223372036854775808)(b3:pts.length<=20000001):
  Calls XP 107 #[ZQ p] w (Ok λN w'=>N= .tuple #[]/\∃u v g,dz w' v g p u d V Rs l (if l.length=pts.length*q.every then pts++[Rs]else pts)/\u.every=q.every/\bK F w v w'):=by
 have k:=b.bh;have O:=aO.len (b.at' 2) dC;have P:=aO.len (b.at' 5) dC;have Q:=b.aB;have R:IntKind.wrap .i64 (((q.qn:Nat):Int)*(q.every:Int))=((pts.length*q.every:Nat):Int):=by
  rw[P,show((pts.length:Nat):Int)*(q.every:Int)=((pts.length*q.every:Nat):Int) by push_cast;rfl,wrap_i64 (by unfold aH;omega)]
 refine sC ⟨p,0,rfl,_,_,_,ae k rfl,p,0,rfl,_,_,_,ae k rfl,p,0,rfl,_,ae k rfl,λS T=>?_⟩;rw[R,O];have m:ai w S:=T.af;refine al.dA (λb4=>?_) (λb5=>Ok.mk ⟨rfl,q,F,cls,?_,rfl,ai.af m,λa c=>.inl c⟩)
 rotate_left
 ·rw[if_neg oM];exact dz.ah b m
 rw[if_pos oM];intro x U;have j:ai w x:=m.then U.af;have f:=dz.ah b j;have n:=f.bh;refine⟨λ_=>False,p,0,rfl,id,_,_,_,ae n rfl,p,0,rfl,_,_,_,_,ae n rfl,ae n rfl,PC.ok (CR f J (K.ah j) L (f.at' 4) (λa c=>f.aB a c.1) M) ?_⟩;rintro _ b6 ⟨b7,a3,n2,c2,Fv,G,rfl,-,W,-,o,r⟩;refine⟨_,_,_,_,rfl,r,PA.mk λb8 s b9 X=>⟨s,?_⟩⟩;have y:=r.then s;have Y:=dz.ah f y;have c1:=j.size;have c3:=r.size;have t:∀a,aF q.qa=some a->F a/\cls a=5:=λa c=>aO.self (b.at' 5) a c;refine eV (c:=WS) (x:=Rs) (Y.at' 5) UB X (D:=G) ⟨_,_,_,_,rfl,W.ah s⟩ (λa c=>⟨by have:=(o a c).2.1;omega,λh=>by have:=Q a (t a h).1;have:=(o a c).1;omega⟩) (by unfold aK;omega) (by unfold maxLen;omega) λz e Z F2 A B b0=>⟨_,_,_,rfl,p,0,rfl,?_⟩
 have a0:¬aF q.qa=some p:=λh=>by have i:=(t p h).2;rw[b.self.2]at i;cases i
 have c4:=B.size;have a1:ak (λa=>F a/\cls a=5) x Z:=(ai.af y).then (B.mono λa _ c=>t a c);obtain⟨F3,a2,C,E,-,-⟩:=f.d_ dh (k:=5) (G':=F2) (C2:=zr p q.cells {q with qa:=z,qn:=q.qn+1,qc:=e} d V Rs l (pts++[Rs])) a1
  (λa c=>(b0 a c).imp id λb=>b.elim (λb=>(o a b).1) λb=>oM) A.aB A λH G hj hc=>by
   rcases H with _|_|_|_|_|_|H<;>first|exact hc|exact absurd rfl hj
 refine PS.mk (C.at' 0).2 sM λc5 I c6 b1=>Ok.mk ⟨rfl,{q with qa:=z,qn:=q.qn+1,qc:=e},F3,a2,dz.store C I b1,rfl,?_,λa c=>?_⟩
 ·refine((ai.af j).then E.af).then (I.mono λa _ h=>h▸b.self.1)
 ·rcases E.new a c with i|i
  ·exact .inl i
  ·exact .inr oM
end
section
variable {w w':World} {p:Nat} {F T D:Nat->Prop} {cls:Nat->Nat} {q:vD} {d:aM} {V:aU} {Rs:List de} {l:List aj} {pts:List (List de)}
def ph(V:aU)(a:aj)(Rs:List de):List de:=Rs.map λb=>b.add (V.add a).1 (rW ((V.add a).2.state a.aS a.agg) b.p)
def Rj{d:aM}(e:cN d=0)(f:d8∈d.projs):0<=d8.Ek:=by
 have b:=(mh e).2.2 d8 f;unfold lv at b;split at b
 ·cases b
 split at b
 ·cases b
 rename_i a
 by_cases c:d8.group=3
 ·rw[c]at a
  simp only[BEq.rfl,Bool.true_and,bne_self_eq_false,Bool.false_and,Bool.or_false,Bool.not_eq_true,Bool.not_eq_false']at a;unfold Rf within at a;simp only[QK,decide_eq_true_eq]at a;exact a.1.1
 ·have g:(d8.group==3)=false:=by simpa using c
  have h:(d8.group !=3)=true:=by simpa using c
  rw[g,h]at a;simp at a;omega
def CT{V:aU}(b:V.OK)(a:aj):((V.state a.aS a.agg).getD Gs).cells.length<=8:=by
 have c:=b.len a;have d:=(zt (mh b.decl).1).2.2.2;have i:(V.decl.at a.aS).length<=8:=by
  unfold aM.at;split
  ·rw[QQ]
   cases e:V.decl.types[a.aS.toNat]? with
   |none=>simp
   |some f=>exact(d f (QZ e)).2
  ·simp
 unfold aU.cellsOf at c;unfold aU.state
 cases g:aE V.dP (a.aS,a.agg)with
 |none=>simp
 |some h=>simp only[g]at c;show h.cells.length<=8;omega
def VP(w a:World)(p:Nat)(F:Nat->Prop)(q:vD)(d:aM)(V:aU)(Rs:List de)(l:List aj)(pts:List (List de))(f:aj)(b g:Nat)(w':World):Prop:=
 g=0/\∃h i j c k,w'.heap[b]? =some (.cells (gG (V.add f).1 h i j).toArray 133 (0,0))/\dz w' c k p q d (V.add f).2 Rs l pts/\(∀e,c e->F e\/a.heap.size<=e)/\ak F a w'/\a.heap.size<=b/\¬c b
def Oj(v:dz w F cls p q d V Rs l pts)(hd:cN d=0)(hT:eA b)(g0:ai b w)(g4:∀e,F e->b.heap.size<=e)(hl:l.length+1<=20000000)(k5:V.entries.length<=20000000)(g5:Rs.map (·.p)=d.projs)(k6:pts.length*q.every<9223372036854775808)(k7:pts.length<=20000001){J:Option Addr}(k8:((aE V.done (o.aS,o.agg,o.field)).getD []).length<=20000000)(hr:Row aJ 8 w D J a o.aP)(R:∀e,D e->e<w.heap.size/\¬F e)(he:o.Ok):
  Calls XP 117 #[ZQ p,jA o J a c] w (Ok λa5 w'=>a5= .tuple #[]/\∃q' S a0,dz w' S a0 p q' d (V.add o).2 (ph V o Rs) (l++[o]) (if l.length+1=pts.length*q.every then pts++[ph V o Rs]else pts)/\q'.every=q.every/\bK F w S w'):=by
 have T:=v.aB;have q8:=T p v.self.1;have q9:Rs.length=d.projs.length:=by rw[<-g5,Q8]
 have r0:d.projs.length<=8:=(zt (mh hd).1).2.2.1;refine tK (PA.mk λe1 b8 r3 g6=>?_);have k9:=dz.ah v b8;refine⟨VP w e1 p F q d V Rs l pts o,?_,?_⟩
 ·intro s g7
  have a6:ai e1 s:=g7.af;have r4:s.heap.size=e1.heap.size:=by rw[g7.heap]
  have e2:=dz.ah k9 a6;have a7:=b8.then a6;have g8:=e2.bh;have a1:∀{r:World},ai s r->Calls XP 124 #[ZQ q.vp,jA o J a c] r (Ok λa5 w'=>∃J a c G,a5=El (V.add o).1 J a c/\Row aJ 8 w' G J a o.aP/\∃S,b_ w' q.vp S (V.add o).2/\bK (λe=>F e/\cls e=3) r S w'/\∀e,G e->r.heap.size<=e/\e<w'.heap.size/\¬S e):=λ{r} U=>
   Gv (show b_ r q.vp (λe=>F e/\cls e=3) V from(dz.ah e2 U).at' 3) (hT.ah (g0.then (a7.then U))) (hr.ah (a7.then U)) (λe f=>⟨by have:=(R e f).1;have:=(a7.then U).size;omega,λi=>(R e f).2 i.1⟩) he k8 k5
  have d_:∀{r w2:World} {t:Nat->Prop},ai s r->b_ w2 q.vp t (V.add o).2->bK (λe=>F e/\cls e=3) r t w2->∃j m,dz w2 j m p q d (V.add o).2 Rs l pts/\(∀e,j e->F e\/t e)/\(∀e,j e->F e\/r.heap.size<=e)/\ak F r w2:=λ{r w2 t} U W y=>by
   obtain⟨j,m,X,K,n,-⟩:=(dz.ah e2 U).gv dh (k:=3) (G':=t) (C2:=zr p q.cells q d (V.add o).2 Rs l pts) y W.aB W λg G Y hc=>by
    rcases g with _|_|_|_|_|_|g<;>first|exact hc|exact absurd rfl Y
   exact⟨j,m,X,λe f=>(n e f).imp (·.1) id,K.new,K.af⟩
  have nS:¬((F p/\cls p=3)\/s.heap.size<=p):=by
   rintro(⟨-,h⟩|h)
   ·rw[v.self.2]at h;cases h
   ·omega
  have b9:¬((F w.heap.size/\cls w.heap.size=3)\/s.heap.size<=w.heap.size):=by
   rintro(⟨h,-⟩|h)
   ·have:=T _ h;omega
   ·omega
  refine⟨λe=>(F e/\cls e=3)\/s.heap.size<=e,p,0,rfl,nS,_,ae g8 rfl,b9,au (aV o J a c) (a6.get g6 id) ⟨PC.ok (a1 (ak.refl _)) ?_,PA.mk λr5 c2 r6 l0=>⟨ai.af c2,PC.ok (a1 c2) ?_⟩⟩⟩
  ·rintro _ e3 ⟨z,A,B,G1,rfl,-,t,W,y,-⟩
   obtain⟨j,m,X,g9,n,kF⟩:=d_ (ak.refl _) W y;have r7:=y.af.size;have h0:=X.aB;refine bN (Ol _ z A B) ⟨rfl,y.af.mono λe _ f=>.inl f,PA.mk λr8 e4 r9 l3=>⟨ai.af e4,az (kW _ z A B) l3 rfl λs0 e5 s1 l4=>⟨e5.mono λe _ o=>.inr (by have o:e=e3.heap.size:=o;omega),rfl,z,A,B,j,m,l4,?_,λe f=>?_,?_,oM,λi=>by have:=h0 _ i;omega⟩⟩⟩
   ·exact aT.af (dz.ah X e4) dh e5 λe f o=>by have o:e=e3.heap.size:=o;have:=h0 e f;omega
   ·rcases n e f with h|h
    ·exact .inl h
    ·exact .inr oM
   ·exact(((ai.af a6).then kF).ah e4).new e5 λe f=>.inr (by have f:e=e3.heap.size:=f;omega)
  ·rintro _ s2 ⟨z,A,B,G1,rfl,-,t,W,y,-⟩
   obtain⟨j,m,X,g9,n,kF⟩:=d_ c2 W y;have s3:=y.af.size;have nf:¬j s.heap.size:=λi=>by
    rcases n _ i with h|h
    ·have:=T _ h;omega
    ·omega
   have l5:=kF.get l0 λi=>by have:=T _ i;omega
   refine bN (Ol _ z A B) ⟨rfl,y.af.mono λe _ f=>.inl f,az (kW _ z A B) l5 rfl λs4 e6 s5 l6=>⟨e6.mono λe _ o=>.inr (by have o:e=s.heap.size:=o;omega),rfl,z,A,B,j,m,l6,?_,λe f=>?_,?_,oM,nf⟩⟩
   ·exact aT.af X dh e6 λe f o=>by have o:e=s.heap.size:=o;exact nf (o▸f)
   ·rcases n e f with h|h
    ·exact .inl h
    ·exact .inr oM
   ·exact(((ai.af a6).then (ai.af c2)).then kF).new e6 λe f=>.inr (by have f:e=s.heap.size:=f;omega)
 rintro xb _ _ L ⟨rfl,xa,xn,xc,j,m,gx,Z,n,c3,s6,l7⟩;have h2:=c3.get g6 λi=>by have:=T _ i;omega
 have h3:=(hr.ah b8).af c3 λe f=>(R e f).2;have a8:=Z.aB;have s7:=c3.size;have xw:=ax gx;have a9:ak F w L:=(ai.af b8).then c3;have p8:ai b L:=g0.new a9 λe f=>.inr (g4 e f);obtain⟨k,hS⟩:∃k,k=(V.add o).2.state o.aS o.agg:=⟨_,rfl⟩
 have s8:(k.getD Gs).cells.length<=8:=by rw[hS];exact CT (show(V.add o).2.OK from(show b_ L q.vp (λe=>j e/\m e=3) (V.add o).2 from Z.at' 3).1) o
 refine⟨λsb so w'=>so=0/\∃sa sn sc G2,w'.heap[sb]? =some (.cells #[XH (k.getD Gs).version,.slice sa sn sc] 49 (0,0))/\Row ei 32 w' G2 sa sn (k.getD Gs).cells/\(∀e,G2 e->L.heap.size<=e/\e<w'.heap.size)/\L.heap.size<=sb/\ai L w',?_,?_⟩
 ·intro C h4
  have c4:ai L C:=h4.af;have s9:C.heap.size=L.heap.size:=by rw[h4.heap]
  have e7:=dz.ah Z c4;have h5:=e7.bh;have d4:=c4.get h2 id;have nS:¬C.heap.size<=p:=by have:=a8 p Z.self.1;omega
  have b9:¬C.heap.size<=w.heap.size:=oM
  refine⟨λe=>C.heap.size<=e,p,0,rfl,nS,_,ae h5 rfl,b9,_,ae d4 rfl,b9,_,ae d4 rfl,PC.ok (nh (e7.at' 3)) ?_,PA.mk λt0 e8 t1 l8=>⟨ai.af e8,PC.ok (nh ((dz.ah e7 e8).at' 3)) ?_⟩⟩
  ·rintro _ c5 ⟨ca,cn,cc,G,rfl,O,M,e9⟩
   have t2:=e9.size;have c6:=O.aB;rw[<-hS]at O⊢;refine⟨_,_,_,_,_,rfl,ai.af e9,PA.mk λl9 f2 t3 m0=>⟨ai.af f2,PS.mk m0 sM λt4 m1 t5 m2=>PS.mk m2 sM λm3 m4 t6 m5=>?_⟩⟩;have P:ak (λe=>e=c5.heap.size) l9 m3:=m1.then m4;refine⟨P.mono λe _ o=>by have o:e=c5.heap.size:=o;omega,rfl,ca,cn,cc,G,m5,((O.ah f2).af P λe f o=>by have o:e=c5.heap.size:=o;have:=c6 e f;omega).row dC (by unfold aK;omega),λe f=>⟨by have:=M e f;omega,by have:=c6 e f;omega⟩,oM,((c4.then e9).then f2).new P λe f=>.inr (by have f:e=c5.heap.size:=f;omega)⟩
  ·rintro _ m6 ⟨ca,cn,cc,G,rfl,O,M,c7⟩
   have t7:=c7.size;have c6:=O.aB;have m7:=c7.get l8 id;rw[<-hS]at O⊢;refine⟨_,_,_,_,_,rfl,ai.af c7,PS.mk m7 sM λt8 m8 t9 m9=>PS.mk m9 sM λn0 n2 u0 n3=>?_⟩;have P:ak (λe=>e=C.heap.size) m6 n0:=m8.then n2;refine⟨P.mono λe _ o=>by have o:e=C.heap.size:=o;omega,rfl,ca,cn,cc,G,n3,(O.af P λe f o=>by have o:e=C.heap.size:=o;have:=M e f;omega).row dC (by unfold aK;omega),λe f=>⟨by have:=M e f;omega,by have:=c6 e f;omega⟩,oM,((c4.then e8).then c7).new P λe f=>.inr (by have f:e=C.heap.size:=f;omega)⟩
 rintro sb _ _ h6 ⟨rfl,sa,sn,sc,G2,gs,n4,n8,u1,Q⟩;have c8:=dz.ah Z Q;have h7:=c8.bh;have u2:=Q.size;have h8:bb h6 (λe=>j e/\m e=1) d q.ta q.tn q.pa q.pn:=c8.at' 1;have p9:=h8.Em.len;have q0:=c8.aB;have h9:=Q.get gx id;obtain⟨E,i⟩:∃E:de->de,E=λx=>x.add (V.add o).1 (rW ((V.add o).2.state o.aS o.agg) x.p):=⟨_,rfl⟩
 have g2:=ax gs;refine⟨p,0,rfl,_,_,_,ae h7 rfl,λd5 b0 w'=>∃g:Nat,b0=g/\g<=q.pn/\d5=q.pn-g/\dz w' j m p q d (V.add o).2 ((Rs.take g).map E++Rs.drop g) l pts/\ak j h6 w',⟨_,0,rfl,Qj _,rfl,by simpa using c8,ak.refl _⟩,?_⟩;rintro d5 _ _ H ⟨g,rfl,Y,rfl,u,I⟩;have u3:=I.size;have d6:=I.get gs λi=>by have:=a8 _ i;omega
 have g3:=n4.af I λe f i=>by have:=a8 _ i;have:=(n8 e f).1;omega
 have i0:=I.get h9 l7;have q1:=u.bh;refine al.dec (λu4=>?_) (λu5=>?_)
 ·have i1:g<d.projs.length:=oM
  have hx:d.projs[g]? =some d.projs[g]:=Qq i1;have i2:d.projs[g]∈d.projs:=XY i1;generalize d.projs[g]=x at hx i2;obtain⟨e,h1,es,b1,i9,j1,b2,rfl,d7⟩:=(show bb H (λe=>j e/\m e=1) d q.ta q.tn q.pa q.pn from u.at' 1).Em.el g x hx;have n9:=Rj hd i2;refine⟨e,h1,b1,oM,oM,bA (es:=ni x) (k:=5) (pk x) rfl (λb0 ht=>by rw[Qx];exact b2 b0 ht) (PA.mk λu6 i3 u7 o0=>az (pk x) o0 rfl λi4 i5 u9 i6=>⟨λj2 w'=>j2=rW k x/\aH (rW k x)/\i4=w',?_,?_⟩)⟩
  ·have b3:ai H i4:=i3.new i5 λe f=>.inr (by have f:e=H.heap.size:=f;omega)
   have d8:=g3.ah b3;have v0:=d8.len;have a4:rW k x=(((k.getD Gs).cells[x.Ek.toNat]?).map (·.n)).getD 0:=by
    cases k<;>rfl
   refine⟨_,ae i6 rfl,_,_,_,ae (b3.get d6 id) rfl,al.dec (λi7=>?_) (λi7=>⟨?_,?_,rfl⟩)⟩
   ·obtain⟨bi,f5⟩:∃bi:Nat,x.Ek=bi:=⟨x.Ek.toNat,oM⟩
    obtain⟨cb,co,v1,v2,v3,o1,v4,v5,o2,-,-,i8,-⟩:=mi d8 (i:=bi) oM;refine⟨_,_,_,ae (b3.get d6 id) rfl,_,ae i6 rfl,cb,co,o1,n9,i7,_,by rw[f5,Qx];exact o2,?_,?_,rfl⟩
    ·rw[a4,f5,Qx,QQ,Qq (show bi<(k.getD Gs).cells.length by omega)];rfl
    ·rw[a4,f5,Qx,Qq (show bi<(k.getD Gs).cells.length by omega)]
     rw[QQ,Qq (show bi<(k.getD Gs).cells.length by omega)]at i8;exact i8
   ·rw[a4,Q7 oM];rfl
   ·rw[a4,Q7 oM];exact Gw
  ·rintro _ _ _ ⟨rfl,j4,rfl⟩ o3 o4
   have b4:ai H o3:=(i3.new i5 λe f=>.inr (by have f:e=H.heap.size:=f;omega)).then o4.af;have c9:=dz.ah u b4;have o5:((Rs.take g).map E++Rs.drop g)[g]? =Rs[g]? :=by
    rw[X8 (by simp;omega)];simp[Qy,X2 (show g<=Rs.length by omega)]
   have d0:Rs[g]? =some Rs[g]:=Qq oM;have d9:Rs[g].p=x:=by
    have:=congrArg (·[g]?) g5;simp only[Q9,d0,hx,Option.map_some,Q1]at this;exact this
   generalize Rs[g]=b5 at d0 d9;obtain⟨rg,pj,rj,o6,o7,hR,j5,v6,j0,-,b6⟩:=cd.elem (c9.at' 4) (o5.trans d0);have o8:=cd.len (c9.at' 4);rw[QX,Q8,Qy,XZ]at o8;have j6:=c9.bh;refine⟨p,0,rfl,_,_,_,ae j6 rfl,rg,0,o6,oM,oM,_,by rw[Qx];exact o7,au (kW _ xa xn xc) (b4.get i0 id) (PC.ok (Om hR j5 (x:=(V.add o).1) he j4) ?_)⟩;rintro _ o9 ⟨rfl,p0,f8⟩;have eX:((Rs.take g).map E++Rs.drop g).set g (b5.add (V.add o).1 (rW k x))=(Rs.take (g+1)).map E++Rs.drop (g+1):=by
    have j7:((Rs.take g).map E).length=g:=by simp;omega
    rw[Qw,d0,Q3,XQ,List.set_append,if_neg oM,j7,Nat.sub_self,X4 (show g<Rs.length by omega)];have p1:E b5=b5.add (V.add o).1 (rW k x):=by rw[i,hS,<-d9]
    rw[<-p1];rfl
   have j3:=b6 o9 _ f8 p0;rw[eX]at j3;refine⟨rfl,_,oM,g+1,aq oM,oM,rfl,?_,I.then ((ai.af b4).then (f8.mono λe _ o=>?_))⟩
   ·refine aT.same c9 dh (k:=4) (f8.mono λe _ o=>by have o:e=rj:=o;rw[o];exact j0) j3 λg G Y hc=>by
     rcases g with _|_|_|_|_|_|g<;>first|exact hc|exact absurd rfl Y
   ·have o:e=rj:=o;rw[o];exact j0.1
 have j8:(Rs.take g).map E++Rs.drop g=ph V o Rs:=by
  rw[Qz oM,List.drop_eq_nil_of_le oM,List.append_nil,i];rfl
 rw[j8]at u;intro b7 e0;have a2:ai H b7:=e0.af;have q2:b7.heap.size=H.heap.size:=by rw[e0.heap]
 have k0:=dz.ah u a2;have k1:=k0.bh;have p2:¬j w.heap.size:=λi=>by
  rcases n _ i with h|h
  ·have:=T _ h;omega
  ·omega
 have k2:=a2.get (I.get (Q.get h2 id) p2) id;have nD:∀e,D e->¬j e:=λe f i=>by
  rcases n _ i with h|h
  ·exact(R e f).2 h
  ·have:=(R e f).1;omega
 have k3:=((h3.ah Q).af I nD).ah a2;have v7:=aO.len (u.at' 2) dC;have v8:ak F w b7:=((a9.ah Q).new I λe f=>(n e f).imp id oM).ah a2;refine⟨λ_=>False,p,0,rfl,id,_,_,_,ae k1 rfl,au (aV o J a c) k2 (PC.ok (BU k3 λe f=>by have:=(R e f).1;omega) ?_)⟩;rintro _ q3 ⟨z,A,B,G,rfl,p3,M,c0⟩;refine⟨_,_,_,_,_,_,_,_,_,_,_,_,rfl,c0,PA.mk λq4 c1 q5 k4=>⟨c1,?_⟩⟩;have f0:=(a2.then c0).then c1;have l1:=dz.ah u f0;have q6:=c0.size;have l2:=u.aB;have f1:∀e,aF q.ea=some e->j e/\m e=2:=λe f=>aO.self (u.at' 2) e f;refine eV (c:=jj) (x:=o) (l1.at' 2) IV k4 (D:=G) ⟨z,A,B,rfl,p3.ah c1,he⟩ (λe f=>⟨by have:=(M e f).2;omega,λee=>by have:=l2 e (f1 e ee).1;have:=(M e f).1;omega⟩) (by unfold aK;omega) (by unfold maxLen;omega) λa' N q7 F2 f3 f4 p4=>⟨_,_,_,rfl,p,0,rfl,?_⟩
 have r1:=f4.size;obtain⟨t,a3,j9,f6,n1,-⟩:=u.d_ dh (k:=2) (G':=F2) (C2:=zr p q.cells {q with ea:=a',en:=q.en+1,ec:=N} d (V.add o).2 (ph V o Rs) (l++[o]) pts) ((ai.af f0).then (f4.mono λe _ f=>f1 e f))
  (λe f=>(p4 e f).imp id λv=>v.elim (λv=>by have:=(M e v).1;omega) λv=>oM) f3.aB f3 λg G Y hc=>by
   rcases g with _|_|_|_|_|_|g<;>first|exact hc|exact absurd rfl Y
 refine PS.mk (j9.at' 0).2 sM λd1 f7 r2 n5=>?_;have n6:dz d1 t a3 p {q with ea:=a',en:=q.en+1,ec:=N} d (V.add o).2 (ph V o Rs) (l++[o]) pts:=dz.store j9 f7 n5;have f9:∀e,t e->F e\/w.heap.size<=e:=λe f=>by
  rcases f6.new e f with h|h
  ·exact(n e h).imp id oM
  ·exact .inr oM
 have n7:ak j H d1:=f6.af.then (f7.mono λe _ ee=>by have ee:e=p:=ee;rw[ee];exact Z.self.1);have p5:ak F w H:=(a9.ah Q).new I λe f=>(n e f).imp id oM;have d2:ak F w d1:=p5.new n7 λe f=>(n e f).imp id oM;refine PC.ok (CS n6 hd (hT.ah (g0.new d2 λe f=>.inr (g4 e f))) (by simp;omega) (by unfold ph;rw[Q8];omega) k6 k7) ?_;rintro _ u8 ⟨rfl,q',F4,p6,p7,d3,g1⟩;refine⟨rfl,Ok.mk ⟨rfl,q',F4,p6,?_,d3,d2.new g1.af f9,λe f=>?_⟩⟩
 ·simpa using p7
 ·rcases g1.new e f with h|h
  ·exact f9 e h
  ·have:=d2.size;exact .inr oM
end
def rN:ft:=⟨[],[],[],[],[(1,⟨[0,0,2,4,8,0,0,64,128,256,544,1040,4095,8191,12287],[32767,32767,32765,32763,32759,32767,32767,32703,32639,32511,32223,31727,32766,28671,22527],[0,0,0,0,1,0,0,0,0,1,0,0,0,0,2]⟩)]⟩
def q_(A:(dr d λB C=>(rI b (ad B (C+2)) λE=>PR_ (eq_ .quo 3 (.tmp 5) (.tmp 9) (.ii e) (.ii E)) b (kI_ λa D=>(∀c,bd D c->(dr d λF H=>(rS c (ad F (H+3)) λG a3 h=>(dr d λI J=>(rI c (ad I (J+2)) λg=>((0:Int)<=(IntKind.wrap .i64 (a*g))/\((IntKind.wrap .i64 (a*g)):Int)<=(h:Int)/\(dr d λK L=>PS c (ad K (L+3)) (.slice G (Int.toNat (IntKind.wrap .i64 (a*g))) h) λi=>(dr d λM N=>(rS i (ad M (N+6)) λO j k=>((0:Int)<=(IntKind.wrap .i64 (a+1))/\((IntKind.wrap .i64 (a+1)):Int)<=(j:Int)/\PR_ (Builtin.clear_ #[200] 0 #[.slice (cG O (Int.toNat (IntKind.wrap .i64 (a+1))) k 2) (j-Int.toNat (IntKind.wrap .i64 (a+1))) (k-Int.toNat (IntKind.wrap .i64 (a+1)))]) i (λa4 l=>(dr d λP Q=>(rS l (ad P (Q+6)) λR a5 m=>((0:Int)<=(IntKind.wrap .i64 (a+1))/\((IntKind.wrap .i64 (a+1)):Int)<=(m:Int)/\(dr d λS T=>PS l (ad S (T+6)) (.slice R (Int.toNat (IntKind.wrap .i64 (a+1))) m) λf=>(dr d λU V=>(rS f (ad U (V+6)) λW X a6=>(ix_ W a X λn o=>(∃p q r t,f.cell? (ad n (o+Int.toNat a*2))=some (.pointer p)/\f.cell? (ad n (o+Int.toNat a*2+1))=some (.slice q r t)/\PC_ 159 #[.pointer d,.agg #[.pointer p,.slice q r t]] f (λY Z=>∃u v w x,Y= .agg #[.pointer u,.slice v w x]/\(dr d λy z=>PS Z (ad y (z+4)) (.pointer u) λa1=>PS a1 (ad y (z+4+1)) (.slice v w x) λa2=>rt s ((.tuple #[])) a2)) (pE s)))))))))) (pV s)))))))))))) (pV s)))):Calls XP 116 #[.pointer d,.ii e] b s:=DC rN Tryz.func116 rfl A
def qE(b:di):∀a,(lY b a).Perm (b::a)
 |[]=>List.Perm.refl _
 |y::a=>by
  unfold lY;split
  ·exact List.Perm.refl _
  ·exact((qE b a).cons y).trans (List.Perm.swap b y a)
def wZ(a:List di):(a.foldr lY []).Perm a:=by
 induction a with
 |nil=>exact List.Perm.refl _
 |cons b a c=>exact(qE b _).trans (c.cons b)
def xK{d:di}:∀{b:List di},tL b->(∀y∈b,y.group≠d.group)->tL (lY d b)
 |[],_,_=>by simp[lY,tL]
 |y::b,f,g=>by
  unfold lY;have e:=List.pairwise_cons.1 f;have i:=g y (QV ..);split
  ·rename_i h
   refine List.pairwise_cons.2 ⟨λc a=>?_,f⟩;rcases Q2.1 a with rfl|a
   ·exact h
   ·have:=e.1 c a;omega
  ·rename_i j
   refine List.pairwise_cons.2 ⟨λc a=>?_,xK e.2 λc a=>g c (QJ _ a)⟩;rcases Q2.1 ((qE d b).mem_iff.1 a)with rfl|a
   ·omega
   ·exact e.1 c a
def DT:∀{a:List di},(a.map (·.group)).Nodup->tL (a.foldr lY [])
 |[],_=>List.Pairwise.nil
 |x::a,b=>by
  rw[QY,List.nodup_cons]at b;refine xK (DT b.2) λc d e=>b.1 ?_;rw[<-e];exact Xk.2 ⟨c,(wZ a).mem_iff.1 d,rfl⟩
def xL:∀{c b:List di},(c.Pairwise λx d=>¬d.group<x.group)->tL b->c.Perm b->c=b
 |[],b,_,_,a=>by have:=a.length_eq;cases b;rfl;simp at this
 |x::c,[],_,_,a=>by have:=a.length_eq;simp at this
 |x::c,d::b,i,j,a=>by
  have f:=List.pairwise_cons.1 i;have g:=List.pairwise_cons.1 j;have k:x=d:=by
   rcases Q2.1 (a.mem_iff.1 (QV ..))with h|h
   ·exact h
   rcases Q2.1 (a.mem_iff.2 (QV ..))with e|e
   ·exact e.symm
   have:=g.1 x h;exact absurd this (f.1 d e)
  subst k;rw[xL f.2 g.2 a.cons_inv]
section
variable {w w':World} {p r:Nat} {R:de}
def kr.Uc(c:kr w p r R):((R.rows.map (·.2)).map (·.group)).Nodup:=by
 have b:=c.map.tidy;unfold Tidy at b;rw[List.map_map]at b⊢;have:R.rows.map ((·.group)∘(·.2))=R.rows.map ((·.1)∘λa=>(a.1,sw a.2)):=List.map_congr_left λa d=>(c.ok a d).2;rw[this];exact b
def kr.UC(a:kr w p r R):tL R.list:=DT a.Uc
def Mq(h:kr w p r R)(b:R.rows.length<=20000000):Calls XP 404 #[ZQ p] w (Ok (py Gt 135 w R.list)):=by
 refine wC ⟨p,0,rfl,_,ae h.at' rfl,mapRange Qg h.map λw6 O P s6=>?_⟩;refine⟨λA k l m w'=>∃(left:List (Int×di)) (c:List di) (j:Nat->Prop),A=left.length/\cA w' w.heap.size r (Value.int .i64) (R.rows.map λd=>(d.1,sw d.2)) (left.map λd=>(d.1,sw d.2))/\(∀d∈left,di.Ok d.2)/\
  (c++left.map (·.2)).Perm (R.rows.map (·.2))/\aO Gt 135 j w' k l m c/\(∀a,j a->w.heap.size<a)/\ai w w',⟨_,R.rows,[],λ_=>False,rfl,O,λd n=>(h.ok d n).1,List.Perm.refl _,aO.nil _,λa b=>b.elim,P⟩,?_⟩
 rintro A k l m _ B ⟨left,c,j,rfl,C,E,o,f,g,q⟩;have s:c.length+left.length=R.rows.length:=by have:=o.length_eq;simpa using this
 have b3:=f.len dC;refine mV C (λQ=>.inl ⟨rfl,?_⟩) (λa3 a4 l1 l2 t S T U V b4=>.inr ⟨_,_,rfl,qj U ?_⟩)
 ·have W:left=[]:=by simpa using Q
  subst W;refine PC.ok (Ny f (by simp at s;omega)) ?_;rintro _ b5 ⟨rfl,X,u,v,x,Y⟩;have Z:X=R.list:=xL v h.UC ((u.trans (by simpa using o)).trans (wZ _).symm);subst Z;exact⟨rfl,Ok.mk ⟨k,l,m,j,rfl,x,q.new Y λa b=>.inr (by have:=g a (f.self a b);omega),λa b=>by have:=g a b;omega⟩⟩
 ·obtain⟨F,a5,rfl,rfl,n⟩:=List.map_eq_append_iff.1 S
  obtain⟨d,H,rfl,I,rfl⟩:=List.map_eq_cons_iff.1 n;simp only[Prod.mk.injEq]at I;obtain⟨rfl,rfl⟩:=I;have a0:=E d sM;have b6:=q.size;have b2:w.heap.size<B.heap.size:=C.lt;refine⟨_,_,_,_,rfl,PA.mk λb7 J b8 a9=>az (Ni d.2) a9 rfl λb9 L c1 y=>⟨_,_,_,ae y rfl,ae y rfl,ae y rfl,PA.mk λvC M c2 b0=>?_⟩⟩;have z:ak (λa=>a=w.heap.size) B vC:=((V.ah J).new L λa b=>.inr (by have b:a=t.heap.size:=b;omega)).ah M;refine eV (c:=Gt) (x:=d.2) (f.af z λa b e=>by have e:a=w.heap.size:=e;have:=g a b;omega) Vn b0 (D:=λ_=>False) ⟨rfl,a0⟩ (λa b=>b.elim) (by simp at s;unfold aK;omega) (by simp at s;unfold maxLen;omega) λa' c' c3 F2 a1 N b1=>⟨_,_,_,rfl,_,?_,F++H,c++[d.2],F2,rfl,?_,λa2 K=>E a2 (by simp at K⊢;rcases K with K|K;exact .inl K;exact .inr (.inr K)),?_,a1,λa b=>?_,?_⟩
  ·simp
  ·have i:cA vC w.heap.size r (Value.int .i64) (R.rows.map λd=>(d.1,sw d.2)) ((F++H).map λd=>(d.1,sw d.2)):=by
    rw[Q3];exact((T.ah J).af L (λe=>by have e:w.heap.size=t.heap.size:=e;omega) (λe=>by have e:r=t.heap.size:=e;have:=h.map.lt;omega)).ah M
   refine i.af N (λe=>by have:=g _ (f.self _ e);omega) (λe=>by have:=g _ (f.self _ e);have:=h.map.lt;omega)
  ·refine List.Perm.trans ?_ o
   simp only[Q3,QY,XQ];refine List.Perm.append_left c ?_;rw[List.singleton_append];exact List.perm_middle.symm
  ·rcases b1 a b with i|i|i
   ·exact g a i
   ·exact i.elim
   ·have:=z.size;omega
  ·exact(q.new z λa b=>.inr (by have b:a=w.heap.size:=b;omega)).new N λa b=>.inr (by have:=g a (f.self a b);omega)
end
end Go.Proofs.YtjgjkeponbeekaaGreatDoor
namespace Go.ar
open Go
variable{a c i:Nat}{f:Nat->Prop}{R W:Operand}{d:Option Addr}{h:Program}{j:Type}{B g q:TypeId}{p u:Value->World->Prop}{b:World}
def zv{bytes:Nat}{e:jo j}(w:jC h g q e.k bytes)(E:Ml h q=true){x:List j}(m:aO e q f b d a c x)(S:i<=a)(n:∀l,aO e q f l d i c (x.take i)->ak (λk=>aF d=some k) b l->l.heap.size=b.heap.size->p (.tuple #[]) l):
  aG h (Builtin.clear_ #[g] B #[.slice (cG d i c e.k) (a-i) (c-i)]) b p u:=by
 rcases Nat.lt_or_ge i a with T|U
 rotate_left
 ·obtain rfl:i=a:=oM
  rw[Nat.sub_self];exact aG.mk (w':=b) (v:=.tuple #[]) (by cases cG d i c e.k<;>simp[Builtin.clear_,run_underlying w.under]) (n b (m.take (Q4 _)) (ak.refl _) rfl)
 obtain⟨cs,D,r,F,y⟩:=m.body;have H:=r.length;rcases r.cases with⟨_,V,_,_⟩|⟨z,I,rfl,J,K,A,L⟩
 ·omega
 have s:c<=maxLen:=by
  obtain⟨_,W,_,C,_,_,_,s,_⟩:=r.row.2.resolve_left (by rintro⟨m,_⟩;cases m);simp only[XX]at C;rw[C.2.2];exact s
 have M:i*e.k<=a*e.k:=Q0 _ oM;have X:a*e.k<=c*e.k:=Q0 _ K;rw[fq (show c≠i by omega),Xz];refine PK w E J (by rw[A,Nat.sub_mul];omega) λl o N O P Q R=>?_;have t:ak (λk=>aF (some (⟨z,0,none⟩:Addr))=some k) b l:=Q.mono λk _ q=>by rw[q];rfl
 refine n l ⟨⟨cs.take (i*e.k),D,⟨⟨by rw[Qy,H];omega,.inr ⟨z,c,o,rfl,Qj _,N,oM,s,by rw[O,A],?_⟩⟩⟩,(F.af t λk v=>(y k v).2).take i,y⟩,m.self,λk v=>Qk (m.aB k v) t.size⟩ t R;rw[P,<-L,List.take_take,X2 M]
def Rl(k:0<c)(l:a<9223372036854775808):(do eqGuard .quo g R W (XH (a:Int)) (XH (c:Int));binOp .quo g (XH (a:Int)) (XH (c:Int)):Sem Value).run h b= .ok (XH ((a/c:Nat):Int)) b:=by
 have f:c≠0:=oM
 have d:(a:Int).tdiv (c:Int)=((a/c:Nat):Int):=by rw[Int.tdiv_eq_ediv_of_nonneg oM];rfl
 have i:=Nat.div_le_self a c;generalize a/c=e at d i;have j:IntKind.wrap .i64 (e:Int)=(e:Int):=wrap_i64 (by unfold aH;omega);simp[eqGuard,binOp,Op.intDiv,f,d,j]
end Go.ar
namespace Go.Proofs.YtjgjkeponbeekaaGreatDoor
open Go.ar
def cO(f:World)(g:Nat)(h:Nat->Prop)(b:aM)(a:Nat)(c:List aj):Prop:=
 (cN b=0/\0<a/\a<9223372036854775808/\c.length<=20000000)/\∃e d,e.every=a/\dz f h d g e b (cm b c) (dE b c).rows c (jH b a c)
variable{s:Ending->World->Prop}{A U e m:Int}{K:List aj}{a c:Nat}{R W:Operand}{d r:Option Addr}{h:Program}{g q:TypeId}{b:World}{o:aj}
def Rk{d:aM}(b:0<a)(c:a<9223372036854775808)(e:K.length<=20000000):(jH d a K).length*a<9223372036854775808/\(jH d a K).length<=20000001:=by
 rw[zu];have f:=Nat.div_le_self K.length a;refine⟨?_,oM⟩;rcases Nat.lt_or_ge K.length a with h|h
 ·rw[Nat.div_eq_of_lt h];omega
 ·have:=Nat.div_mul_le_self K.length a
  rw[X7,Nat.one_mul];omega
section
variable {w w':World} {p:Nat} {F T D:Nat->Prop} {d:aM} {every:Nat} {l:List aj}
def cO.af(c:cO w p F d every l)(e:ak T w w')(f:∀b,F b->¬T b):cO w' p F d every l:=by
 obtain⟨g,h,a,i,j⟩:=c;exact⟨g,h,a,i,aT.af j dh e f⟩
def cO.ah(a:cO w p F d every l)(b:ai w w'):cO w' p F d every l:=a.af b λ_ _ a=>a
def cO.aB(b:cO w p F d every l):∀a,F a->a<w.heap.size:=by obtain⟨f,g,c,h,e⟩:=b;exact e.aB
def vE(d:aM)(l:List aj)(e:l.length<=20000000):(cm d l).entries.length<=20000000/\∀a,((aE (cm d l).done a).getD []).length<=20000000:=by
 have b:=λa=>En d l (aU.new d) a;refine⟨?_,λa=>?_⟩
 ·have c:(cm d l).entries.length=0+l.length:=(b (0,0,0)).2
  omega
 ·have c:((aE (cm d l).done a).getD []).length<=0+l.length:=(b a).1
  omega
def Gx(d:aM)(l:List aj)(a:aj):ph (cm d l) a (dE d l).rows=(dE d (l++[a])).rows:=by
 rw[IW];unfold ph jB.add;rw[IX]
def On(t:cO w p F d every l)(u:eA b)(v:ai b w)(x:∀e,F e->b.heap.size<=e)(k:l.length+1<=20000000){m:Option Addr}(y:Row aJ 8 w D m a o.aP)(z:∀e,D e->e<w.heap.size/\¬F e)(A:o.Ok):
  Calls XP 117 #[ZQ p,jA o m a c] w (Ok λn w'=>n= .tuple #[]/\∃g,cO w' p g d every (l++[o])/\bK F w g w'):=by
 obtain⟨⟨q,h,r,s⟩,M,B,rfl,C⟩:=t;obtain⟨E,H⟩:=vE d l s;obtain⟨I,J⟩:=Rk (d:=d) h r s;refine(Oj C q u v x k E (Gy d l) I J (H _) y z A).mono ?_;rintro _ w' ⟨n,rfl,rfl,K,g,f,i,j,L⟩;refine Ok.mk ⟨rfl,g,⟨⟨q,h,r,by simpa using k⟩,K,f,j,?_⟩,L⟩;rw[IY,Mk h,<-Gx,<-zu (d:=d)];exact i
def W_:Ml XP 199=true:=kR
def Mm(a0:cO w p F d every l)(hT:eA b)(g0:ai b w)(c5:∀e,F e->b.heap.size<=e)(hn:a<=l.length):
  Calls XP 116 #[ZQ p,XH (a:Int)] w (Ok λa1 w'=>a1= .tuple #[]/\∃I,cO w' p I d every (l.take (a/every*every))/\bK F w I w'):=by
 obtain⟨⟨r,v,h3,h4⟩,c,j,rfl,i⟩:=a0;have c6:=i.bh;have e1:=i.aB;have c7:=aO.len (i.at' 5) dC;have J:=aO.len (i.at' 2) dC;rw[zu]at c7;obtain⟨k,x⟩:∃k,k=a/c.every:=⟨_,rfl⟩
 have t:k<=l.length/c.every:=by rw[x];exact Nat.div_le_div_right hn
 have K:k*c.every<=l.length:=Xx (Q0 _ t) (Nat.div_mul_le_self ..);have e2:k<=l.length:=Xx t (Nat.div_le_self ..);rw[<-x];have y:IntKind.wrap .i64 ((k:Int)*(c.every:Int))=((k*c.every:Nat):Int):=by
  rw[show((k:Int)*(c.every:Int))=((k*c.every:Nat):Int) by push_cast;rfl,wrap_i64 (by unfold aH;omega)]
 have c8:IntKind.wrap .i64 ((k:Int)+1)=((k+1:Nat):Int):=aq oM;have ec:=aO.jT (i.at' 2);have qc:=aO.jT (i.at' 5);refine q_ ⟨p,0,rfl,_,ae c6 rfl,aG.mk (Rl v oM) ⟨_,rfl,λL c9=>?_⟩⟩;rw[<-x,c8];simp only[Qx];have M:ai w L:=c9.af;have z:=dz.ah i M;have A:=z.bh;have a2:aT L F j (zr p c.cells {c with en:=k*c.every} d (cm d l) (dE d l).rows (l.take (k*c.every)) (jH d c.every l)):=z.same dh (k:=2) (ak.refl _) (aO.take (z.at' 2) (show k*c.every<=c.en from J▸K)) λm G n o=>by
  rcases m with _|_|_|_|_|_|m<;>first|exact o|exact absurd rfl n
 refine⟨p,0,rfl,_,_,_,ae A rfl,p,0,rfl,_,ae A rfl,by rw[y];exact Int.natCast_nonneg _,by rw[y];exact Int.ofNat_le.2 (Xx K (J▸ec)),p,0,rfl,?_⟩;rw[y,Qx];refine PS.mk A sM λd0 N e3 O=>?_;have P:dz d0 F j p {c with en:=k*c.every} d (cm d l) (dE d l).rows (l.take (k*c.every)) (jH d c.every l):=dz.store a2 N O;refine⟨p,0,rfl,_,_,_,ae O rfl,oM,by show _<=((c.qn:Nat):Int);omega,?_⟩;have g:∀e,aF c.qa=some e->F e/\j e=5:=λe f=>aO.self (i.at' 5) e f;have a3:¬aF c.qa=some p:=λh=>by have r:=(g p h).2;rw[i.self.2]at r;cases r
 refine zv UB W_ (P.at' 5) (by show k+1<=c.qn;omega) λd1 a5 Q e4=>?_;have R:aT d1 F j (zr p ({c with en:=k*c.every}:vD).cells {c with en:=k*c.every,qn:=k+1} d (cm d l) (dE d l).rows (l.take (k*c.every)) ((jH d c.every l).take (k+1))):=P.same dh (k:=5) (Q.mono λe _ f=>g e f) a5 λm G n o=>by
  rcases m with _|_|_|_|_|_|m<;>first|exact o|exact absurd rfl n
 have S:=(R.at' 0).2;refine⟨p,0,rfl,_,_,_,ae S rfl,oM,by show _<=((c.qc:Nat):Int);omega,p,0,rfl,PS.mk S sM λvC T e5 U=>?_⟩;have s:dz vC F j p {c with en:=k*c.every,qn:=k+1} d (cm d l) (dE d l).rows (l.take (k*c.every)) ((jH d c.every l).take (k+1)):=dz.store R T U;have B:ak F w vC:=(((ai.af M).then (N.mono λe _ h=>by have h:e=p:=h;rw[h];exact i.self.1)).then (Q.mono λe _ f=>(g e f).1)).then (T.mono λe _ h=>by have h:e=p:=h;rw[h];exact i.self.1);have d2:((jH d c.every l).take (k+1))[k]? =some (dE d (l.take (k*c.every))).rows:=by
  rw[Xw,if_pos oM];exact Oo t
 obtain⟨pb,po,es,d3,e6,e7,V,e8,ra,rn,rc,rfl,d4⟩:=(aO.row (bytes:=32) (s.at' 5) dC (by rw[Qy];unfold aK;omega)).el k _ d2;have c0:=V 0 dC;have c1:=V 1 dC;refine⟨p,0,rfl,_,_,_,ae U rfl,pb,po,d3,oM,by show(k:Int)<((k+1:Nat):Int);omega,_,_,_,_,c0,c1,PC.ok (CR s r (hT.ah (g0.new B λe f=>.inr (c5 e f))) (by rw[Qy];omega) d4 (λe f=>s.aB e f.1) (by rw[pq];exact(zt (mh r).1).2.2.1)) ?_⟩;rintro _ W ⟨C,X,Y,Z,Fv,G,rfl,hv,b3,b4,u,b5⟩;have e9:=B.size;obtain⟨F1,e0,d5,f2,b6,-⟩:=s.Gz dh (k:=3) (w':=W) (G':=Fv) (C2:=zr p ({c with en:=k*c.every,qn:=k+1}:vD).cells {c with en:=k*c.every,qn:=k+1,vp:=C} d (cm d (l.take (k*c.every))) (dE d l).rows (l.take (k*c.every)) ((jH d c.every l).take (k+1)))
  (ai.af b5) (λe f E=>by have:=b4 e f;have:=s.aB e E;omega) hv.aB hv λm G n o=>by
   rcases m with _|_|_|_|_|_|m<;>first|exact o|exact absurd rfl n
 obtain⟨F2,b7,b8,f3,d6,-⟩:=d5.Gz dh (k:=4) (w':=W) (G':=G) (C2:=zr p ({c with en:=k*c.every,qn:=k+1}:vD).cells {c with en:=k*c.every,qn:=k+1,vp:=C,ra:=X,rn:=Y,rc:=Z} d (cm d (l.take (k*c.every))) (dE d (l.take (k*c.every))).rows (l.take (k*c.every)) ((jH d c.every l).take (k+1)))
  (ak.refl _) (λe f E=>by
   rcases b6 e E with q|q
   ·have:=(u e f).1;have:=s.aB e q.1;omega
   ·exact absurd q (u e f).2.2) (λe f=>(u e f).2.1) b3 λm G n o=>by
   rcases m with _|_|_|_|_|_|m<;>first|exact o|exact absurd rfl n
 have b9:∀e,F2 e->F e\/w.heap.size<=e:=λe f=>by
  rcases d6 e f with q|q
  ·rcases b6 e q.1 with H|H
   ·exact .inl H.1
   ·exact .inr (by have:=b4 e H;omega)
  ·exact .inr (by have:=(u e q).1;omega)
 have d7:=(b8.at' 0).2;refine⟨_,_,_,_,rfl,p,0,rfl,PS.mk d7 sM λf5 c3 f6 d8=>PS.mk d8 sM λf8 c4 g1 d9=>Ok.mk ⟨rfl,F2,⟨⟨r,v,h3,by rw[Qy];omega⟩,{c with en:=k*c.every,qn:=k+1,vp:=C,ra:=X,rn:=Y,rc:=Z},b7,rfl,?_⟩,?_,b9⟩⟩
 ·rw[<-Mn v t]
  exact dz.store b8 (c3.then c4) d9
 ·exact(B.ah b5).then ((c3.then c4).mono λe _ h=>by have h:e=p:=h;rw[h];exact i.self.1)
end
def VQ(a:IZ h g q):(do eqGuard .eql g R W (.agg #[XH e,XH m]) (.agg #[XH A,XH U]);binOp .eql g (.agg #[XH e,XH m]) (.agg #[XH A,XH U]):Sem Value).run h b= .ok (.bool (e==A&&m==U)) b:=by
 rw[Sem.run_bind,run_eqGuard_agg b .eql _ R W _ _ a.hm,Result.andThen_ok,run_eql_struct];have:=a.equalIn 9998 (e,m) (A,U) b;unfold oy at this;rw[this];rfl
section
variable {w w':World} {p:Nat} {F T D:Nat->Prop} {d:aM} {every:Nat} {l l2:List aj}
def GA(U:cO w p F d every l)(V:eA b)(K:ai b w)(L:∀f,F f->b.heap.size<=f){M:Option Addr}(N:Row jj 96 w D M a l2)(e2:a<=c)(A:∀f,D f->f<w.heap.size/\¬F f)(e3:l2.length<=20000000)(b2:∀(W:Nat) (i m:aj),l[W]? =some i->l2[W]? =some m->aW i=aW m->i=m):
  Calls XP 75 #[ZQ p,.slice M a c] w (Ok λb3 w'=>∃B:Int,b3= XH B/\∃j,cO w' p j d every l2/\bK F w j w'):=by
 have hn:=N.len;have X:=U;obtain⟨⟨h1,h2,h3,h4⟩,e0,b6,e4,C⟩:=U;have e5:=aO.len (C.at' 2) dC;have e6:=C.aB;refine pt ⟨λk w'=>∃e:Nat,k=e/\e<=l.length/\e<=l2.length/\l.take e=l2.take e/\ai w w',?_,?_⟩
 ·refine⟨λg k w'=>∃e:Nat,k=e/\e<=l.length/\e<=l2.length/\g=l.length-e/\l.take e=l2.take e/\ai w w',⟨_,0,rfl,Qj _,Qj _,rfl,rfl,ak.refl _⟩,?_⟩
  rintro g _ _ w9 ⟨e,rfl,Y,Z,rfl,o,u⟩;have h9:=dz.ah C u;have a4:=h9.bh;refine⟨p,0,rfl,_,_,_,ae a4 rfl,al.dec (λO=>?_) (λa5 c1 E=>⟨e,rfl,Y,Z,o,u.then E.af⟩)⟩;have a6:e<l.length/\e<l2.length:=by split at O<;>omega
  have n:l[e]? =some l[e]:=Qq a6.1;have H:l2[e]? =some l2[e]:=Qq a6.2;generalize l[e]=i at n;generalize l2[e]=m at H;obtain⟨f,q,es,P,c2,c3,I,ya,yn,yc,rfl,e7,e1⟩:=(N.ah u).el e m H;obtain⟨b7,o2,e8,c4,e9,f0,a0,v,x,y,rfl,a7,a1⟩:=(aO.row (bytes:=96) (h9.at' 2) dC (by unfold aK;omega)).el e i n;have y0:=I 0 dC;have y1:=I 1 dC;have x0:=a0 0 dC;have x1:=a0 1 dC;refine⟨f,q,P,oM,oM,_,_,y0,y1,p,0,rfl,_,_,_,ae a4 rfl,b7,o2,c4,oM,oM,_,_,x0,x1,(m.origin==i.origin&&m.seq==i.seq),λg=>VQ Lj,λc1 E=>al.mk (λQ=>⟨_,?_,e+1,aq oM,oM,oM,rfl,?_,u.then E.af⟩) (λ_=>⟨e,rfl,Y,Z,o,u.then E.af⟩)⟩
  ·omega
  ·simp only[QK,beq_iff_eq]at Q
   have c5:=b2 e i m n H (by simp[aW,Q.1,Q.2]);rw[Qw,Qw,o,n,H,c5]
 rintro _ _ f1 ⟨k,rfl,c6,c7,o,r⟩;have c8:=dz.ah C r;have b9:=c8.bh;have f2:=r.size;refine⟨λw'=>∃g j,g<=l2.length/\cO w' p j d every (l2.take g)/\bK F w j w',⟨p,0,rfl,_,_,_,ae b9 rfl,al.dec (λO=>?_) (λa5=>?_)⟩,?_⟩
 ·refine PC.ok (Mm (X.ah r) V (K.then r) L c6) ?_
  rintro _ f3 ⟨rfl,j,R,a9⟩;have b0:k/every*every<=k:=Nat.div_mul_le_self ..;refine⟨rfl,_,j,Xx b0 c7,?_,(ai.af r).then a9.af,λf h=>(a9.new f h).imp id oM⟩;have:l.take (k/every*every)=l2.take (k/every*every):=by
   have:=congrArg (List.take (k/every*every)) o
   rwa [List.take_take,List.take_take,X2 b0]at this
  rw[<-this];exact R
 ·have c9:k=l.length:=oM
  refine⟨l.length,F,oM,?_,ai.af r,λf h=>.inl h⟩;rw[c9,List.take_length]at o;rw[<-o];exact X.ah r
 rintro _ f5 ⟨g,F1,hm,b1,a2⟩;have c0:=b1;obtain⟨-,q1,f4,f6,b4⟩:=b1;have a3:=aO.len (b4.at' 2) dC;rw[Qy,X2 hm]at a3;have f7:=a2.af.size;refine⟨p,0,rfl,_,_,_,ae b4.bh rfl,oM,oM,?_⟩;rw[Qx,a3];refine⟨λB t w'=>∃(e:Nat) (j:Nat->Prop),t=e/\e<=a-g/\B=a-g-e/\cO w' p j d every (l2.take (g+e))/\bK F w j w',⟨_,0,F1,rfl,Qj _,rfl,c0,a2⟩,?_⟩;rintro B _ _ b5 ⟨e,S,rfl,hj,rfl,T,s⟩;refine al.dec (λO=>?_) (λa5=>?_)
 ·have d0:g+e<l2.length:=oM
  have n:l2[g+e]? =some l2[g+e]:=Qq d0;generalize l2[g+e]=i at n;have d1:=N.af s.af λf h=>(A f h).2;obtain⟨f,q,es,P,c2,c3,I,v,x,y,rfl,a7,a1⟩:=d1.el (g+e) i n;have d2:cG M g c 10=some ⟨f,q+g*10,none⟩:=by rw[P];exact fq oM
  have f8:=s.af.size;refine⟨f,q+g*10,d2,oM,oM,bA (es:=aC i v x y) (k:=10) (aV i v x y) rfl (λt ht=>by rw[Qx];have:=I t ht;rw[show q+g*10+e*10+t=q+(g+e)*jj.k+t by show _=q+(g+e)*10+t;omega];exact this) (PA.mk λg1 d3 g2 d4=>az (aV i v x y) d4 rfl λb8 d5 g3 d6=>au (aV i v x y) d6 ?_)⟩;have J:ai b5 b8:=d3.new d5 λf h=>.inr (by have h:f=b5.heap.size:=h;omega);have a8:bK F w S b8:=⟨s.af.ah J,s.new⟩
  have d7:∀f,D f->¬S f:=λf h hf=>by
   rcases s.new f hf with z|z
   ·exact(A f h).2 z
   ·have:=(A f h).1;omega
  refine PC.ok (On (T.ah J) V (K.new a8.af λf h=>.inr (L f h)) (λf h=>?_) (by rw[Qy];omega) (a7.ah J) (λf h=>⟨by have:=(A f h).1;have:=J.size;omega,d7 f h⟩) a1) ?_
  ·rcases s.new f h with z|z
   ·exact L f z
   ·have:=K.size;omega
  rintro _ g4 ⟨rfl,F3,d8,d9⟩;refine⟨rfl,_,?_,e+1,F3,aq oM,oM,rfl,?_,a8.trans d9⟩
  ·omega
  ·rw[show g+(e+1)=g+e+1 by omega,Qw,n];exact d8
 ·rw[Qz oM]at T
  exact Ok.mk ⟨_,rfl,S,T,s⟩
end
def Ct:ft:=⟨[(3,[(23,XH 0)]),(7,[(32,XH 0)]),(15,[(75,XH 0)])],[],[17],[17],[(17,⟨[0,0,2,4,8,16,0,64,128,416,1023,2047,3071,5119],[16383,16383,16381,16379,16375,16367,16383,16319,16255,16095,16382,15359,14335,11775],[0,0,0,0,0,1,1,2,2,2,0,0,0,2]⟩)]⟩
def BV{A B C D:Nat}(a0:PA b (.cells #[.slice d A B,.slice r C D] 25) λE=>(rS E (ab_ b (0+1)) λa7 a8 a9=>PC_ 103 #[.slice a7 a8 a9] E (kS_ λb0 b1 b2 a=>PA a (.cells #[.slice none 0 0,.slice b0 b1 b2,.ii (if e>1 then e else 1),.slice none 0 0,.pointer none,.slice none 0 0,.slice none 0 0] 202) λF=>(rS F (ab_ b 0) λb3 G g5=>(∃q:Nat->Int->World->Prop,(∃l,q l 0 F)/\∀(l:Nat) (i:Int) (g6:Nat->Value) (c:World),q l i c->al (decide (i<(G:Int))) ((ix_ b3 i G λb4 b5=>(rS c (ad b4 (b5+Int.toNat i)) λb6 b7 b8=>PA c (.cells #[.slice none 0 0] 118) λb9=>PS b9 (ab_ c 0) (.slice b6 b7 b8) λH=>(rS H (ab_ c 0) λc0 c1 c2=>PC_ 104 #[.slice c0 c1 c2] H (kS_ λt m c3 c4=>(∃u:Nat->Int->World->Prop,(∃n,u n 0 c4)/\∀(n:Nat) (f:Int) (g7:Nat->Value) (g:World),u n f g->al (decide (f<(m:Int))) ((ix_ t f m λc5 c6=>(rS g (ad c5 (c6+Int.toNat f*4+3)) λc7 c8 c9=>PC_ 102 #[.slice c7 c8 c9] g (kS_ λd0 d1 d2 d3=>(ix_ t f m λd4 d5=>PS d3 (ad d4 (d5+Int.toNat f*4+3)) (.slice d0 d1 d2) λd6=>(∃I,I<n/\u I (IntKind.wrap .i64 (f+1)) d6))) (pE s)))) ((∃J K,((some (ab_ a 0)):Option Addr)=some ⟨J,K,none⟩/\(rS g (ad J K) λd7 d8 d9=>PA g (.cells #[.slice t m c3] 118) λe0=>PR_ (ap_ 22 (.slice d7 d8 d9) (.slice (some (ab_ g 0)) 1 1)) e0 (kS_ λe1 e2 e3 e4=>(∃L M,((some (ab_ a 0)):Option Addr)=some ⟨L,M,none⟩/\PS e4 (ad L M) (.slice e1 e2 e3) λe5=>(∃N,N<l/\q N (IntKind.wrap .i64 (i+1)) e5))) (pV s)))))) (pE s))))) ((∃v w,((some (ab_ a 0)):Option Addr)=some ⟨v,w,none⟩/\(∃O P Q R S T,c.cell? (ad v w)=some (.slice O P Q)/\c.cell? (ad v (w+1))=some (.slice R S T)/\PC_ 105 #[.agg #[.slice O P Q,.slice R S T]] c (kP λe6 e7=>(∃U V,((some (ab_ a 0)):Option Addr)=some ⟨U,V,none⟩/\PS e7 (ad U (V+4)) (.pointer e6) λW=>(∃X Y,((some (ab_ a 0)):Option Addr)=some ⟨X,Y,none⟩/\(rS W (ad X (Y+1)) λe8 Z g8=>(∃x:Nat->Int->World->Prop,(∃o,x o 0 W)/\∀(o:Nat) (j:Int) (g9:Nat->Value) (h:World),x o j h->al (decide (j<(Z:Int))) ((ix_ e8 j Z λe9 f0=>(Ld 138 (ad e9 (f0+Int.toNat j*5)) h λf1=>PA h (.cells #[.ii 0,.ii 0,.ii 0,.ii 0,.ii 0] 138) λf2=>St 138 (ab_ h 0) f1 f2 λf3=>(∀k,bd f3 k->∃y:Nat->Prop,(∃z a2,((some (ab_ a 0)):Option Addr)=some ⟨z,a2,none⟩/\(¬y z/\(rS k (ad z (a2+4+1)) λf4 f5 f6=>(Ld 138 (ab_ h 0) k λf7=>PC_ 106 #[f7] k (kP λf8 p=>(ak y k p/\PA p (.cells #[.pointer f8] 205) λa3=>(ak y p a3/\PR_ (ap_ 197 (.slice f4 f5 f6) (.slice (some (ab_ p 0)) 1 1)) a3 (kS_ λf9 g0 g1 g2=>(∃a4 a5,((some (ab_ a 0)):Option Addr)=some ⟨a4,a5,none⟩/\PS g2 (ad a4 (a5+4+1)) (.slice f9 g0 g1) λg3=>(∃a6,a6<o/\x a6 (IntKind.wrap .i64 (j+1)) g3))) (pY s)))) (pZ s))))))))) (PC_ 107 #[.pointer (some (ab_ a 0))] h (k0_ λg4=>rt s ((.pointer (some (ab_ a 0)))) g4) (pE s))))))) (pE s))))))) (pE s))):Calls XP 72 #[.agg #[.slice d A B,.slice r C D],.ii e] b s:=DC Ct Tryz.func72 rfl a0
end Go.Proofs.YtjgjkeponbeekaaGreatDoor

import Derived.Test.YthnilpgpacdmnaaGreatDoorK23
namespace Go.Proofs.YthnilpgpacdmnaaGreatDoor
open Go.au
set_option linter.unusedVariables false
set_option maxRecDepth 20000
structure uW where
 ta:Option Addr
 tn:Nat
 tc:Nat
 pa:Option Addr
 pn:Nat
 pc:Nat
 every:Nat
 ea:Option Addr
 en:Nat
 ec:Nat
 vp:Nat
 ra:Option Addr
 rn:Nat
 rc:Nat
 qa:Option Addr
 qn:Nat
 qc:Nat
abbrev uW.cells (a:uW):Array Value:= #[.slice a.ta a.tn a.tc,.slice a.pa a.pn a.pc,.int .i64 (a.every:Int),.slice a.ea a.en a.ec,.pointer (some ⟨a.vp,0,none⟩),.slice a.ra a.rn a.rc,.slice a.qa a.qn a.qc]
def yE (d:Nat) (e:Array Value) (a:uW) (f:aM) (g:aU) (h:List dh) (i:List aj) (c:List (List dh)):Nat->World->(Nat->Prop)->Prop
 |0=>λb G=>G d/\b.heap[d]? =some (.cells e 194 (0,0))
 |1=>λb G=>aW b G f a.ta a.tn a.pa a.pn
 |2=>λb G=>aO f_ 60 G b a.ea a.en a.ec i
 |3=>λb G=>cd b a.vp G g
 |4=>λb G=>cf b G a.ra a.rn a.rc h
 |5=>λb G=>aO Vu 191 G b a.qa a.qn a.qc c
 |_=>λ_ _=>True
variable{r:Array Value}{t:Ending->World->Prop}{e:Int}{H:List aj}{g5:List dh}{a c:Nat}{d:Option Addr}{b:World}{J:aM}{d3:aU}{m:aj}{d9:iw}
theorem dq {f:uW} {e:List (List dh)}:te (yE a r f J d3 g5 H e):=by
 intro k g w' G h b c d
 match k,b with
 |0,b=>exact⟨b.1,c.get b.2 (d a b.1)⟩
 |1,b=>exact aW.af b c d
 |2,b=>exact aO.af b c d
 |3,b=>exact cd.af b c d
 |4,b=>exact cf.af b c d
 |5,b=>exact aO.af b c d
 |k+6,b=>trivial
abbrev dB (d:World) (e:Nat->Prop) (a:Nat->Nat) (f:Nat) (c:uW) (g:aM) (h:aU) (i:List dh) (j:List aj) (b:List (List dh)):Prop:=bt d e a (yE f c.cells c g h i j b)
section
variable {w w':World} {p:Nat} {F T D:Nat->Prop} {cls:Nat->Nat} {q:uW} {d:aM} {V:aU} {Rs:List dh} {l:List aj} {pts:List (List dh)}
theorem dB.ah (a:dB w F cls p q d V Rs l pts) (b:ai w w'):dB w' F cls p q d V Rs l pts:=bt.ah a dq b
theorem dB.bg (a:dB w F cls p q d V Rs l pts):w.heap[p]? =some (.cells q.cells 194 (0,0)):=(a.at' 0).2
theorem dB.self (a:dB w F cls p q d V Rs l pts):F p/\cls p=0:=(a.at' 0).1
theorem Ct (t:dB w F cls p q d V Rs l pts) (hd:cO d=0) (hT:eu w) (hl:l.length<=20000000) {vp:Option Addr} {z:Option Addr} (hr:cf w D z a c g5) (hD:∀b,D b->b<w.heap.size) (hn:g5.length<=8):
  Calls Tryz.prog 163 #[.pointer (some ⟨p,0,none⟩),.agg #[.pointer vp,.slice z a c]] w (Ok λT w'=>∃i z a c g G,T= .agg #[.pointer (some ⟨i,0,none⟩),.slice z a c]/\cd w' i g (cg d l)/\cf w' G z a c g5/\(∀b,g b->w.heap.size<=b)/\(∀b,G b->w.heap.size<=b/\b<w'.heap.size/\¬g b)/\ai w w'):=by
 have U:=t.aC;have h0:=hr.len;refine rO (PA.mk λu k5 s5 a3=>PA.mk λA k6 s6 g6=>?_);have B:=k5.then k6;have c0:∀{k:World},ai w k->Row f_ 96 k (λb=>F b/\cls b=2) q.ea q.en l:=λ{k} v=>((show aO f_ 60 (λb=>F b/\cls b=2) w q.ea q.en q.ec l from t.at' 2).ah v).row dC (by unfold aI;omega);have o:∀{k:World},ai w k->Calls Tryz.prog 39 #[.agg #[.slice q.ta q.tn q.tc,.slice q.pa q.pn q.pc],.slice q.ea q.en q.ec] k (Ok λT w'=>∃p F,T= .pointer (some ⟨p,0,none⟩)/\cd w' p F (cg d l)/\(∀b,F b->k.heap.size<=b)/\ai k w'):=λ{k} v=>
  FJ hd (hT.ah v) (show aW k (λb=>F b/\cls b=1) d q.ta q.tn q.pa q.pn from aW.af (t.at' 1) v λ_ _ t=>t) (λb e=>by have:=U b e.1;have:=v.size;omega) (c0 v) (λb e=>by have:=U b e.1;have:=v.size;omega) hl
 refine⟨λj oo w'=>oo=0/\∃i g,w'.heap[j]? =some (.cells #[.pointer (some ⟨i,0,none⟩),.slice none 0 0] 191 (0,0))/\cd w' i g (cg d l)/\(∀b,g b->A.heap.size<=b)/\¬g j/\A.heap.size<=j/\ai A w',?_,?_⟩
 ·intro r d9
  have x:ai A r:=d9.af;have s9:r.heap.size=A.heap.size:=by rw [d9.heap]
  have W:=(t.ah (B.then x)).bg;have zp:=U p t.self.1;have nS:¬r.heap.size<=p:=by have:=(B.then x).size;omega
  refine⟨λb=>r.heap.size<=b,p,0,rfl,nS,_,_,_,_,_,_,ae W rfl,ae W rfl,p,0,rfl,nS,_,_,_,ae W rfl,PC.ok (o (B.then x)) ?_,PA.mk λh2 X h3 d2=>⟨ai.af X,PC.ok (o ((B.then x).then X)) ?_⟩⟩
  ·rintro _ K ⟨i,g,rfl,s,C,Y⟩
   refine⟨_,rfl,ai.af Y,PA.mk λd3 Z h4 d4=>⟨ai.af Z,PS.mk d4 sM λh5 d5 h6 d6=>PS.mk d6 sM λd7 d8 h7 e0=>?_⟩⟩;have E:=s.aC;have h8:=Y.size;have h:ak (λb=>b=K.heap.size) d3 d7:=d5.then d8;refine⟨h.mono λb _ f=>by have f:b=K.heap.size:=f;omega,rfl,i,g,e0,(s.ah Z).af h λb e f=>by have f:b=K.heap.size:=f;have:=E b e;omega,λb e=>by have:=C b e;omega,λe=>by have:=E _ e;omega,oM,((x.then Y).then Z).new h λb e=>.inr (by have e:b=K.heap.size:=e;omega)⟩
  ·rintro _ e1 ⟨i,g,rfl,s,C,L⟩
   have e2:=L.get d2 id;have E:=s.aC;have h9:=L.size;refine⟨_,rfl,ai.af L,PS.mk e2 sM λi0 e3 i1 e4=>PS.mk e4 sM λe5 e6 i2 e7=>?_⟩;have h:ak (λb=>b=r.heap.size) e1 e5:=e3.then e6;refine⟨h.mono λb _ f=>by have f:b=r.heap.size:=f;omega,rfl,i,g,e7,s.af h λb e f=>by have f:b=r.heap.size:=f;have:=C b e;omega,λb e=>by have:=C b e;omega,λe=>by have:=C _ e;omega,oM,((x.then X).then L).new h λb e=>.inr (by have e:b=r.heap.size:=e;omega)⟩
 rintro j _ _ M ⟨rfl,i,g,H,s,c1,e8,g9,N⟩;have a5:=B.then N;have i3:=N.size;have a4:j<M.heap.size:=ay H;have E:=s.aC;have c4:=N.get (k6.get a3 id) id;have c5:=N.get g6 id;refine⟨_,_,_,ae c4 rfl,λa2 a7 w'=>∃m:Nat,a7=m/\m<=a/\a2=a-m/\∃O I P G,w'.heap[j]? =some (.cells #[.pointer (some ⟨i,0,none⟩),.slice O I P] 191 (0,0))/\cf w' G O I P (g5.take m)/\(∀b,G b->M.heap.size<=b/\b<w'.heap.size)/\ak (·=j) M w',
  ⟨_,0,rfl,Qj _,rfl,none,0,0,λ_=>False,H,cf.nil _,λb e=>e.elim,ak.refl _⟩,?_⟩
 rintro a2 _ _ J ⟨m,rfl,hj,rfl,O,I,P,G,Q,R,n,y⟩;have i4:=y.size;refine al.dec (λi5=>?_) (λi6=>?_)
 ·have e9:m<g5.length:=oM
  have hx:g5[m]? =some g5[m]:=Qq e9;generalize g5[m]=f0 at hx;obtain⟨a8,pj,rj,ha,a0,hR,a9,b0,b1,-,-⟩:=((hr.ah a5).af y λb e f=>by have f:b=j:=f;have:=hD b e;omega).elem hx;have f2:=R.len;rw [Qy,X2 oM]at f2;refine⟨a8,0,ha,oM,oM,_,by rw [Qx];exact a0,λc6 c7=>⟨λ_=>False,id,?_⟩⟩;have b2:ai J c6:=c7.af;have i7:c6.heap.size=J.heap.size:=by rw [c7.heap]
  refine⟨_,_,_,ae (b2.get Q id) rfl,PC.ok (Ll (hR.ah b2)) ?_⟩;rintro _ i8 ⟨p',r',rfl,g0,g1,i9,j0,j1,j2,b3⟩;have j3:=b3.size;refine⟨_,rfl,b3,PA.mk λj4 b4 j5 g2=>⟨b4,?_⟩⟩;have a1:=(b2.then b3).then b4;refine(R.ah a1).push (λb e=>by have:=(n b e).2;omega) (g0.ah b4) (λe=>by have:=(n _ e).2;omega) (λe=>by have:=(n _ e).2;omega) g1 Nf g2 (by rw [Qy];omega) λb6 c3 j6 G3 g3 b5 g4 c8=>⟨_,_,_,rfl,?_⟩
  have j7:=b5.size;have c2:=b5.get (a1.get Q id) λe=>by have:=(n _ e).1;omega
  have a6:∀b,G3 b->M.heap.size<=b:=λb e=>by
   rcases g4 b e with S|S|S|S
   ·exact(n b S).1
   ·omega
   ·omega
   ·omega
  refine PS.mk c2 sM λj8 c9 j9 g7=>⟨_,oM,m+1,aq oM,oM,rfl,b6,I+1,c3,G3,g7,?_,λb e=>⟨a6 b e,by have:=c8 b e;omega⟩,?_⟩
  ·rw [Qw,hx]
   exact g3.af c9 λb e f=>by have f:b=j:=f;have:=a6 b e;omega
  ·exact((y.ah a1).new b5 λb e=>.inr (n b e).1).then c9
 ·rw [Qz oM]at R
  have d0:=y.get c5 λf=>by have f:u.heap.size=j:=f;omega
  refine⟨_,_,_,_,ae Q rfl,ae Q rfl,PS.mk d0 sM λk0 b7 k1 g8=>PS.mk g8 sM λb8 b9 k2 d1=>⟨_,_,_,_,ae d1 rfl,ae d1 rfl,Ok.mk ⟨i,O,I,P,g,G,rfl,?_,?_,λb e=>by have:=c1 b e;omega,λb e=>⟨?_,?_,?_⟩,?_⟩⟩⟩
  ·have h:ak (λb=>b=u.heap.size) J b8:=b7.then b9
   exact(s.af y λb e f=>e8 ((show b=j from f)▸e)).af h λb e f=>by have f:b=u.heap.size:=f;have:=c1 b e;omega
  ·have h:ak (λb=>b=u.heap.size) J b8:=b7.then b9
   exact R.af h λb e f=>by have f:b=u.heap.size:=f;have:=n b e;omega
  ·have:=n b e;omega
  ·have:=n b e;omega
  ·intro hf;have:=n b e;have:=E b hf;omega
  ·have h:ak (λb=>b=u.heap.size) J b8:=b7.then b9
   exact(a5.new y λb e=>.inr (by have e:b=j:=e;omega)).new h λb e=>.inr (by have e:b=u.heap.size:=e;omega)
end
section
variable {w w':World} {p:Nat} {F T D:Nat->Prop} {cls:Nat->Nat} {q:uW} {d:aM} {V:aU} {Rs:List dh} {l:List aj} {pts:List (List dh)}
theorem Bs {e:Option Addr} {w:World} {D:Nat->Prop} (i:Row aG 8 w D e a m.aN) (t:∀b,D b->b<w.heap.size):
  Calls Tryz.prog 188 #[ji m e a c] w (Ok λu w'=>∃e a c G,u=ji m e a c/\Row aG 8 w' G e a m.aN/\(∀b,G b->w.heap.size<=b/\b<w'.heap.size)/\ai w w'):=by
 have v:=i.dt;have x:=i.len;refine xr (PA.mk λA n B f=>PA.mk λC g E j=>⟨_,_,_,ae (g.get f id) rfl,PC.ok (bP (i.ah (n.then g)) λb d=>by have:=t b d;omega) ?_⟩);rintro _ F ⟨o,p,q,G,rfl,r,h,k⟩;have f:=h.get (g.get f id) id;have j:=h.get j id;refine⟨_,_,_,rfl,PS.mk f (by simp [aB]) λH l I y=>?_⟩;refine ar (cs:=aB m o p q) (aV _ _ _ _) y (az (aV _ _ _ _) (l.get j oM) rfl λJ s K z=>ar (aV _ _ _ _) z (Ok.mk ⟨o,p,q,G,rfl,?_,?_,?_⟩))
 ·refine(((r.af l λb d=>?_).af s λb d=>?_).row (bytes:=8) dC (by rw [<-x];exact v))
  ·have:=k b d;omega
  ·have:=k b d;omega
 ·intro b d
  have:=k b d;have:=r.aC b d;omega
 ·have L:=h.size
  exact((ak.new ((n.then g).then h) l λb d=>.inr oM).new s λb d=>.inr oM)
theorem dB.store {b:uW} (a:bt w F cls (yE p q.cells b d V Rs l pts)) (e:ak (·=p) w w') (f:w'.heap[p]? =some (.cells r 194 (0,0))):bt w' F cls (yE p r b d V Rs l pts):=by
 refine bt.same a dq (k:=0) (e.mono λj _ g=>g▸(a.at' 0).1) ⟨(a.at' 0).1,f⟩ λc G h i=>?_;rcases c with _|_|_|_|_|_|c<;>first|exact i|exact absurd rfl h
theorem Cu (b:dB w F cls p q d V Rs l pts) (J:cO d=0) (K:eu w) (L:l.length<=20000000) (M:Rs.length<=8) (b2:pts.length*q.every<9223372036854775808) (b3:pts.length<=20000001):
  Calls Tryz.prog 108 #[.pointer (some ⟨p,0,none⟩)] w (Ok λN w'=>N= .tuple #[]/\∃u v g,dB w' v g p u d V Rs l (if l.length=pts.length*q.every then pts++[Rs]else pts)/\u.every=q.every/\cz F w v w'):=by
 have k:=b.bg;have O:=aO.len (b.at' 2) dC;have P:=aO.len (b.at' 5) dC;have Q:=b.aC;have R:IntKind.wrap .i64 (((q.qn:Nat):Int)*(q.every:Int))=((pts.length*q.every:Nat):Int):=by
  rw [P,show((pts.length:Nat):Int)*(q.every:Int)=((pts.length*q.every:Nat):Int) by push_cast;rfl,wrap_i64 (by unfold aK;omega)]
 refine rQ ⟨p,0,rfl,_,_,_,ae k rfl,p,0,rfl,_,_,_,ae k rfl,p,0,rfl,_,ae k rfl,λS T=>?_⟩;rw [R,O];have m:ai w S:=T.af;refine al.dJ (λb4=>?_) (λb5=>Ok.mk ⟨rfl,q,F,cls,?_,rfl,ai.af m,λa c=>.inl c⟩)
 rotate_left
 ·rw [if_neg oM];exact dB.ah b m
 rw [if_pos oM];intro x U;have j:ai w x:=m.then U.af;have f:=dB.ah b j;have n:=f.bg;refine⟨λ_=>False,p,0,rfl,id,_,_,_,ae n rfl,p,0,rfl,_,_,_,_,ae n rfl,ae n rfl,PC.ok (Ct f J (K.ah j) L (f.at' 4) (λa c=>f.aC a c.1) M) ?_⟩;rintro _ b6 ⟨b7,a3,n2,c2,Fv,G,rfl,-,W,-,o,r⟩;refine⟨_,_,_,_,rfl,r,PA.mk λb8 s b9 X=>⟨s,?_⟩⟩;have y:=r.then s;have Y:=dB.ah f y;have c0:=j.size;have c1:=r.size;have t:∀a,aF q.qa=some a->F a/\cls a=5:=λa c=>aO.self (b.at' 5) a c;refine dQ (c:=Vu) (x:=Rs) (Y.at' 5) Th X (D:=G) ⟨_,_,_,_,rfl,W.ah s⟩ (λa c=>⟨by have:=(o a c).2.1;omega,λh=>by have:=Q a (t a h).1;have:=(o a c).1;omega⟩) (by unfold aI;omega) (by unfold maxLen;omega) λz e Z F2 A B b0=>⟨_,_,_,rfl,p,0,rfl,?_⟩
 have a0:¬aF q.qa=some p:=λh=>by have i:=(t p h).2;rw [b.self.2]at i;cases i
 have c3:=B.size;have a1:ak (λa=>F a/\cls a=5) x Z:=(ai.af y).then (B.mono λa _ c=>t a c);obtain⟨F3,a2,C,E,-,-⟩:=f.dZ dq (k:=5) (G':=F2) (C2:=yE p q.cells {q with qa:=z,qn:=q.qn+1,qc:=e} d V Rs l (pts++[Rs])) a1
  (λa c=>(b0 a c).imp id λb=>b.elim (λb=>(o a b).1) λb=>oM) A.aC A λH G hj hc=>by
   rcases H with _|_|_|_|_|_|H<;>first|exact hc|exact absurd rfl hj
 refine PS.mk (C.at' 0).2 sM λc4 I c5 b1=>Ok.mk ⟨rfl,{q with qa:=z,qn:=q.qn+1,qc:=e},F3,a2,dB.store C I b1,rfl,?_,λa c=>?_⟩
 ·refine((ai.af j).then E.af).then (I.mono λa _ h=>h▸b.self.1)
 ·rcases E.new a c with i|i
  ·exact .inl i
  ·exact .inr oM
end
section
variable {w w':World} {p:Nat} {F T D:Nat->Prop} {cls:Nat->Nat} {q:uW} {d:aM} {V:aU} {Rs:List dh} {l:List aj} {pts:List (List dh)}
def oB (V:aU) (a:aj) (Rs:List dh):List dh:=Rs.map λb=>b.add (V.add a).1 (rb ((V.add a).2.state a.aT a.agg) b.p)
theorem Px {d:aM} (e:cO d=0) (f:d9∈d.projs):0<=d9.DG:=by
 have b:=(jC e).2.2 d9 f;unfold kU at b;split at b
 ·cases b
 split at b
 ·cases b
 rename_i a
 by_cases c:d9.group=3
 ·rw [c]at a
  simp only [BEq.rfl,Bool.true_and,bne_self_eq_false,Bool.false_and,Bool.or_false,Bool.not_eq_true,Bool.not_eq_false']at a;unfold Ps within at a;simp only [QK,decide_eq_true_eq]at a;exact a.1.1
 ·have g:(d9.group==3)=false:=by simpa using c
  have h:(d9.group !=3)=true:=by simpa using c
  rw [g,h]at a;simp at a;omega
theorem Cv {V:aU} (b:V.OK) (a:aj):((V.state a.aT a.agg).getD FH).cells.length<=8:=by
 have c:=b.len a;have d:=(uX (jC b.decl).1).2.2.2;have i:(V.decl.at a.aT).length<=8:=by
  unfold aM.at;split
  ·rw [QQ]
   cases e:V.decl.types[a.aT.toNat]? with
   |none=>simp
   |some f=>exact(d f (QZ e)).2
  ·simp
 unfold aU.cellsOf at c;unfold aU.state
 cases g:aD V.dR (a.aT,a.agg)with
 |none=>simp
 |some h=>simp only [g]at c;show h.cells.length<=8;omega
def Uu (w a:World) (p:Nat) (F:Nat->Prop) (q:uW) (d:aM) (V:aU) (Rs:List dh) (l:List aj) (pts:List (List dh)) (f:aj) (b g:Nat) (w':World):Prop:=
 g=0/\∃h i j c k,w'.heap[b]? =some (.cells (gg (V.add f).1 h i j).toArray 160 (0,0))/\dB w' c k p q d (V.add f).2 Rs l pts/\(∀e,c e->F e\/a.heap.size<=e)/\ak F a w'/\a.heap.size<=b/\¬c b
theorem Ng (v:dB w F cls p q d V Rs l pts) (hd:cO d=0) (hT:eu b) (g0:ai b w) (g7:∀e,F e->b.heap.size<=e) (hl:l.length+1<=20000000) (k8:V.entries.length<=20000000) (g8:Rs.map (·.p)=d.projs)
  (k9:pts.length*q.every<9223372036854775808) (l0:pts.length<=20000001) {J:Option Addr} (l3:((aD V.done (m.aT,m.agg,m.field)).getD []).length<=20000000)
  (hr:Row aG 8 w D J a m.aN) (R:∀e,D e->e<w.heap.size/\¬F e) (he:m.Ok):
  Calls Tryz.prog 118 #[.pointer (some ⟨p,0,none⟩),ji m J a c] w (Ok λa5 w'=>a5= .tuple #[]/\∃q' S a0,dB w' S a0 p q' d (V.add m).2 (oB V m Rs) (l++[m]) (if l.length+1=pts.length*q.every then pts++[oB V m Rs]else pts)/\q'.every=q.every/\cz F w S w'):=by
 have T:=v.aC;have r3:=T p v.self.1;have r4:Rs.length=d.projs.length:=by rw [<-g8,Q8]
 have r5:d.projs.length<=8:=(uX (jC hd).1).2.2.1;refine tf (PA.mk λe0 b8 r6 g9=>?_);have l4:=dB.ah v b8;refine⟨Uu w e0 p F q d V Rs l pts m,?_,?_⟩
 ·intro s h0
  have a6:ai e0 s:=h0.af;have r7:s.heap.size=e0.heap.size:=by rw [h0.heap]
  have e1:=dB.ah l4 a6;have a7:=b8.then a6;have h2:=e1.bg;have a1:∀{r:World},ai s r->Calls Tryz.prog 81 #[.pointer (some ⟨q.vp,0,none⟩),ji m J a c] r (Ok λa5 w'=>∃J a c G,a5=DH (V.add m).1 J a c/\Row aG 8 w' G J a m.aN/\∃S,cd w' q.vp S (V.add m).2/\cz (λe=>F e/\cls e=3) r S w'/\∀e,G e->r.heap.size<=e/\e<w'.heap.size/\¬S e):=λ{r} U=>
   FK (show cd r q.vp (λe=>F e/\cls e=3) V from(dB.ah e1 U).at' 3) (hT.ah (g0.then (a7.then U))) (hr.ah (a7.then U)) (λe f=>⟨by have:=(R e f).1;have:=(a7.then U).size;omega,λi=>(R e f).2 i.1⟩) he l3 k8
  have dZ:∀{r w2:World} {t:Nat->Prop},ai s r->cd w2 q.vp t (V.add m).2->cz (λe=>F e/\cls e=3) r t w2->∃j n,dB w2 j n p q d (V.add m).2 Rs l pts/\(∀e,j e->F e\/t e)/\(∀e,j e->F e\/r.heap.size<=e)/\ak F r w2:=λ{r w2 t} U W y=>by
   obtain⟨j,n,X,K,o,-⟩:=(dB.ah e1 U).Bq dq (k:=3) (G':=t) (C2:=yE p q.cells q d (V.add m).2 Rs l pts) y W.aC W λg G Y hc=>by
    rcases g with _|_|_|_|_|_|g<;>first|exact hc|exact absurd rfl Y
   exact⟨j,n,X,λe f=>(o e f).imp (·.1) id,K.new,K.af⟩
  have nS:¬((F p/\cls p=3)\/s.heap.size<=p):=by
   rintro(⟨-,h⟩|h)
   ·rw [v.self.2]at h;cases h
   ·omega
  have b9:¬((F w.heap.size/\cls w.heap.size=3)\/s.heap.size<=w.heap.size):=by
   rintro(⟨h,-⟩|h)
   ·have:=T _ h;omega
   ·omega
  refine⟨λe=>(F e/\cls e=3)\/s.heap.size<=e,p,0,rfl,nS,_,ae h2 rfl,b9,ar (aV m J a c) (a6.get g9 id) ⟨PC.ok (a1 (ak.refl _)) ?_,PA.mk λr8 c0 r9 l5=>⟨ai.af c0,PC.ok (a1 c0) ?_⟩⟩⟩
  ·rintro _ e2 ⟨z,A,B,G1,rfl,-,t,W,y,-⟩
   obtain⟨j,n,X,h3,o,kF⟩:=dZ (ak.refl _) W y;have s0:=y.af.size;have h4:=X.aC;refine bF (Nh _ z A B) ⟨rfl,y.af.mono λe _ f=>.inl f,PA.mk λs1 e3 s2 l6=>⟨ai.af e3,az (ko _ z A B) l6 rfl λs3 e4 s4 l7=>⟨e4.mono λe _ m=>.inr (by have m:e=e2.heap.size:=m;omega),rfl,z,A,B,j,n,l7,?_,λe f=>?_,?_,oM,λi=>by have:=h4 _ i;omega⟩⟩⟩
   ·exact bt.af (dB.ah X e3) dq e4 λe f m=>by have m:e=e2.heap.size:=m;have:=h4 e f;omega
   ·rcases o e f with h|h
    ·exact .inl h
    ·exact .inr oM
   ·exact(((ai.af a6).then kF).ah e3).new e4 λe f=>.inr (by have f:e=e2.heap.size:=f;omega)
  ·rintro _ s5 ⟨z,A,B,G1,rfl,-,t,W,y,-⟩
   obtain⟨j,n,X,h3,o,kF⟩:=dZ c0 W y;have s6:=y.af.size;have nf:¬j s.heap.size:=λi=>by
    rcases o _ i with h|h
    ·have:=T _ h;omega
    ·omega
   have l8:=kF.get l5 λi=>by have:=T _ i;omega
   refine bF (Nh _ z A B) ⟨rfl,y.af.mono λe _ f=>.inl f,az (ko _ z A B) l8 rfl λs7 e5 s8 l9=>⟨e5.mono λe _ m=>.inr (by have m:e=s.heap.size:=m;omega),rfl,z,A,B,j,n,l9,?_,λe f=>?_,?_,oM,nf⟩⟩
   ·exact bt.af X dq e5 λe f m=>by have m:e=s.heap.size:=m;exact nf (m▸f)
   ·rcases o e f with h|h
    ·exact .inl h
    ·exact .inr oM
   ·exact(((ai.af a6).then (ai.af c0)).then kF).new e5 λe f=>.inr (by have f:e=s.heap.size:=f;omega)
 rintro xb _ _ L ⟨rfl,xa,xn,xc,j,n,gx,Z,o,c2,s9,m0⟩;have h5:=c2.get g9 λi=>by have:=T _ i;omega
 have h6:=(hr.ah b8).af c2 λe f=>(R e f).2;have a8:=Z.aC;have t0:=c2.size;have xw:=ay gx;have a9:ak F w L:=(ai.af b8).then c2;have p8:ai b L:=g0.new a9 λe f=>.inr (g7 e f);obtain⟨k,hS⟩:∃k,k=(V.add m).2.state m.aT m.agg:=⟨_,rfl⟩
 have t1:(k.getD FH).cells.length<=8:=by rw [hS];exact Cv (show(V.add m).2.OK from(show cd L q.vp (λe=>j e/\n e=3) (V.add m).2 from Z.at' 3).1) m
 refine⟨λsb so w'=>so=0/\∃sa sn sc G2,w'.heap[sb]? =some (.cells #[.int .i64 (k.getD FH).version,.slice sa sn sc] 51 (0,0))/\Row eP 32 w' G2 sa sn (k.getD FH).cells/\(∀e,G2 e->L.heap.size<=e/\e<w'.heap.size)/\L.heap.size<=sb/\ai L w',?_,?_⟩
 ·intro C h7
  have c3:ai L C:=h7.af;have t2:C.heap.size=L.heap.size:=by rw [h7.heap]
  have e6:=dB.ah Z c3;have h8:=e6.bg;have d4:=c3.get h5 id;have nS:¬C.heap.size<=p:=by have:=a8 p Z.self.1;omega
  have b9:¬C.heap.size<=w.heap.size:=oM
  refine⟨λe=>C.heap.size<=e,p,0,rfl,nS,_,ae h8 rfl,b9,_,ae d4 rfl,b9,_,ae d4 rfl,PC.ok (mC (e6.at' 3)) ?_,PA.mk λt3 e7 t4 m1=>⟨ai.af e7,PC.ok (mC ((dB.ah e6 e7).at' 3)) ?_⟩⟩
  ·rintro _ c4 ⟨ca,cn,cc,G,rfl,O,M,e8⟩
   have t5:=e8.size;have c5:=O.aC;rw [<-hS]at O⊢;refine⟨_,_,_,_,_,rfl,ai.af e8,PA.mk λm2 e9 t6 m3=>⟨ai.af e9,PS.mk m3 sM λt7 m4 t8 m5=>PS.mk m5 sM λm6 m7 t9 m8=>?_⟩⟩;have P:ak (λe=>e=c4.heap.size) m2 m6:=m4.then m7;refine⟨P.mono λe _ m=>by have m:e=c4.heap.size:=m;omega,rfl,ca,cn,cc,G,m8,((O.ah e9).af P λe f m=>by have m:e=c4.heap.size:=m;have:=c5 e f;omega).row dC (by unfold aI;omega),λe f=>⟨by have:=M e f;omega,by have:=c5 e f;omega⟩,oM,((c3.then e8).then e9).new P λe f=>.inr (by have f:e=c4.heap.size:=f;omega)⟩
  ·rintro _ m9 ⟨ca,cn,cc,G,rfl,O,M,c6⟩
   have u0:=c6.size;have c5:=O.aC;have n0:=c6.get m1 id;rw [<-hS]at O⊢;refine⟨_,_,_,_,_,rfl,ai.af c6,PS.mk n0 sM λu1 n2 u2 n3=>PS.mk n3 sM λn4 n8 u3 n9=>?_⟩;have P:ak (λe=>e=C.heap.size) m9 n4:=n2.then n8;refine⟨P.mono λe _ m=>by have m:e=C.heap.size:=m;omega,rfl,ca,cn,cc,G,n9,(O.af P λe f m=>by have m:e=C.heap.size:=m;have:=M e f;omega).row dC (by unfold aI;omega),λe f=>⟨by have:=M e f;omega,by have:=c5 e f;omega⟩,oM,((c3.then e7).then c6).new P λe f=>.inr (by have f:e=C.heap.size:=f;omega)⟩
 rintro sb _ _ h9 ⟨rfl,sa,sn,sc,G2,gs,o0,o1,u4,Q⟩;have c7:=dB.ah Z Q;have i0:=c7.bg;have u5:=Q.size;have i1:aW h9 (λe=>j e/\n e=1) d q.ta q.tn q.pa q.pn:=c7.at' 1;have p9:=i1.yF.len;have q0:=c7.aC;have i2:=Q.get gx id;obtain⟨E,i⟩:∃E:dh->dh,E=λx=>x.add (V.add m).1 (rb ((V.add m).2.state m.aT m.agg) x.p):=⟨_,rfl⟩
 have f9:=ay gs;refine⟨p,0,rfl,_,_,_,ae i0 rfl,λd5 b0 w'=>∃g:Nat,b0=g/\g<=q.pn/\d5=q.pn-g/\dB w' j n p q d (V.add m).2 ((Rs.take g).map E++Rs.drop g) l pts/\ak j h9 w',⟨_,0,rfl,Qj _,rfl,by simpa using c7,ak.refl _⟩,?_⟩;rintro d5 _ _ H ⟨g,rfl,Y,rfl,u,I⟩;have u6:=I.size;have d6:=I.get gs λi=>by have:=a8 _ i;omega
 have g2:=o0.af I λe f i=>by have:=a8 _ i;have:=(o1 e f).1;omega
 have i3:=I.get i2 m0;have q1:=u.bg;refine al.dec (λu7=>?_) (λu9=>?_)
 ·have i4:g<d.projs.length:=oM
  have hx:d.projs[g]? =some d.projs[g]:=Qq i4;have i5:d.projs[g]∈d.projs:=XY i4;generalize d.projs[g]=x at hx i5;obtain⟨e,g4,es,b1,g5,g6,b2,rfl,d7⟩:=(show aW H (λe=>j e/\n e=1) d q.ta q.tn q.pa q.pn from u.at' 1).yF.el g x hx;have o2:=Px hd i5;refine⟨e,g4,b1,oM,oM,bq (es:=mD x) (k:=5) (oC x) rfl (λb0 ht=>by rw [Qx];exact b2 b0 ht) (PA.mk λv0 i6 v1 o3=>az (oC x) o3 rfl λi7 i8 v2 i9=>⟨λh1 w'=>h1=rb k x/\aK (rb k x)/\i7=w',?_,?_⟩)⟩
  ·have b3:ai H i7:=i6.new i8 λe f=>.inr (by have f:e=H.heap.size:=f;omega)
   have d8:=g2.ah b3;have v3:=d8.len;have a4:rb k x=(((k.getD FH).cells[x.DG.toNat]?).map (·.n)).getD 0:=by
    cases k<;>rfl
   refine⟨_,ae i9 rfl,_,_,_,ae (b3.get d6 id) rfl,al.dec (λj0=>?_) (λj0=>⟨?_,?_,rfl⟩)⟩
   ·obtain⟨bi,g1⟩:∃bi:Nat,x.DG=bi:=⟨x.DG.toNat,oM⟩
    obtain⟨cb,co,v4,v5,v6,o4,v7,v8,o5,-,-,j1,-⟩:=lE d8 (i:=bi) oM;refine⟨_,_,_,ae (b3.get d6 id) rfl,_,ae i9 rfl,cb,co,o4,o2,j0,_,by rw [g1,Qx];exact o5,?_,?_,rfl⟩
    ·rw [a4,g1,Qx,QQ,Qq (show bi<(k.getD FH).cells.length by omega)];rfl
    ·rw [a4,g1,Qx,Qq (show bi<(k.getD FH).cells.length by omega)]
     rw [QQ,Qq (show bi<(k.getD FH).cells.length by omega)]at j1;exact j1
   ·rw [a4,Q7 oM];rfl
   ·rw [a4,Q7 oM];exact FL
  ·rintro _ _ _ ⟨rfl,j2,rfl⟩ o6 o7
   have b4:ai H o6:=(i6.new i8 λe f=>.inr (by have f:e=H.heap.size:=f;omega)).then o7.af;have c8:=dB.ah u b4;have o8:((Rs.take g).map E++Rs.drop g)[g]? =Rs[g]? :=by
    rw [X8 (by simp;omega)];simp [Qy,X2 (show g<=Rs.length by omega)]
   have c9:Rs[g]? =some Rs[g]:=Qq oM;have d9:Rs[g].p=x:=by
    have:=congrArg (·[g]?) g8;simp only [Q9,c9,hx,Option.map_some,Q1]at this;exact this
   generalize Rs[g]=b5 at c9 d9;obtain⟨rg,pj,rj,o9,p0,hR,j4,v9,j3,-,b6⟩:=cf.elem (c8.at' 4) (o8.trans c9);have p1:=cf.len (c8.at' 4);rw [QX,Q8,Qy,XZ]at p1;have j5:=c8.bg;refine⟨p,0,rfl,_,_,_,ae j5 rfl,rg,0,o9,oM,oM,_,by rw [Qx];exact p0,ar (ko _ xa xn xc) (b4.get i3 id) (PC.ok (Ni hR j4 (x:=(V.add m).1) he j2) ?_)⟩;rintro _ p2 ⟨rfl,p3,g3⟩;have eR:((Rs.take g).map E++Rs.drop g).set g (b5.add (V.add m).1 (rb k x))=(Rs.take (g+1)).map E++Rs.drop (g+1):=by
    have j7:((Rs.take g).map E).length=g:=by simp;omega
    rw [Qw,c9,Q3,XQ,List.set_append,if_neg oM,j7,Nat.sub_self,X4 (show g<Rs.length by omega)];have p4:E b5=b5.add (V.add m).1 (rb k x):=by rw [i,hS,<-d9]
    rw [<-p4];rfl
   have j6:=b6 p2 _ g3 p3;rw [eR]at j6;refine⟨rfl,_,oM,g+1,aq oM,oM,rfl,?_,I.then ((ai.af b4).then (g3.mono λe _ m=>?_))⟩
   ·refine bt.same c8 dq (k:=4) (g3.mono λe _ m=>by have m:e=rj:=m;rw [m];exact j3) j6 λg G Y hc=>by
     rcases g with _|_|_|_|_|_|g<;>first|exact hc|exact absurd rfl Y
   ·have m:e=rj:=m;rw [m];exact j3.1
 have j8:(Rs.take g).map E++Rs.drop g=oB V m Rs:=by
  rw [Qz oM,List.drop_eq_nil_of_le oM,List.append_nil,i];rfl
 rw [j8]at u;intro b7 f0;have a2:ai H b7:=f0.af;have q2:b7.heap.size=H.heap.size:=by rw [f0.heap]
 have j9:=dB.ah u a2;have k0:=j9.bg;have p5:¬j w.heap.size:=λi=>by
  rcases o _ i with h|h
  ·have:=T _ h;omega
  ·omega
 have k1:=a2.get (I.get (Q.get h5 id) p5) id;have nD:∀e,D e->¬j e:=λe f i=>by
  rcases o _ i with h|h
  ·exact(R e f).2 h
  ·have:=(R e f).1;omega
 have k3:=((h6.ah Q).af I nD).ah a2;have x0:=aO.len (u.at' 2) dC;have x1:ak F w b7:=((a9.ah Q).new I λe f=>(o e f).imp id oM).ah a2;refine⟨λ_=>False,p,0,rfl,id,_,_,_,ae k0 rfl,ar (aV m J a c) k1 (PC.ok (Bs k3 λe f=>by have:=(R e f).1;omega) ?_)⟩;rintro _ q3 ⟨z,A,B,G,rfl,p6,M,c1⟩;refine⟨_,_,_,_,_,_,_,_,_,_,_,_,rfl,c1,PA.mk λq4 d0 q5 k4=>⟨d0,?_⟩⟩;have f1:=(a2.then c1).then d0;have k5:=dB.ah u f1;have q6:=c1.size;have k6:=u.aC;have f2:∀e,aF q.ea=some e->j e/\n e=2:=λe f=>aO.self (u.at' 2) e f;refine dQ (c:=f_) (x:=m) (k5.at' 2) FM k4 (D:=G) ⟨z,A,B,rfl,p6.ah d0,he⟩ (λe f=>⟨by have:=(M e f).2;omega,λee=>by have:=k6 e (f2 e ee).1;have:=(M e f).1;omega⟩) (by unfold aI;omega) (by unfold maxLen;omega) λa' N q7 F2 f3 f4 p7=>⟨_,_,_,rfl,p,0,rfl,?_⟩
 have q8:=f4.size;obtain⟨t,a3,k2,f5,k7,-⟩:=u.dZ dq (k:=2) (G':=F2) (C2:=yE p q.cells {q with ea:=a',en:=q.en+1,ec:=N} d (V.add m).2 (oB V m Rs) (l++[m]) pts) ((ai.af f1).then (f4.mono λe _ f=>f2 e f))
  (λe f=>(p7 e f).imp id λv=>v.elim (λv=>by have:=(M e v).1;omega) λv=>oM) f3.aC f3 λg G Y hc=>by
   rcases g with _|_|_|_|_|_|g<;>first|exact hc|exact absurd rfl Y
 refine PS.mk (k2.at' 0).2 sM λd1 f6 q9 l1=>?_;have l2:dB d1 t a3 p {q with ea:=a',en:=q.en+1,ec:=N} d (V.add m).2 (oB V m Rs) (l++[m]) pts:=dB.store k2 f6 l1;have f7:∀e,t e->F e\/w.heap.size<=e:=λe f=>by
  rcases f5.new e f with h|h
  ·exact(o e h).imp id oM
  ·exact .inr oM
 have n1:ak j H d1:=f5.af.then (f6.mono λe _ ee=>by have ee:e=p:=ee;rw [ee];exact Z.self.1);have n5:ak F w H:=(a9.ah Q).new I λe f=>(o e f).imp id oM;have d2:ak F w d1:=n5.new n1 λe f=>(o e f).imp id oM;refine PC.ok (Cu l2 hd (hT.ah (g0.new d2 λe f=>.inr (g7 e f))) (by simp;omega) (by unfold oB;rw [Q8];omega) k9 l0) ?_;rintro _ r0 ⟨rfl,q',F4,n6,n7,d3,f8⟩;refine⟨rfl,Ok.mk ⟨rfl,q',F4,n6,?_,d3,d2.new f8.af f7,λe f=>?_⟩⟩
 ·simpa using n7
 ·rcases f8.new e f with h|h
  ·exact f7 e h
  ·have:=d2.size;exact .inr oM
end
set_option maxRecDepth 100000
def qV:fq:=⟨[],[],[],[],[(1,⟨[0,0,2,4,8,0,0,64,128,256,544,1040,4095,8191,12287],[32767,32767,32765,32763,32759,32767,32767,32703,32639,32511,32223,31727,32766,28671,22527],[0,0,0,0,1,0,0,0,0,1,0,0,0,0,2]⟩)]⟩
theorem qy (A:(dr d λB C=>(rI b (ad B (C+2)) λE=>PR_ (eq_ .quo 3 (.tmp 5) (.tmp 9) (.ii e) (.ii E)) b (kI_ λa D=>(∀c,bd D c->(dr d λF H=>(rS c (ad F (H+3)) λG a3 h=>(dr d λI J=>(rI c (ad I (J+2)) λg=>((0:Int)<=(IntKind.wrap .i64 (a*g))/\((IntKind.wrap .i64 (a*g)):Int)<=(h:Int)/\(dr d λK L=>PS c (ad K (L+3)) (.slice G (Int.toNat (IntKind.wrap .i64 (a*g))) h) λi=>(dr d λM N=>(rS i (ad M (N+6)) λO j k=>((0:Int)<=(IntKind.wrap .i64 (a+1))/\((IntKind.wrap .i64 (a+1)):Int)<=(j:Int)/\PR_ (Builtin.clear_ #[192] 0 #[.slice (b_ O (Int.toNat (IntKind.wrap .i64 (a+1))) k 2) (j-Int.toNat (IntKind.wrap .i64 (a+1))) (k-Int.toNat (IntKind.wrap .i64 (a+1)))]) i (λa4 l=>(dr d λP Q=>(rS l (ad P (Q+6)) λR a5 m=>((0:Int)<=(IntKind.wrap .i64 (a+1))/\((IntKind.wrap .i64 (a+1)):Int)<=(m:Int)/\(dr d λS T=>PS l (ad S (T+6)) (.slice R (Int.toNat (IntKind.wrap .i64 (a+1))) m) λf=>(dr d λU V=>(rS f (ad U (V+6)) λW X a6=>(ix_ W a X λn o=>(∃p q r s,f.cell? (ad n (o+Int.toNat a*2))=some (.pointer p)/\f.cell? (ad n (o+Int.toNat a*2+1))=some (.slice q r s)/\PC_ 163 #[.pointer d,.agg #[.pointer p,.slice q r s]] f (λY Z=>∃u v w x,Y= .agg #[.pointer u,.slice v w x]/\(dr d λy z=>PS Z (ad y (z+4)) (.pointer u) λa1=>PS a1 (ad y (z+4+1)) (.slice v w x) λa2=>rt t ((.tuple #[])) a2)) (pE t)))))))))) (pV t)))))))))))) (pV t)))):Calls Tryz.prog 117 #[.pointer d,.ii e] b t:=DC qV Tryz.func117 rfl A
set_option maxRecDepth 20000
theorem pW (b:du):∀a,(lC b a).Perm (b::a)
 |[]=>List.Perm.refl _
 |y::a=>by
  unfold lC;split
  ·exact List.Perm.refl _
  ·exact((pW b a).cons y).trans (List.Perm.swap b y a)
theorem wo (a:List du):(a.foldr lC []).Perm a:=by
 induction a with
 |nil=>exact List.Perm.refl _
 |cons b a c=>exact(pW b _).trans (c.cons b)
theorem w_ {d:du}:∀{b:List du},tg b->(∀y∈b,y.group≠d.group)->tg (lC d b)
 |[],_,_=>by simp [lC,tg]
 |y::b,f,g=>by
  unfold lC;have e:=List.pairwise_cons.1 f;have i:=g y (QV ..);split
  ·rename_i h
   refine List.pairwise_cons.2 ⟨λc a=>?_,f⟩;rcases Q2.1 a with rfl|a
   ·exact h
   ·have:=e.1 c a;omega
  ·rename_i j
   refine List.pairwise_cons.2 ⟨λc a=>?_,w_ e.2 λc a=>g c (QJ _ a)⟩;rcases Q2.1 ((pW d b).mem_iff.1 a)with rfl|a
   ·omega
   ·exact e.1 c a
theorem Dj:∀{a:List du},(a.map (·.group)).Nodup->tg (a.foldr lC [])
 |[],_=>List.Pairwise.nil
 |x::a,b=>by
  rw [QY,List.nodup_cons]at b;refine w_ (Dj b.2) λc d e=>b.1 ?_;rw [<-e];exact Xk.2 ⟨c,(wo a).mem_iff.1 d,rfl⟩
theorem xd:∀{c b:List du},(c.Pairwise λx d=>¬d.group<x.group)->tg b->c.Perm b->c=b
 |[],b,_,_,a=>by have:=a.length_eq;cases b;rfl;simp at this
 |x::c,[],_,_,a=>by have:=a.length_eq;simp at this
 |x::c,d::b,i,j,a=>by
  have f:=List.pairwise_cons.1 i;have g:=List.pairwise_cons.1 j;have k:x=d:=by
   rcases Q2.1 (a.mem_iff.1 (QV ..))with h|h
   ·exact h
   rcases Q2.1 (a.mem_iff.2 (QV ..))with e|e
   ·exact e.symm
   have:=g.1 x h;exact absurd this (f.1 d e)
  subst k;rw [xd f.2 g.2 a.cons_inv]
section
variable {w w':World} {p r:Nat} {R:dh}
theorem jU.SG (c:jU w p r R):((R.rows.map (·.2)).map (·.group)).Nodup:=by
 have b:=c.map.tidy;unfold Tidy at b;rw [List.map_map]at b⊢;have:R.rows.map ((·.group)∘(·.2))=R.rows.map ((·.1)∘λa=>(a.1,rK a.2)):=List.map_congr_left λa d=>(c.ok a d).2;rw [this];exact b
theorem jU.RR (a:jU w p r R):tg R.list:=Dj a.SG
theorem Ls (h:jU w p r R) (b:R.rows.length<=20000000):Calls Tryz.prog 388 #[.pointer (some ⟨p,0,none⟩)] w (Ok (oy FV 262 w R.list)):=by
 refine vI ⟨p,0,rfl,_,ae h.at' rfl,mapRange OL h.map λw6 P Q s6=>?_⟩;refine⟨λA k l m w'=>∃(left:List (Int×du)) (c:List du) (j:Nat->Prop),A=left.length/\cE w' w.heap.size r (Value.int .i64) (R.rows.map λd=>(d.1,rK d.2)) (left.map λd=>(d.1,rK d.2))/\(∀d∈left,du.Ok d.2)/\
  (c++left.map (·.2)).Perm (R.rows.map (·.2))/\aO FV 262 j w' k l m c/\(∀a,j a->w.heap.size<a)/\ai w w',⟨_,R.rows,[],λ_=>False,rfl,P,λd n=>(h.ok d n).1,List.Perm.refl _,aO.nil _,λa b=>b.elim,Q⟩,?_⟩
 rintro A k l m _ B ⟨left,c,j,rfl,C,E,o,f,g,q⟩;have s:c.length+left.length=R.rows.length:=by have:=o.length_eq;simpa using this
 have b4:=f.len dC;refine mf C (λS=>.inl ⟨rfl,?_⟩) (λa2 a3 l1 l2 t T U V W b5=>.inr ⟨_,_,rfl,pt V ?_⟩)
 ·have X:left=[]:=by simpa using S
  subst X;refine PC.ok (Mw f (by simp at s;omega)) ?_;rintro _ b6 ⟨rfl,Y,u,v,x,Z⟩;have he:Y=R.list:=xd v h.RR ((u.trans (by simpa using o)).trans (wo _).symm);subst he;exact⟨rfl,Ok.mk ⟨k,l,m,j,rfl,x,q.new Z λa b=>.inr (by have:=g a (f.self a b);omega),λa b=>by have:=g a b;omega⟩⟩
 ·obtain⟨F,a5,rfl,rfl,n⟩:=List.map_eq_append_iff.1 T
  obtain⟨d,H,rfl,I,rfl⟩:=List.map_eq_cons_iff.1 n;simp only [Prod.mk.injEq]at I;obtain⟨rfl,rfl⟩:=I;have a0:=E d sM;have b7:=q.size;have b3:w.heap.size<B.heap.size:=C.lt;refine⟨_,_,_,_,rfl,PA.mk λb8 J b9 b0=>az (Mg d.2) b0 rfl λc0 L c1 y=>⟨_,_,_,ae y rfl,ae y rfl,ae y rfl,PA.mk λM N c2 b1=>?_⟩⟩;have z:ak (λa=>a=w.heap.size) B M:=((W.ah J).new L λa b=>.inr (by have b:a=t.heap.size:=b;omega)).ah N;refine dQ (c:=FV) (x:=d.2) (f.af z λa b e=>by have e:a=w.heap.size:=e;have:=g a b;omega) TR b1 (D:=λ_=>False) ⟨rfl,a0⟩ (λa b=>b.elim) (by simp at s;unfold aI;omega) (by simp at s;unfold maxLen;omega) λa' c' c3 F2 a4 O b2=>⟨_,_,_,rfl,_,?_,F++H,c++[d.2],F2,rfl,?_,λa1 K=>E a1 (by simp at K⊢;rcases K with K|K;exact .inl K;exact .inr (.inr K)),?_,a4,λa b=>?_,?_⟩
  ·simp
  ·have i:cE M w.heap.size r (Value.int .i64) (R.rows.map λd=>(d.1,rK d.2)) ((F++H).map λd=>(d.1,rK d.2)):=by
    rw [Q3];exact((U.ah J).af L (λe=>by have e:w.heap.size=t.heap.size:=e;omega) (λe=>by have e:r=t.heap.size:=e;have:=h.map.lt;omega)).ah N
   refine i.af O (λe=>by have:=g _ (f.self _ e);omega) (λe=>by have:=g _ (f.self _ e);have:=h.map.lt;omega)
  ·refine List.Perm.trans ?_ o
   simp only [Q3,QY,XQ];refine List.Perm.append_left c ?_;rw [List.singleton_append];exact List.perm_middle.symm
  ·rcases b2 a b with i|i|i
   ·exact g a i
   ·exact i.elim
   ·have:=z.size;omega
  ·exact(q.new z λa b=>.inr (by have b:a=w.heap.size:=b;omega)).new O λa b=>.inr (by have:=g a (f.self a b);omega)
end
end Go.Proofs.YthnilpgpacdmnaaGreatDoor
namespace Go.au
open Go
set_option linter.unusedVariables false
set_option maxRecDepth 20000
variable{a c i:Nat}{f:Nat->Prop}{Q W:Operand}{d:Option Addr}{h:Program}{j:Type}{A g q:TypeId}{o s:Value->World->Prop}{b:World}
theorem yH {bytes:Nat} {e:jk j} (w:ix h g q e.k bytes) (E:Ln h q=true) {x:List j} (m:aO e q f b d a c x) (S:i<=a) 
  (n:∀l,aO e q f l d i c (x.take i)->ak (λk=>aF d=some k) b l->l.heap.size=b.heap.size->o (.tuple #[]) l):
  aE h (Builtin.clear_ #[g] A #[.slice (b_ d i c e.k) (a-i) (c-i)]) b o s:=by
 rcases Nat.lt_or_ge i a with T|U
 rotate_left
 ·obtain rfl:i=a:=oM
  rw [Nat.sub_self];exact aE.mk (w':=b) (v:=.tuple #[]) (by cases b_ d i c e.k<;>simp [Builtin.clear_,run_underlying w.under]) (n b (m.take (Q4 _)) (ak.refl _) rfl)
 obtain⟨cs,D,r,F,y⟩:=m.body;have H:=r.length;rcases r.cases with⟨_,V,_,_⟩|⟨z,I,rfl,J,K,B,L⟩
 ·omega
 have t:c<=maxLen:=by
  obtain⟨_,W,_,C,_,_,_,t,_⟩:=r.row.2.resolve_left (by rintro⟨m,_⟩;cases m);simp only [XX]at C;rw [C.2.2];exact t
 have M:i*e.k<=a*e.k:=Q0 _ oM;have X:a*e.k<=c*e.k:=Q0 _ K;rw [e_ (show c≠i by omega),Xz];refine Og w E J (by rw [B,Nat.sub_mul];omega) λl p N O P Q R=>?_;have u:ak (λk=>aF (some (⟨z,0,none⟩:Addr))=some k) b l:=Q.mono λk _ q=>by rw [q];rfl
 refine n l ⟨⟨cs.take (i*e.k),D,⟨⟨by rw [Qy,H];omega,.inr ⟨z,c,p,rfl,Qj _,N,oM,t,by rw [O,B],?_⟩⟩⟩,(F.af u λk v=>(y k v).2).take i,y⟩,m.self,λk v=>Qk (m.aC k v) u.size⟩ u R;rw [P,<-L,List.take_take,X2 M]
theorem Pz (k:0<c) (l:a<9223372036854775808):(do eqGuard .quo g Q W (.int .i64 (a:Int)) (.int .i64 (c:Int));binOp .quo g (.int .i64 (a:Int)) (.int .i64 (c:Int)):Sem Value).run h b= .ok (.int .i64 ((a/c:Nat):Int)) b:=by
 have f:c≠0:=oM
 have d:(a:Int).tdiv (c:Int)=((a/c:Nat):Int):=by rw [Int.tdiv_eq_ediv_of_nonneg oM];rfl
 have i:=Nat.div_le_self a c;generalize a/c=e at d i;have j:IntKind.wrap .i64 (e:Int)=(e:Int):=wrap_i64 (by unfold aK;omega);simp [eqGuard,binOp,Op.intDiv,f,d,j]
end Go.au
namespace Go.Proofs.YthnilpgpacdmnaaGreatDoor
open Go.au
set_option linter.unusedVariables false
set_option maxRecDepth 20000
def cJ (f:World) (g:Nat) (h:Nat->Prop) (b:aM) (a:Nat) (c:List aj):Prop:=
 (cO b=0/\0<a/\a<9223372036854775808/\c.length<=20000000)/\∃e d,e.every=a/\dB f h d g e b (cg b c) (dE b c).rows c (jr b a c)
variable{t:Ending->World->Prop}{E V e n:Int}{H:List aj}{a c:Nat}{Q W:Operand}{d p:Option Addr}{h:Program}{g q:TypeId}{b:World}{m:aj}
theorem Py {d:aM} (b:0<a) (c:a<9223372036854775808) (e:H.length<=20000000):(jr d a H).length*a<9223372036854775808/\(jr d a H).length<=20000001:=by
 rw [yG];have f:=Nat.div_le_self H.length a;refine⟨?_,oM⟩;rcases Nat.lt_or_ge H.length a with h|h
 ·rw [Nat.div_eq_of_lt h];omega
 ·have:=Nat.div_mul_le_self H.length a
  rw [X7,Nat.one_mul];omega
section
variable {w w':World} {p:Nat} {F T D:Nat->Prop} {d:aM} {every:Nat} {l:List aj}
theorem cJ.af (c:cJ w p F d every l) (e:ak T w w') (f:∀b,F b->¬T b):cJ w' p F d every l:=by
 obtain⟨g,h,a,i,j⟩:=c;exact⟨g,h,a,i,bt.af j dq e f⟩
theorem cJ.ah (a:cJ w p F d every l) (b:ai w w'):cJ w' p F d every l:=a.af b λ_ _ a=>a
theorem cJ.aC (b:cJ w p F d every l):∀a,F a->a<w.heap.size:=by obtain⟨f,g,c,h,e⟩:=b;exact e.aC
theorem uY (d:aM) (l:List aj) (e:l.length<=20000000):(cg d l).entries.length<=20000000/\∀a,((aD (cg d l).done a).getD []).length<=20000000:=by
 have b:=λa=>DI d l (aU.new d) a;refine⟨?_,λa=>?_⟩
 ·have c:(cg d l).entries.length=0+l.length:=(b (0,0,0)).2
  omega
 ·have c:((aD (cg d l).done a).getD []).length<=0+l.length:=(b a).1
  omega
theorem FN (d:aM) (l:List aj) (a:aj):oB (cg d l) a (dE d l).rows=(dE d (l++[a])).rows:=by
 rw [Ij];unfold oB jj.add;rw [Ik]
theorem Nj (t:cJ w p F d every l) (u:eu b) (v:ai b w) (x:∀e,F e->b.heap.size<=e) (k:l.length+1<=20000000) {n:Option Addr} 
  (y:Row aG 8 w D n a m.aN) (z:∀e,D e->e<w.heap.size/\¬F e) (A:m.Ok):
  Calls Tryz.prog 118 #[.pointer (some ⟨p,0,none⟩),ji m n a c] w (Ok λo w'=>o= .tuple #[]/\∃g,cJ w' p g d every (l++[m])/\cz F w g w'):=by
 obtain⟨⟨q,h,r,s⟩,M,B,rfl,C⟩:=t;obtain⟨E,H⟩:=uY d l s;obtain⟨I,J⟩:=Py (d:=d) h r s;refine(Ng C q u v x k E (FO d l) I J (H _) y z A).mono ?_;rintro _ w' ⟨o,rfl,rfl,K,g,f,i,j,L⟩;refine Ok.mk ⟨rfl,g,⟨⟨q,h,r,by simpa using k⟩,K,f,j,?_⟩,L⟩;rw [Il,Lm h,<-FN,<-yG (d:=d)];exact i
theorem VE:Ln Tryz.prog 191=true:=kR
theorem Lp (a0:cJ w p F d every l) (hT:eu b) (g0:ai b w) (c6:∀e,F e->b.heap.size<=e) (hn:a<=l.length):
  Calls Tryz.prog 117 #[.pointer (some ⟨p,0,none⟩),.int .i64 (a:Int)] w (Ok λa1 w'=>a1= .tuple #[]/\∃I,cJ w' p I d every (l.take (a/every*every))/\cz F w I w'):=by
 obtain⟨⟨r,v,h3,h4⟩,c,j,rfl,i⟩:=a0;have c7:=i.bg;have e2:=i.aC;have c8:=aO.len (i.at' 5) dC;have J:=aO.len (i.at' 2) dC;rw [yG]at c8;obtain⟨k,x⟩:∃k,k=a/c.every:=⟨_,rfl⟩
 have t:k<=l.length/c.every:=by rw [x];exact Nat.div_le_div_right hn
 have K:k*c.every<=l.length:=Xx (Q0 _ t) (Nat.div_mul_le_self ..);have e3:k<=l.length:=Xx t (Nat.div_le_self ..);rw [<-x];have y:IntKind.wrap .i64 ((k:Int)*(c.every:Int))=((k*c.every:Nat):Int):=by
  rw [show((k:Int)*(c.every:Int))=((k*c.every:Nat):Int) by push_cast;rfl,wrap_i64 (by unfold aK;omega)]
 have c9:IntKind.wrap .i64 ((k:Int)+1)=((k+1:Nat):Int):=aq oM;have ec:=aO.jD (i.at' 2);have qc:=aO.jD (i.at' 5);refine qy ⟨p,0,rfl,_,ae c7 rfl,aE.mk (Pz v oM) ⟨_,rfl,λL d0=>?_⟩⟩;rw [<-x,c9];simp only [Qx];have M:ai w L:=d0.af;have z:=dB.ah i M;have A:=z.bg;have a2:bt L F j (yE p c.cells {c with en:=k*c.every} d (cg d l) (dE d l).rows (l.take (k*c.every)) (jr d c.every l)):=z.same dq (k:=2) (ak.refl _) (aO.take (z.at' 2) (show k*c.every<=c.en from J▸K)) λm G n o=>by
  rcases m with _|_|_|_|_|_|m<;>first|exact o|exact absurd rfl n
 refine⟨p,0,rfl,_,_,_,ae A rfl,p,0,rfl,_,ae A rfl,by rw [y];exact Int.natCast_nonneg _,by rw [y];exact Int.ofNat_le.2 (Xx K (J▸ec)),p,0,rfl,?_⟩;rw [y,Qx];refine PS.mk A sM λd1 N e4 O=>?_;have P:dB d1 F j p {c with en:=k*c.every} d (cg d l) (dE d l).rows (l.take (k*c.every)) (jr d c.every l):=dB.store a2 N O;refine⟨p,0,rfl,_,_,_,ae O rfl,oM,by show _<=((c.qn:Nat):Int);omega,?_⟩;have g:∀e,aF c.qa=some e->F e/\j e=5:=λe f=>aO.self (i.at' 5) e f;have a3:¬aF c.qa=some p:=λh=>by have r:=(g p h).2;rw [i.self.2]at r;cases r
 refine yH Th VE (P.at' 5) (by show k+1<=c.qn;omega) λd2 a5 Q e5=>?_;have R:bt d2 F j (yE p ({c with en:=k*c.every}:uW).cells {c with en:=k*c.every,qn:=k+1} d (cg d l) (dE d l).rows (l.take (k*c.every)) ((jr d c.every l).take (k+1))):=P.same dq (k:=5) (Q.mono λe _ f=>g e f) a5 λm G n o=>by
  rcases m with _|_|_|_|_|_|m<;>first|exact o|exact absurd rfl n
 have S:=(R.at' 0).2;refine⟨p,0,rfl,_,_,_,ae S rfl,oM,by show _<=((c.qc:Nat):Int);omega,p,0,rfl,PS.mk S sM λT U e6 V=>?_⟩;have s:dB T F j p {c with en:=k*c.every,qn:=k+1} d (cg d l) (dE d l).rows (l.take (k*c.every)) ((jr d c.every l).take (k+1)):=dB.store R U V;have B:ak F w T:=(((ai.af M).then (N.mono λe _ h=>by have h:e=p:=h;rw [h];exact i.self.1)).then (Q.mono λe _ f=>(g e f).1)).then (U.mono λe _ h=>by have h:e=p:=h;rw [h];exact i.self.1);have d3:((jr d c.every l).take (k+1))[k]? =some (dE d (l.take (k*c.every))).rows:=by
  rw [Xw,if_pos oM];exact Nk t
 obtain⟨pb,po,es,d4,e7,e8,W,e9,ra,rn,rc,rfl,d5⟩:=(aO.row (bytes:=32) (s.at' 5) dC (by rw [Qy];unfold aI;omega)).el k _ d3;have c0:=W 0 dC;have c1:=W 1 dC;refine⟨p,0,rfl,_,_,_,ae V rfl,pb,po,d4,oM,by show(k:Int)<((k+1:Nat):Int);omega,_,_,_,_,c0,c1,PC.ok (Ct s r (hT.ah (g0.new B λe f=>.inr (c6 e f))) (by rw [Qy];omega) d5 (λe f=>s.aC e f.1) (by rw [oD];exact(uX (jC r).1).2.2.1)) ?_⟩;rintro _ X ⟨C,Y,Z,c2,Fv,G,rfl,hv,b4,b5,u,b6⟩;have f2:=B.size;obtain⟨F1,e1,d6,g1,b7,-⟩:=s.FP dq (k:=3) (w':=X) (G':=Fv) (C2:=yE p ({c with en:=k*c.every,qn:=k+1}:uW).cells {c with en:=k*c.every,qn:=k+1,vp:=C} d (cg d (l.take (k*c.every))) (dE d l).rows (l.take (k*c.every)) ((jr d c.every l).take (k+1)))
  (ai.af b6) (λe f E=>by have:=b5 e f;have:=s.aC e E;omega) hv.aC hv λm G n o=>by
   rcases m with _|_|_|_|_|_|m<;>first|exact o|exact absurd rfl n
 obtain⟨F2,b8,b9,g2,d7,-⟩:=d6.FP dq (k:=4) (w':=X) (G':=G) (C2:=yE p ({c with en:=k*c.every,qn:=k+1}:uW).cells {c with en:=k*c.every,qn:=k+1,vp:=C,ra:=Y,rn:=Z,rc:=c2} d (cg d (l.take (k*c.every))) (dE d (l.take (k*c.every))).rows (l.take (k*c.every)) ((jr d c.every l).take (k+1)))
  (ak.refl _) (λe f E=>by
   rcases b7 e E with q|q
   ·have:=(u e f).1;have:=s.aC e q.1;omega
   ·exact absurd q (u e f).2.2) (λe f=>(u e f).2.1) b4 λm G n o=>by
   rcases m with _|_|_|_|_|_|m<;>first|exact o|exact absurd rfl n
 have c3:∀e,F2 e->F e\/w.heap.size<=e:=λe f=>by
  rcases d7 e f with q|q
  ·rcases b7 e q.1 with H|H
   ·exact .inl H.1
   ·exact .inr (by have:=b5 e H;omega)
  ·exact .inr (by have:=(u e q).1;omega)
 have d8:=(b9.at' 0).2;refine⟨_,_,_,_,rfl,p,0,rfl,PS.mk d8 sM λg3 c4 g4 d9=>PS.mk d9 sM λg5 c5 g6 e0=>Ok.mk ⟨rfl,F2,⟨⟨r,v,h3,by rw [Qy];omega⟩,{c with en:=k*c.every,qn:=k+1,vp:=C,ra:=Y,rn:=Z,rc:=c2},b8,rfl,?_⟩,?_,c3⟩⟩
 ·rw [<-Lq v t]
  exact dB.store b9 (c4.then c5) e0
 ·exact(B.ah b6).then ((c4.then c5).mono λe _ h=>by have h:e=p:=h;rw [h];exact i.self.1)
end
theorem Uv (a:Im h g q) :(do eqGuard .eql g Q W (.agg #[.int .i64 e,.int .i64 n]) (.agg #[.int .i64 E,.int .i64 V]);binOp .eql g (.agg #[.int .i64 e,.int .i64 n]) (.agg #[.int .i64 E,.int .i64 V]):Sem Value).run h b= .ok (.bool (e==E&&n==V)) b:=by
 rw [Sem.run_bind,run_eqGuard_agg b .eql _ Q W _ _ a.hm,Result.andThen_ok,run_eql_struct];have:=a.equalIn 9998 (e,n) (E,V) b;unfold nI at this;rw [this];rfl
section
variable {w w':World} {p:Nat} {F T D:Nat->Prop} {d:aM} {every:Nat} {l l2:List aj}
theorem FQ (U:cJ w p F d every l) (V:eu b) (K:ai b w) (L:∀f,F f->b.heap.size<=f) {M:Option Addr} (N:Row f_ 96 w D M a l2) (e1:a<=c) (A:∀f,D f->f<w.heap.size/\¬F f) (e2:l2.length<=20000000)
  (b2:∀(W:Nat) (i m:aj),l[W]? =some i->l2[W]? =some m->aR i=aR m->i=m):
  Calls Tryz.prog 58 #[.pointer (some ⟨p,0,none⟩),.slice M a c] w (Ok λb3 w'=>∃B:Int,b3= .int .i64 B/\∃j,cJ w' p j d every l2/\cz F w j w'):=by
 have hn:=N.len;have X:=U;obtain⟨⟨h1,h2,h3,h4⟩,e0,b6,e3,C⟩:=U;have e4:=aO.len (C.at' 2) dC;have e5:=C.aC;refine oE ⟨λk w'=>∃e:Nat,k=e/\e<=l.length/\e<=l2.length/\l.take e=l2.take e/\ai w w',?_,?_⟩
 ·refine⟨λg k w'=>∃e:Nat,k=e/\e<=l.length/\e<=l2.length/\g=l.length-e/\l.take e=l2.take e/\ai w w',⟨_,0,rfl,Qj _,Qj _,rfl,rfl,ak.refl _⟩,?_⟩
  rintro g _ _ w9 ⟨e,rfl,Y,Z,rfl,o,u⟩;have h9:=dB.ah C u;have a4:=h9.bg;refine⟨p,0,rfl,_,_,_,ae a4 rfl,al.dec (λO=>?_) (λa5 c0 E=>⟨e,rfl,Y,Z,o,u.then E.af⟩)⟩;have a6:e<l.length/\e<l2.length:=by split at O<;>omega
  have n:l[e]? =some l[e]:=Qq a6.1;have H:l2[e]? =some l2[e]:=Qq a6.2;generalize l[e]=i at n;generalize l2[e]=m at H;obtain⟨f,q,es,P,c1,c2,I,ya,yn,yc,rfl,e6,e7⟩:=(N.ah u).el e m H;obtain⟨b7,o2,e8,c3,e9,f0,a0,v,x,y,rfl,a7,a1⟩:=(aO.row (bytes:=96) (h9.at' 2) dC (by unfold aI;omega)).el e i n;have y0:=I 0 dC;have y1:=I 1 dC;have x0:=a0 0 dC;have x1:=a0 1 dC;refine⟨f,q,P,oM,oM,_,_,y0,y1,p,0,rfl,_,_,_,ae a4 rfl,b7,o2,c3,oM,oM,_,_,x0,x1,(m.origin==i.origin&&m.seq==i.seq),λg=>Uv Kn,λc0 E=>al.mk (λQ=>⟨_,?_,e+1,aq oM,oM,oM,rfl,?_,u.then E.af⟩) (λ_=>⟨e,rfl,Y,Z,o,u.then E.af⟩)⟩
  ·omega
  ·simp only [QK,beq_iff_eq]at Q
   have c4:=b2 e i m n H (by simp [aR,Q.1,Q.2]);rw [Qw,Qw,o,n,H,c4]
 rintro _ _ f1 ⟨k,rfl,c5,c6,o,r⟩;have c7:=dB.ah C r;have b9:=c7.bg;have f2:=r.size;refine⟨λw'=>∃g j,g<=l2.length/\cJ w' p j d every (l2.take g)/\cz F w j w',⟨p,0,rfl,_,_,_,ae b9 rfl,al.dec (λO=>?_) (λa5=>?_)⟩,?_⟩
 ·refine PC.ok (Lp (X.ah r) V (K.then r) L c5) ?_
  rintro _ f3 ⟨rfl,j,R,a9⟩;have b0:k/every*every<=k:=Nat.div_mul_le_self ..;refine⟨rfl,_,j,Xx b0 c6,?_,(ai.af r).then a9.af,λf h=>(a9.new f h).imp id oM⟩;have:l.take (k/every*every)=l2.take (k/every*every):=by
   have:=congrArg (List.take (k/every*every)) o
   rwa [List.take_take,List.take_take,X2 b0]at this
  rw [<-this];exact R
 ·have c8:k=l.length:=oM
  refine⟨l.length,F,oM,?_,ai.af r,λf h=>.inl h⟩;rw [c8,List.take_length]at o;rw [<-o];exact X.ah r
 rintro _ g1 ⟨g,F1,hm,b1,a2⟩;have c9:=b1;obtain⟨-,q1,f4,f5,b4⟩:=b1;have a3:=aO.len (b4.at' 2) dC;rw [Qy,X2 hm]at a3;have g2:=a2.af.size;refine⟨p,0,rfl,_,_,_,ae b4.bg rfl,oM,oM,?_⟩;rw [Qx,a3];refine⟨λB t w'=>∃(e:Nat) (j:Nat->Prop),t=e/\e<=a-g/\B=a-g-e/\cJ w' p j d every (l2.take (g+e))/\cz F w j w',⟨_,0,F1,rfl,Qj _,rfl,c9,a2⟩,?_⟩;rintro B _ _ b5 ⟨e,S,rfl,hj,rfl,T,s⟩;refine al.dec (λO=>?_) (λa5=>?_)
 ·have d0:g+e<l2.length:=oM
  have n:l2[g+e]? =some l2[g+e]:=Qq d0;generalize l2[g+e]=i at n;have d1:=N.af s.af λf h=>(A f h).2;obtain⟨f,q,es,P,c1,c2,I,v,x,y,rfl,a7,a1⟩:=d1.el (g+e) i n;have d2:b_ M g c 10=some ⟨f,q+g*10,none⟩:=by rw [P];exact e_ oM
  have g3:=s.af.size;refine⟨f,q+g*10,d2,oM,oM,bq (es:=aB i v x y) (k:=10) (aV i v x y) rfl (λt ht=>by rw [Qx];have:=I t ht;rw [show q+g*10+e*10+t=q+(g+e)*f_.k+t by show _=q+(g+e)*10+t;omega];exact this) (PA.mk λg4 d3 g5 d4=>az (aV i v x y) d4 rfl λb8 d5 g6 d6=>ar (aV i v x y) d6 ?_)⟩;have J:ai b5 b8:=d3.new d5 λf h=>.inr (by have h:f=b5.heap.size:=h;omega);have a8:cz F w S b8:=⟨s.af.ah J,s.new⟩
  have d7:∀f,D f->¬S f:=λf h hf=>by
   rcases s.new f hf with z|z
   ·exact(A f h).2 z
   ·have:=(A f h).1;omega
  refine PC.ok (Nj (T.ah J) V (K.new a8.af λf h=>.inr (L f h)) (λf h=>?_) (by rw [Qy];omega) (a7.ah J) (λf h=>⟨by have:=(A f h).1;have:=J.size;omega,d7 f h⟩) a1) ?_
  ·rcases s.new f h with z|z
   ·exact L f z
   ·have:=K.size;omega
  rintro _ g7 ⟨rfl,F3,d8,d9⟩;refine⟨rfl,_,?_,e+1,F3,aq oM,oM,rfl,?_,a8.trans d9⟩
  ·omega
  ·rw [show g+(e+1)=g+e+1 by omega,Qw,n];exact d8
 ·rw [Qz oM]at T
  exact Ok.mk ⟨_,rfl,S,T,s⟩
end
set_option maxRecDepth 100000
def BR:fq:=⟨[(3,[(23,.int .i64 0)]),(7,[(32,.int .i64 0)]),(15,[(75,.int .i64 0)])],[],[17],[17],[(17,⟨[0,0,2,4,8,16,0,64,128,416,1023,2047,3071,5119],[16383,16383,16381,16379,16375,16367,16383,16319,16255,16095,16382,15359,14335,11775],[0,0,0,0,0,1,1,2,2,2,0,0,0,2]⟩)]⟩
theorem Bt {A B C D:Nat} (a0:PA b (.cells #[.slice d A B,.slice p C D] 25) λE=>(rS E (ab_ b (0+1)) λa7 a8 a9=>PC_ 105 #[.slice a7 a8 a9] E (kS_ λb0 b1 b2 a=>PA a (.cells #[.slice none 0 0,.slice b0 b1 b2,.ii (if e>1 then e else 1),.slice none 0 0,.pointer none,.slice none 0 0,.slice none 0 0] 194) λF=>(rS F (ab_ b 0) λb3 G g5=>(∃r:Nat->Int->World->Prop,(∃l,r l 0 F)/\∀(l:Nat) (i:Int) (g6:Nat->Value) (c:World),r l i c->al (decide (i<(G:Int))) ((ix_ b3 i G λb4 b5=>(rS c (ad b4 (b5+Int.toNat i)) λb6 b7 b8=>PA c (.cells #[.slice none 0 0] 107) λb9=>PS b9 (ab_ c 0) (.slice b6 b7 b8) λH=>(rS H (ab_ c 0) λc0 c1 c2=>PC_ 106 #[.slice c0 c1 c2] H (kS_ λs m c3 c4=>(∃u:Nat->Int->World->Prop,(∃n,u n 0 c4)/\∀(n:Nat) (f:Int) (g7:Nat->Value) (g:World),u n f g->al (decide (f<(m:Int))) ((ix_ s f m λc5 c6=>(rS g (ad c5 (c6+Int.toNat f*4+3)) λc7 c8 c9=>PC_ 104 #[.slice c7 c8 c9] g (kS_ λd0 d1 d2 d3=>(ix_ s f m λd4 d5=>PS d3 (ad d4 (d5+Int.toNat f*4+3)) (.slice d0 d1 d2) λd6=>(∃I,I<n/\u I (IntKind.wrap .i64 (f+1)) d6))) (pE t)))) ((∃J K,((some (ab_ a 0)):Option Addr)=some ⟨J,K,none⟩/\(rS g (ad J K) λd7 d8 d9=>PA g (.cells #[.slice s m c3] 107) λe0=>PR_ (ap_ 22 (.slice d7 d8 d9) (.slice (some (ab_ g 0)) 1 1)) e0 (kS_ λe1 e2 e3 e4=>(∃L M,((some (ab_ a 0)):Option Addr)=some ⟨L,M,none⟩/\PS e4 (ad L M) (.slice e1 e2 e3) λe5=>(∃N,N<l/\r N (IntKind.wrap .i64 (i+1)) e5))) (pV t)))))) (pE t))))) ((∃v w,((some (ab_ a 0)):Option Addr)=some ⟨v,w,none⟩/\(∃O P Q R S T,c.cell? (ad v w)=some (.slice O P Q)/\c.cell? (ad v (w+1))=some (.slice R S T)/\PC_ 80 #[.agg #[.slice O P Q,.slice R S T]] c (kP λe6 e7=>(∃U V,((some (ab_ a 0)):Option Addr)=some ⟨U,V,none⟩/\PS e7 (ad U (V+4)) (.pointer e6) λW=>(∃X Y,((some (ab_ a 0)):Option Addr)=some ⟨X,Y,none⟩/\(rS W (ad X (Y+1)) λe8 Z g8=>(∃x:Nat->Int->World->Prop,(∃o,x o 0 W)/\∀(o:Nat) (j:Int) (g9:Nat->Value) (h:World),x o j h->al (decide (j<(Z:Int))) ((ix_ e8 j Z λe9 f0=>(Ld 119 (ad e9 (f0+Int.toNat j*5)) h λf1=>PA h (.cells #[.ii 0,.ii 0,.ii 0,.ii 0,.ii 0] 119) λf2=>St 119 (ab_ h 0) f1 f2 λf3=>(∀k,bd f3 k->∃y:Nat->Prop,(∃z a2,((some (ab_ a 0)):Option Addr)=some ⟨z,a2,none⟩/\(¬y z/\(rS k (ad z (a2+4+1)) λf4 f5 f6=>(Ld 119 (ab_ h 0) k λf7=>PC_ 107 #[f7] k (kP λf8 q=>(ak y k q/\PA q (.cells #[.pointer f8] 196) λa3=>(ak y q a3/\PR_ (ap_ 189 (.slice f4 f5 f6) (.slice (some (ab_ q 0)) 1 1)) a3 (kS_ λf9 g0 g1 g2=>(∃a4 a5,((some (ab_ a 0)):Option Addr)=some ⟨a4,a5,none⟩/\PS g2 (ad a4 (a5+4+1)) (.slice f9 g0 g1) λg3=>(∃a6,a6<o/\x a6 (IntKind.wrap .i64 (j+1)) g3))) (pY t)))) (pZ t))))))))) (PC_ 108 #[.pointer (some (ab_ a 0))] h (k0_ λg4=>rt t ((.pointer (some (ab_ a 0)))) g4) (pE t))))))) (pE t))))))) (pE t))):Calls Tryz.prog 55 #[.agg #[.slice d A B,.slice p C D],.ii e] b t:=DC BR Tryz.func55 rfl a0
end Go.Proofs.YthnilpgpacdmnaaGreatDoor

import Derived.Test.YtkpomgifkloklacGreatDoorKg15
set_option maxHeartbeats 4000000
set_option linter.all false
set_option maxRecDepth 100000
open Go.IntKind renaming wrap→XG
namespace Go.Proofs.YtkpomgifkloklacGreatDoor
open Go.aw
def Hk(P:aM)(a:List aj)(b:aj):dN P (a++[b])=(dN P a).add b:=by unfold dN;rw[List.foldl_append];rfl
def Hm(P:aM)(a:List aj)(b:aj):b_ P (a++[b])=((b_ P a).add b).2:=by unfold b_;rw[List.foldl_append];rfl
def Hl(b:aM)(P:List aj):(dN b P).view=b_ b P:=by
 have:∀(P:List aj) (a:jm),(P.foldl jm.add a).view=P.foldl (λd c=>(d.add c).2) a.view:=by
  intro P
  induction P with
  |nil=>intro a;rfl
  |cons c P e=>intro a;rw[List.foldl_cons,List.foldl_cons,e];rfl
 exact this P _
variable{n:Array Value}{E:List aj}{g3:List du}{a c:Nat}{b:World}{C:aM}{d5:aY}{d6:iH}
def EB(d:cJ C=0)(a:List aj):(b_ C a).OK/\(b_ C a).decl=C:=by
 have:∀(a:List aj) (P:aY),P.OK->(a.foldl (λP b=>(P.add b).2) P).OK/\(a.foldl (λP b=>(P.add b).2) P).decl=P.decl:=by
  intro a
  induction a with
  |nil=>intro P c;exact⟨c,rfl⟩
  |cons b a e=>
   intro P c;obtain⟨f,g⟩:=aY.xP c b;obtain⟨h,i⟩:=e _ f;exact⟨h,i.trans g⟩
 exact this a _ (aY.rC d)
def du.Sa(a:du)(b:cM)(P:Int):(a.add b P).p=a.p:=by
 unfold du.add;dsimp only;split
 ·rfl
 ·split<;>rfl
def Ev(d:aM)(P:List aj):(dN d P).rows.map (·.p)=d.projs:=by
 have:∀(P:List aj) (a:jm),(P.foldl jm.add a).rows.map (·.p)=a.rows.map (·.p):=by
  intro P
  induction P with
  |nil=>intro a;rfl
  |cons b P e=>
   intro a;rw[List.foldl_cons,e];show((a.rows.map λc=>c.add (a.view.add b).1 (qT ((a.view.add b).2.state b.aW b.agg) c.p)).map (·.p))=_;rw[List.map_map];exact List.map_congr_left λc _=>c.Sa _ _
 refine(this P _).trans ?_;show(d.projs.map λf=>(⟨f,[]⟩:du)).map (·.p)=_;rw[List.map_map];exact List.map_id _
def oz(P:aM)(a:List aj):(dN P a).rows.length=P.projs.length:=by
 rw[<-Ev P a,Q8]
def js(b:aM)(P:Nat)(a:List aj):List (List du):=(List.range (a.length/P+1)).map λc=>(dN b (a.take (c*P))).rows
section
variable {d:aM} {every:Nat} {l:List aj}
def xN:(js d every l).length=l.length/every+1:=by simp[js]
def Mi(P:a<=l.length/every):(js d every l)[a]? =some (dN d (l.take (a*every))).rows:=by
 unfold js;rw[Q9,List.getElem?_range oM];rfl
def Ml:js d every []=[(dN d []).rows]:=by
 unfold js;rw[ZQ,Nat.zero_div];simp
def Kt(e:0<every)(f:aj):js d every (l++[f])=if l.length+1=(l.length/every+1)*every then js d every l++[(dN d (l++[f])).rows]else js d every l:=by
 have h:=Nat.div_add_mod l.length every;have i:=Nat.mod_lt l.length e;have a:∀P,P<=l.length/every->(l++[f]).take (P*every)=l.take (P*every):=λP b=>by
  have:P*every<=l.length:=Xx (Q0 _ b) (Nat.div_mul_le_self ..);rw[List.take_append_of_le_length this]
 split
 ·rename_i c
  have g:(l.length+1)/every=l.length/every+1:=by rw[c];exact Nat.mul_div_cancel _ e
  unfold js;rw[QX,List.length_singleton,g,List.range_succ,Q3]
  congr 1
  ·refine List.map_congr_left λP b=>?_
   rw[a P (by have:=List.mem_range.1 b;omega)]
  ·rw[List.map_singleton,<-c,Qz sM]
 ·rename_i c
  have g:(l.length+1)/every=l.length/every:=by
   have j:(l.length+1)/every<l.length/every+1:=by
    rw[Nat.div_lt_iff_lt_mul e];rw[X7,Nat.one_mul,Nat.mul_comm]at c⊢;omega
   have k:l.length/every<=(l.length+1)/every:=Nat.div_le_div_right oM;omega
  unfold js;rw[QX,List.length_singleton,g];refine List.map_congr_left λP b=>?_;rw[a P (by have:=List.mem_range.1 b;omega)]
def Kw(b:0<every)(c:a<=l.length/every):(js d every l).take (a+1)=js d every (l.take (a*every)):=by
 have e:a*every<=l.length:=Xx (Q0 _ c) (Nat.div_mul_le_self ..);unfold js;rw[Qy,X2 e,Nat.mul_div_cancel _ b,<-List.map_take,List.take_range,X2 oM];refine List.map_congr_left λf g=>?_;have P:f<=a:=by have:=List.mem_range.1 g;omega
 rw[List.take_take,X2 (Q0 _ P)]
end
structure uI where
 ta:ZH
 tn:Nat
 tc:Nat
 pa:ZH
 pn:Nat
 pc:Nat
 every:Nat
 ea:ZH
 en:Nat
 ec:Nat
 vp:Nat
 ra:ZH
 rn:Nat
 rc:Nat
 qa:ZH
 qn:Nat
 qc:Nat
abbrev uI.cells(P:uI):Array Value:= #[.slice P.ta P.tn P.tc,.slice P.pa P.pn P.pc,XH (P.every:Int),.slice P.ea P.en P.ec,XL P.vp,.slice P.ra P.rn P.rc,.slice P.qa P.qn P.qc]
def xL(c:Nat)(d:Array Value)(P:uI)(e:aM)(f:aY)(g:List du)(h:List aj)(b:List (List du)):Nat->World->(XN)->Prop
 |0=>λa G=>G c/\a.heap[c]? =some (.cells d 185 (0,0))
 |1=>λa G=>aZ a G e P.ta P.tn P.pa P.pn
 |2=>λa G=>aU iX 59 G a P.ea P.en P.ec h
 |3=>λa G=>cw a P.vp G f
 |4=>λa G=>cx a G P.ra P.rn P.rc g
 |5=>λa G=>aU Uk 182 G a P.qa P.qn P.qc b
 |_=>λ_ _=>True
def dx{e:uI}{d:List (List du)}:sP (xL a n e C d5 g3 E d):=by
 intro k f w' G g P b c
 match k,P with
 |0,P=>exact⟨P.1,b.get P.2 (c a P.1)⟩
 |1,P=>exact aZ.af P b c
 |2,P=>exact aU.af P b c
 |3,P=>exact cw.af P b c
 |4,P=>exact cx.af P b c
 |5,P=>exact aU.af P b c
 |k+6,P=>trivial
abbrev dL(c:World)(d:XN)(P:Nat->Nat)(e:Nat)(b:uI)(f:aM)(g:aY)(h:List du)(i:List aj)(a:List (List du)):Prop:=bL c d P (xL e b.cells b f g h i a)
section
variable {w w':World} {p:Nat} {F T D:XN} {cls:Nat->Nat} {q:uI} {d:aM} {V:aY} {Rs:List du} {l:List aj} {pts:List (List du)}
def dL.ah(P:dL w F cls p q d V Rs l pts)(a:ai w w'):dL w' F cls p q d V Rs l pts:=bL.ah P dx a
def dL.bD(P:dL w F cls p q d V Rs l pts):w.heap[p]? =some (.cells q.cells 185 (0,0)):=(P.at' 0).2
def dL.self(P:dL w F cls p q d V Rs l pts):F p/\cls p=0:=(P.at' 0).1
def Bp(s:dL w F cls p q d V Rs l pts)(hd:cJ d=0)(hT:eu w)(hl:l.length<=20000000){vp:ZH}{y:ZH}(hr:cx w D y a c g3)(hD:∀P,D P->P<w.heap.size)(hn:g3.length<=8):
  ZG 137 #[XL p,.agg #[.pointer vp,.slice y a c]] w (Ok λT w'=>∃h y a c f G,T= .agg #[XL h,.slice y a c]/\cw w' h f (b_ d l)/\cx w' G y a c g3/\(∀P,f P->w.heap.size<=P)/\(∀P,G P->w.heap.size<=P/\P<w'.heap.size/\¬f P)/\ai w w'):=by
 have U:=s.aF;have h0:=hr.len;refine ru (PA.mk λt k5 s5 g5=>PA.mk λz k6 s6 g6=>?_);have A:=k5.then k6;have c0:∀{j:World},ai w j->Row iX 96 j (λP=>F P/\cls P=2) q.ea q.en l:=λ{j} u=>((show aU iX 59 (λP=>F P/\cls P=2) w q.ea q.en q.ec l from s.at' 2).ah u).row dC ba;have n:∀{j:World},ai w j->ZG 31 #[.agg #[.slice q.ta q.tn q.tc,.slice q.pa q.pn q.pc],.slice q.ea q.en q.ec] j (Ok λT w'=>∃p F,T= XL p/\cw w' p F (b_ d l)/\(∀P,F P->j.heap.size<=P)/\ai j w'):=λ{j} u=>
  Er hd (hT.ah u) (show aZ j (λP=>F P/\cls P=1) d q.ta q.tn q.pa q.pn from aZ.af (s.at' 1) u λ_ _ s=>s) (λP b=>by have:=U P b.1;have:=u.size;omega) (c0 u) (λP b=>by have:=U P b.1;have:=u.size;omega) hl
 refine⟨λi oo w'=>oo=0/\∃h f,w'.heap[i]? =some (.cells #[XL h,.slice none 0 0] 182 (0,0))/\cw w' h f (b_ d l)/\(∀P,f P->z.heap.size<=P)/\¬f i/\z.heap.size<=i/\ai z w',?_,?_⟩
 ·intro o d9
  have v:ai z o:=d9.af;have s9:o.heap.size=z.heap.size:=by rw[d9.heap]
  have W:=(s.ah (A.then v)).bD;have zp:=U p s.self.1;have nS:¬o.heap.size<=p:=by have:=(A.then v).size;omega
  refine⟨λP=>o.heap.size<=P,p,0,rfl,nS,_,_,_,_,_,_,ae W rfl,ae W rfl,p,0,rfl,nS,_,_,_,ae W rfl,PC.ok (n (A.then v)) ?_,PA.mk λh2 X h3 d2=>⟨ai.af X,PC.ok (n ((A.then v).then X)) ?_⟩⟩
  ·rintro _ J ⟨h,f,rfl,r,B,Y⟩
   refine⟨_,rfl,ai.af Y,PA.mk λd3 Z h4 d4=>⟨ai.af Z,PS.mk d4 sM λh5 d5 h6 d6=>PS.mk d6 sM λd7 d8 h7 e0=>?_⟩⟩;have C:=r.aF;have h8:=Y.size;have g:ak (λP=>P=J.heap.size) d3 d7:=d5.then d8;refine⟨g.mono λP _ e=>by have e:P=J.heap.size:=e;omega,rfl,h,f,e0,(r.ah Z).af g λP b e=>by have e:P=J.heap.size:=e;have:=C P b;omega,λP b=>by have:=B P b;omega,λb=>by have:=C _ b;omega,oM,((v.then Y).then Z).new g λP b=>.inr (by have b:P=J.heap.size:=b;omega)⟩
  ·rintro _ e1 ⟨h,f,rfl,r,B,K⟩
   have e2:=K.get d2 id;have C:=r.aF;have h9:=K.size;refine⟨_,rfl,ai.af K,PS.mk e2 sM λi0 e3 i1 e4=>PS.mk e4 sM λe5 e6 i2 e7=>?_⟩;have g:ak (λP=>P=o.heap.size) e1 e5:=e3.then e6;refine⟨g.mono λP _ e=>by have e:P=o.heap.size:=e;omega,rfl,h,f,e7,r.af g λP b e=>by have e:P=o.heap.size:=e;have:=B P b;omega,λP b=>by have:=B P b;omega,λb=>by have:=B _ b;omega,oM,((v.then X).then K).new g λP b=>.inr (by have b:P=o.heap.size:=b;omega)⟩
 rintro i _ _ L ⟨rfl,h,f,E,r,c1,e8,g9,M⟩;have a5:=A.then M;have i3:=M.size;have a3:i<L.heap.size:=az E;have C:=r.aF;have c4:=M.get (k6.get g5 id) id;have c5:=M.get g6 id;refine⟨_,_,_,ae c4 rfl,λa2 a4 w'=>∃k:Nat,a4=k/\k<=a/\a2=a-k/\∃N H O G,w'.heap[i]? =some (.cells #[XL h,.slice N H O] 182 (0,0))/\cx w' G N H O (g3.take k)/\(∀P,G P->L.heap.size<=P/\P<w'.heap.size)/\ak (·=i) L w',
  ⟨_,0,rfl,Qj _,rfl,none,0,0,λ_=>False,E,cx.nil _,λP b=>b.elim,ak.refl _⟩,?_⟩
 rintro a2 _ _ I ⟨k,rfl,hj,rfl,N,H,O,G,Q,R,m,x⟩;have i4:=x.size;refine an.dec (λi5=>?_) (λi6=>?_)
 ·have e9:k<g3.length:=oM
  have hx:g3[k]? =some g3[k]:=Qq e9;generalize g3[k]=f0 at hx;obtain⟨a7,pj,rj,ha,a0,hR,a8,a9,b0,-,-⟩:=((hr.ah a5).af x λP b e=>by have e:P=i:=e;have:=hD P b;omega).elem hx;have f2:=R.len;rw[Qy,X2 oM]at f2;refine⟨a7,0,ha,oM,oM,_,by rw[Qx];exact a0,λc6 c7=>⟨λ_=>False,id,?_⟩⟩;have b2:ai I c6:=c7.af;have i7:c6.heap.size=I.heap.size:=by rw[c7.heap]
  refine⟨_,_,_,ae (b2.get Q id) rfl,PC.ok (Ks (hR.ah b2)) ?_⟩;rintro _ i8 ⟨p',r',rfl,g0,g1,i9,j0,j1,j2,b3⟩;have j3:=b3.size;refine⟨_,rfl,b3,PA.mk λj4 b4 j5 g2=>⟨b4,?_⟩⟩;have a1:=(b2.then b3).then b4;refine(R.ah a1).push (λP b=>by have:=(m P b).2;omega) (g0.ah b4) (λb=>by have:=(m _ b).2;omega) (λb=>by have:=(m _ b).2;omega) g1 Md g2 (by rw[Qy];omega) λb1 c3 j6 G3 b6 b5 g4 c8=>⟨_,_,_,rfl,?_⟩
  have j7:=b5.size;have c2:=b5.get (a1.get Q id) λb=>by have:=(m _ b).1;omega
  have a6:∀P,G3 P->L.heap.size<=P:=λP b=>by
   rcases g4 P b with S|S|S|S
   ·exact(m P S).1
   ·omega
   ·omega
   ·omega
  refine PS.mk c2 sM λj8 c9 j9 g7=>⟨_,oM,k+1,aq oM,oM,rfl,b1,H+1,c3,G3,g7,?_,λP b=>⟨a6 P b,by have:=c8 P b;omega⟩,?_⟩
  ·rw[Qw,hx]
   exact b6.af c9 λP b e=>by have e:P=i:=e;have:=a6 P b;omega
  ·exact((x.ah a1).new b5 λP b=>.inr (m P b).1).then c9
 ·rw[Qz oM]at R
  have d0:=x.get c5 λe=>by have e:t.heap.size=i:=e;omega
  refine⟨_,_,_,_,ae Q rfl,ae Q rfl,PS.mk d0 sM λk0 b7 k1 g8=>PS.mk g8 sM λb8 b9 k2 d1=>⟨_,_,_,_,ae d1 rfl,ae d1 rfl,Ok.mk ⟨h,N,H,O,f,G,rfl,?_,?_,λP b=>by have:=c1 P b;omega,λP b=>⟨?_,?_,?_⟩,?_⟩⟩⟩
  ·have g:ak (λP=>P=t.heap.size) I b8:=b7.then b9
   exact(r.af x λP b e=>e8 ((show P=i from e)▸b)).af g λP b e=>by have e:P=t.heap.size:=e;have:=c1 P b;omega
  ·have g:ak (λP=>P=t.heap.size) I b8:=b7.then b9
   exact R.af g λP b e=>by have e:P=t.heap.size:=e;have:=m P b;omega
  ·have:=m P b;omega
  ·have:=m P b;omega
  ·intro hf;have:=m P b;have:=C P hf;omega
  ·have g:ak (λP=>P=t.heap.size) I b8:=b7.then b9
   exact(a5.new x λP b=>.inr (by have b:P=i:=b;omega)).new g λP b=>.inr (by have b:P=t.heap.size:=b;omega)
end
section
variable {w w':World} {p:Nat} {F T D:XN} {cls:Nat->Nat} {q:uI} {d:aM} {V:aY} {Rs:List du} {l:List aj} {pts:List (List du)}
def Au{d:aj}{e:ZH}{w:World}{D:XN}(i:Row aQ 8 w D e a d.aN)(s:∀P,D P->P<w.heap.size):
  ZG 164 #[jk d e a c] w (Ok λt w'=>∃e a c G,t=jk d e a c/\Row aQ 8 w' G e a d.aN/\(∀P,G P->w.heap.size<=P/\P<w'.heap.size)/\ai w w'):=by
 have u:=i.dK;have v:=i.len;refine wJ (PA.mk λz m A f=>PA.mk λB g C j=>⟨_,_,_,ae (g.get f id) rfl,PC.ok (cy (i.ah (m.then g)) λP b=>by have:=s P b;omega) ?_⟩);rintro _ E ⟨n,o,p,G,rfl,q,h,k⟩;have f:=h.get (g.get f id) id;have j:=h.get j id;refine⟨_,_,_,rfl,PS.mk f (by simp[aD]) λF l H x=>?_⟩;refine au (cs:=aD d n o p) (aX _ _ _ _) x (aB (aX _ _ _ _) (l.get j oM) rfl λI r J y=>au (aX _ _ _ _) y (Ok.mk ⟨n,o,p,G,rfl,?_,?_,?_⟩))
 ·refine(((q.af l λP b=>?_).af r λP b=>?_).row (bytes:=8) dC (by rw[<-v];exact u))
  ·have:=k P b;omega
  ·have:=k P b;omega
 ·intro P b
  have:=k P b;have:=q.aF P b;omega
 ·have K:=h.size
  exact((ak.new ((m.then g).then h) l λP b=>.inr oM).new r λP b=>.inr oM)
def dL.store{a:uI}(P:bL w F cls (xL p q.cells a d V Rs l pts))(c:ak (·=p) w w')(e:w'.heap[p]? =some (.cells n 185 (0,0))):bL w' F cls (xL p n a d V Rs l pts):=by
 refine bL.same P dx (k:=0) (c.mono λi _ f=>f▸(P.at' 0).1) ⟨(P.at' 0).1,e⟩ λb G g h=>?_;rcases b with _|_|_|_|_|_|b<;>first|exact h|exact Zz rfl g
def Bq(a:dL w F cls p q d V Rs l pts)(I:cJ d=0)(J:eu w)(K:l.length<=20000000)(L:Rs.length<=8)(b2:pts.length*q.every<9223372036854775808)(b3:pts.length<=20000001):
  ZG 93 #[XL p] w (Ok λM w'=>M= .tuple #[]/\∃t u f,dL w' u f p t d V Rs l (if l.length=pts.length*q.every then pts++[Rs]else pts)/\t.every=q.every/\dy F w u w'):=by
 have j:=a.bD;have N:=aU.len (a.at' 2) dC;have O:=aU.len (a.at' 5) dC;have Q:=a.aF;have R:XG .i64 (((q.qn:Nat):Int)*(q.every:Int))=((pts.length*q.every:Nat):Int):=by
  rw[O,show((pts.length:Nat):Int)*(q.every:Int)=((pts.length*q.every:Nat):Int) by push_cast;rfl,wrap_i64 bb]
 refine ry ⟨p,0,rfl,_,_,_,ae j rfl,p,0,rfl,_,_,_,ae j rfl,p,0,rfl,_,ae j rfl,λS T=>?_⟩;rw[R,N];have k:ai w S:=T.af;refine an.eG (λb4=>?_) (λb5=>Ok.mk ⟨rfl,q,F,cls,?_,rfl,ai.af k,λP b=>.inl b⟩)
 rotate_left
 ·rw[Zq oM];exact dL.ah a k
 rw[Zx oM];intro v U;have i:ai w v:=k.then U.af;have e:=dL.ah a i;have m:=e.bD;refine⟨λ_=>False,p,0,rfl,id,_,_,_,ae m rfl,p,0,rfl,_,_,_,_,ae m rfl,ae m rfl,PC.ok (Bp e I (J.ah i) K (e.at' 4) (λP b=>e.aF P b.1) L) ?_⟩;rintro _ b6 ⟨b7,a3,n2,c2,Fv,G,rfl,-,W,-,n,o⟩;refine⟨_,_,_,_,rfl,o,PA.mk λb8 r b9 X=>⟨r,?_⟩⟩;have x:=o.then r;have Y:=dL.ah e x;have c0:=i.size;have c1:=o.size;have s:∀P,aI q.qa=some P->F P/\cls P=5:=λP b=>aU.self (a.at' 5) P b;refine d_ (c:=Uk) (x:=Rs) (Y.at' 5) R_ X (D:=G) ⟨_,_,_,_,rfl,W.ah r⟩ (λP b=>⟨by have:=(n P b).2.1;omega,λg=>by have:=Q P (s P g).1;have:=(n P b).1;omega⟩) ba (by unfold maxLen;omega) λy c Z F2 z A b0=>⟨_,_,_,rfl,p,0,rfl,?_⟩
 have a0:¬aI q.qa=some p:=λg=>by have h:=(s p g).2;rw[a.self.2]at h;cases h
 have c3:=A.size;have a1:ak (λP=>F P/\cls P=5) v Z:=(ai.af x).then (A.mono λP _ b=>s P b);obtain⟨F3,a2,B,C,-,-⟩:=e.fC dx (k:=5) (G':=F2) (C2:=xL p q.cells {q with qa:=y,qn:=q.qn+1,qc:=c} d V Rs l (pts++[Rs])) a1
  (λP b=>(b0 P b).imp id λa=>a.elim (λa=>(n P a).1) λa=>oM) z.aF z λE G hj hc=>by
   rcases E with _|_|_|_|_|_|E<;>first|exact hc|exact Zz rfl hj
 refine PS.mk (B.at' 0).2 sM λc4 H c5 b1=>Ok.mk ⟨rfl,{q with qa:=y,qn:=q.qn+1,qc:=c},F3,a2,dL.store B H b1,rfl,?_,λP b=>?_⟩
 ·refine((ai.af i).then C.af).then (H.mono λP _ g=>g▸a.self.1)
 ·rcases C.new P b with h|h
  ·exact .inl h
  ·exact .inr oM
end
section
variable {w w':World} {p:Nat} {F T D:XN} {cls:Nat->Nat} {q:uI} {d:aM} {V:aY} {Rs:List du} {l:List aj} {pts:List (List du)}
def ox(V:aY)(P:aj)(Rs:List du):List du:=Rs.map λa=>a.add (V.add P).1 (qT ((V.add P).2.state P.aW P.agg) a.p)
def Ov{d:aM}(c:cJ d=0)(e:d6∈d.projs):0<=d6.Cq:=by
 have a:=(jF c).2.2 d6 e;unfold k_ at a;split at a
 ·cases a
 split at a
 ·cases a
 rename_i P
 by_cases b:d6.group=3
 ·rw[b]at P
  simp only[BEq.rfl,Bool.true_and,bne_self_eq_false,Bool.false_and,Bool.or_false,Bool.not_eq_true,Bool.not_eq_false']at P;unfold Oq within at P;simp only[QK,Zk]at P;exact P.1.1
 ·have f:(d6.group==3)=false:=by simpa using b
  have g:(d6.group !=3)=true:=by simpa using b
  rw[f,g]at P;simp at P;omega
def Br{V:aY}(a:V.OK)(P:aj):((V.state P.aW P.agg).getD En).cells.length<=8:=by
 have b:=a.len P;have c:=(uJ (jF a.decl).1).2.2.2;have h:(V.decl.at P.aW).length<=8:=by
  unfold aM.at;split
  ·rw[QQ]
   cases d:V.decl.types[P.aW.toNat]? with
   |none=>simp
   |some e=>exact(c e (QZ d)).2
  ·simp
 unfold aY.cellsOf at b;unfold aY.state
 cases f:ax V.ef (P.aW,P.agg)with
 |none=>simp
 |some g=>simp only[f]at b;show g.cells.length<=8;omega
def Tm(w P:World)(p:Nat)(F:XN)(q:uI)(d:aM)(V:aY)(Rs:List du)(l:List aj)(pts:List (List du))(e:aj)(a f:Nat)(w':World):Prop:=
 f=0/\∃g h i b j,w'.heap[a]? =some (.cells (gB (V.add e).1 g h i).toArray 141 (0,0))/\dL w' b j p q d (V.add e).2 Rs l pts/\(∀c,b c->F c\/P.heap.size<=c)/\ak F P w'/\P.heap.size<=a/\¬b a
def Me(u:dL w F cls p q d V Rs l pts)(hd:cJ d=0)(hT:eu b)(g0:ai b w)(g7:∀P,F P->b.heap.size<=P)(hl:l.length+1<=20000000)(k8:V.entries.length<=20000000)(g8:Rs.map (·.p)=d.projs)(k9:pts.length*q.every<9223372036854775808)(l0:pts.length<=20000001){f:aj}{I:ZH}(l3:((ax V.done (f.aW,f.agg,f.field)).getD []).length<=20000000)(hr:Row aQ 8 w D I a f.aN)(R:∀P,D P->P<w.heap.size/\¬F P)(he:f.Ok):
  ZG 103 #[XL p,jk f I a c] w (Ok λa5 w'=>a5= .tuple #[]/\∃q' S a0,dL w' S a0 p q' d (V.add f).2 (ox V f Rs) (l++[f]) (if l.length+1=pts.length*q.every then pts++[ox V f Rs]else pts)/\q'.every=q.every/\dy F w S w'):=by
 have T:=u.aF;have r4:=T p u.self.1;have r5:Rs.length=d.projs.length:=by rw[<-g8,Q8]
 have r6:d.projs.length<=8:=(uJ (jF hd).1).2.2.1;refine sQ (PA.mk λe0 b8 r7 g9=>?_);have l4:=dL.ah u b8;refine⟨Tm w e0 p F q d V Rs l pts f,?_,?_⟩
 ·intro r h0
  have a6:ai e0 r:=h0.af;have r8:r.heap.size=e0.heap.size:=by rw[h0.heap]
  have e1:=dL.ah l4 a6;have a7:=b8.then a6;have h2:=e1.bD;have a1:∀{o:World},ai r o->ZG 56 #[XL q.vp,jk f I a c] o (Ok λa5 w'=>∃I a c G,a5=Cr (V.add f).1 I a c/\Row aQ 8 w' G I a f.aN/\∃S,cw w' q.vp S (V.add f).2/\dy (λP=>F P/\cls P=3) o S w'/\∀P,G P->o.heap.size<=P/\P<w'.heap.size/\¬S P):=λ{o} U=>
   Es (show cw o q.vp (λP=>F P/\cls P=3) V from(dL.ah e1 U).at' 3) (hT.ah (g0.then (a7.then U))) (hr.ah (a7.then U)) (λP e=>⟨by have:=(R P e).1;have:=(a7.then U).size;omega,λi=>(R P e).2 i.1⟩) he l3 k8
  have fC:∀{o w2:World} {s:XN},ai r o->cw w2 q.vp s (V.add f).2->dy (λP=>F P/\cls P=3) o s w2->∃j m,dL w2 j m p q d (V.add f).2 Rs l pts/\(∀P,j P->F P\/s P)/\(∀P,j P->F P\/o.heap.size<=P)/\ak F o w2:=λ{o w2 s} U W v=>by
   obtain⟨j,m,X,J,n,-⟩:=(dL.ah e1 U).Hg dx (k:=3) (G':=s) (C2:=xL p q.cells q d (V.add f).2 Rs l pts) v W.aF W λg G Y hc=>by
    rcases g with _|_|_|_|_|_|g<;>first|exact hc|exact Zz rfl Y
   exact⟨j,m,X,λP e=>(n P e).imp (·.1) id,J.new,J.af⟩
  have nS:¬((F p/\cls p=3)\/r.heap.size<=p):=by
   rintro(⟨-,h⟩|h)
   ·rw[u.self.2]at h;cases h
   ·omega
  have b9:¬((F w.heap.size/\cls w.heap.size=3)\/r.heap.size<=w.heap.size):=by
   rintro(⟨h,-⟩|h)
   ·have:=T _ h;omega
   ·omega
  refine⟨λP=>(F P/\cls P=3)\/r.heap.size<=P,p,0,rfl,nS,_,ae h2 rfl,b9,au (aX f I a c) (a6.get g9 id) ⟨PC.ok (a1 (ak.refl _)) ?_,PA.mk λr9 c0 s0 l5=>⟨ai.af c0,PC.ok (a1 c0) ?_⟩⟩⟩
  ·rintro _ e2 ⟨y,z,A,G1,rfl,-,s,W,v,-⟩
   obtain⟨j,m,X,h3,n,kF⟩:=fC (ak.refl _) W v;have s1:=v.af.size;have h4:=X.aF;refine bS (Mf _ y z A) ⟨rfl,v.af.mono λP _ e=>.inl e,PA.mk λs2 e3 s3 l6=>⟨ai.af e3,aB (kv _ y z A) l6 rfl λs4 e4 s5 l7=>⟨e4.mono λP _ f=>.inr (by have f:P=e2.heap.size:=f;omega),rfl,y,z,A,j,m,l7,?_,λP e=>?_,?_,oM,λi=>by have:=h4 _ i;omega⟩⟩⟩
   ·exact bL.af (dL.ah X e3) dx e4 λP e f=>by have f:P=e2.heap.size:=f;have:=h4 P e;omega
   ·rcases n P e with h|h
    ·exact .inl h
    ·exact .inr oM
   ·exact(((ai.af a6).then kF).ah e3).new e4 λP e=>.inr (by have e:P=e2.heap.size:=e;omega)
  ·rintro _ s6 ⟨y,z,A,G1,rfl,-,s,W,v,-⟩
   obtain⟨j,m,X,h3,n,kF⟩:=fC c0 W v;have s7:=v.af.size;have nf:¬j r.heap.size:=λi=>by
    rcases n _ i with h|h
    ·have:=T _ h;omega
    ·omega
   have l8:=kF.get l5 λi=>by have:=T _ i;omega
   refine bS (Mf _ y z A) ⟨rfl,v.af.mono λP _ e=>.inl e,aB (kv _ y z A) l8 rfl λs8 e5 s9 l9=>⟨e5.mono λP _ f=>.inr (by have f:P=r.heap.size:=f;omega),rfl,y,z,A,j,m,l9,?_,λP e=>?_,?_,oM,nf⟩⟩
   ·exact bL.af X dx e5 λP e f=>by have f:P=r.heap.size:=f;exact nf (f▸e)
   ·rcases n P e with h|h
    ·exact .inl h
    ·exact .inr oM
   ·exact(((ai.af a6).then (ai.af c0)).then kF).new e5 λP e=>.inr (by have e:P=r.heap.size:=e;omega)
 rintro xb _ _ K ⟨rfl,xa,xn,xc,j,m,gx,Z,n,c2,t0,m0⟩;have h5:=c2.get g9 λi=>by have:=T _ i;omega
 have h6:=(hr.ah b8).af c2 λP e=>(R P e).2;have a8:=Z.aF;have t1:=c2.size;have xw:=az gx;have a9:ak F w K:=(ai.af b8).then c2;have p9:ai b K:=g0.new a9 λP e=>.inr (g7 P e);obtain⟨k,hS⟩:∃k,k=(V.add f).2.state f.aW f.agg:=⟨_,rfl⟩
 have t2:(k.getD En).cells.length<=8:=by rw[hS];exact Br (show(V.add f).2.OK from(show cw K q.vp (λP=>j P/\m P=3) (V.add f).2 from Z.at' 3).1) f
 refine⟨λsb so w'=>so=0/\∃sa sn sc G2,w'.heap[sb]? =some (.cells #[XH (k.getD En).version,.slice sa sn sc] 42 (0,0))/\Row eT 32 w' G2 sa sn (k.getD En).cells/\(∀P,G2 P->K.heap.size<=P/\P<w'.heap.size)/\K.heap.size<=sb/\ai K w',?_,?_⟩
 ·intro B h7
  have c3:ai K B:=h7.af;have t3:B.heap.size=K.heap.size:=by rw[h7.heap]
  have e6:=dL.ah Z c3;have h8:=e6.bD;have d4:=c3.get h5 id;have nS:¬B.heap.size<=p:=by have:=a8 p Z.self.1;omega
  have b9:¬B.heap.size<=w.heap.size:=oM
  refine⟨λP=>B.heap.size<=P,p,0,rfl,nS,_,ae h8 rfl,b9,_,ae d4 rfl,b9,_,ae d4 rfl,PC.ok (mE (e6.at' 3)) ?_,PA.mk λt4 e7 t5 m1=>⟨ai.af e7,PC.ok (mE ((dL.ah e6 e7).at' 3)) ?_⟩⟩
  ·rintro _ c4 ⟨ca,cn,cc,G,rfl,N,L,e8⟩
   have t6:=e8.size;have c5:=N.aF;rw[<-hS]at N⊢;refine⟨_,_,_,_,_,rfl,ai.af e8,PA.mk λm2 e9 t7 m3=>⟨ai.af e9,PS.mk m3 sM λt8 m4 t9 m5=>PS.mk m5 sM λm6 m7 u0 m8=>?_⟩⟩;have O:ak (λP=>P=c4.heap.size) m2 m6:=m4.then m7;refine⟨O.mono λP _ f=>by have f:P=c4.heap.size:=f;omega,rfl,ca,cn,cc,G,m8,((N.ah e9).af O λP e f=>by have f:P=c4.heap.size:=f;have:=c5 P e;omega).row dC ba,λP e=>⟨by have:=L P e;omega,by have:=c5 P e;omega⟩,oM,((c3.then e8).then e9).new O λP e=>.inr (by have e:P=c4.heap.size:=e;omega)⟩
  ·rintro _ m9 ⟨ca,cn,cc,G,rfl,N,L,c6⟩
   have u1:=c6.size;have c5:=N.aF;have n0:=c6.get m1 id;rw[<-hS]at N⊢;refine⟨_,_,_,_,_,rfl,ai.af c6,PS.mk n0 sM λu2 n2 u3 n3=>PS.mk n3 sM λn4 n8 u4 n9=>?_⟩;have O:ak (λP=>P=B.heap.size) m9 n4:=n2.then n8;refine⟨O.mono λP _ f=>by have f:P=B.heap.size:=f;omega,rfl,ca,cn,cc,G,n9,(N.af O λP e f=>by have f:P=B.heap.size:=f;have:=L P e;omega).row dC ba,λP e=>⟨by have:=L P e;omega,by have:=c5 P e;omega⟩,oM,((c3.then e7).then c6).new O λP e=>.inr (by have e:P=B.heap.size:=e;omega)⟩
 rintro sb _ _ h9 ⟨rfl,sa,sn,sc,G2,gs,o0,o1,u5,Q⟩;have c7:=dL.ah Z Q;have i0:=c7.bD;have u6:=Q.size;have i1:aZ h9 (λP=>j P/\m P=1) d q.ta q.tn q.pa q.pn:=c7.at' 1;have q0:=i1.xM.len;have q1:=c7.aF;have i2:=Q.get gx id;obtain⟨C,i⟩:∃C:du->du,C=λx=>x.add (V.add f).1 (qT ((V.add f).2.state f.aW f.agg) x.p):=⟨_,rfl⟩
 have f9:=az gs;refine⟨p,0,rfl,_,_,_,ae i0 rfl,λd5 b0 w'=>∃g:Nat,b0=g/\g<=q.pn/\d5=q.pn-g/\dL w' j m p q d (V.add f).2 ((Rs.take g).map C++Rs.drop g) l pts/\ak j h9 w',⟨_,0,rfl,Qj _,rfl,by simpa using c7,ak.refl _⟩,?_⟩;rintro d5 _ _ E ⟨g,rfl,Y,rfl,t,H⟩;have u7:=H.size;have d6:=H.get gs λi=>by have:=a8 _ i;omega
 have g2:=o0.af H λP e i=>by have:=a8 _ i;have:=(o1 P e).1;omega
 have i3:=H.get i2 m0;have q2:=t.bD;refine an.dec (λu9=>?_) (λv0=>?_)
 ·have i4:g<d.projs.length:=oM
  have hx:d.projs[g]? =some d.projs[g]:=Qq i4;have i5:d.projs[g]∈d.projs:=XY i4;generalize d.projs[g]=x at hx i5;obtain⟨P,g4,es,b1,g5,g6,b2,rfl,d7⟩:=(show aZ E (λP=>j P/\m P=1) d q.ta q.tn q.pa q.pn from t.at' 1).xM.el g x hx;have o2:=Ov hd i5;refine⟨P,g4,b1,oM,oM,bq (es:=mG x) (k:=5) (oy x) rfl (λb0 ht=>by rw[Qx];exact b2 b0 ht) (PA.mk λv1 i6 v2 o4=>aB (oy x) o4 rfl λi7 i8 v3 i9=>⟨λh1 w'=>h1=qT k x/\aP (qT k x)/\i7=w',?_,?_⟩)⟩
  ·have b3:ai E i7:=i6.new i8 λP e=>.inr (by have e:P=E.heap.size:=e;omega)
   have d8:=g2.ah b3;have v4:=d8.len;have a4:qT k x=(((k.getD En).cells[x.Cq.toNat]?).map (·.n)).getD 0:=by
    cases k<;>rfl
   refine⟨_,ae i9 rfl,_,_,_,ae (b3.get d6 id) rfl,an.dec (λj0=>?_) (λj0=>⟨?_,?_,rfl⟩)⟩
   ·obtain⟨bi,g1⟩:∃bi:Nat,x.Cq=bi:=⟨x.Cq.toNat,oM⟩
    obtain⟨cb,co,v5,v6,v7,o5,v8,v9,o6,-,-,j1,-⟩:=lJ d8 (i:=bi) oM;refine⟨_,_,_,ae (b3.get d6 id) rfl,_,ae i9 rfl,cb,co,o5,o2,j0,_,by rw[g1,Qx];exact o6,?_,?_,rfl⟩
    ·rw[a4,g1,Qx,QQ,Qq (show bi<(k.getD En).cells.length by omega)];rfl
    ·rw[a4,g1,Qx,Qq (show bi<(k.getD En).cells.length by omega)]
     rw[QQ,Qq (show bi<(k.getD En).cells.length by omega)]at j1;exact j1
   ·rw[a4,Q7 oM];rfl
   ·rw[a4,Q7 oM];exact Et
  ·rintro _ _ _ ⟨rfl,j2,rfl⟩ o7 o8
   have b4:ai E o7:=(i6.new i8 λP e=>.inr (by have e:P=E.heap.size:=e;omega)).then o8.af;have c8:=dL.ah t b4;have o9:((Rs.take g).map C++Rs.drop g)[g]? =Rs[g]? :=by
    rw[X8 bc];simp[Qy,X2 (show g<=Rs.length by omega)]
   have c9:Rs[g]? =some Rs[g]:=Qq oM;have d9:Rs[g].p=x:=by
    have:=Zj (·[g]?) g8;simp only[Q9,c9,hx,Option.map_some,Q1]at this;exact this
   generalize Rs[g]=b5 at c9 d9;obtain⟨rg,pj,rj,p0,p1,hR,j4,x0,j3,-,b6⟩:=cx.elem (c8.at' 4) (o9.trans c9);have p2:=cx.len (c8.at' 4);rw[QX,Q8,Qy,XZ]at p2;have j5:=c8.bD;refine⟨p,0,rfl,_,_,_,ae j5 rfl,rg,0,p0,oM,oM,_,by rw[Qx];exact p1,au (kv _ xa xn xc) (b4.get i3 id) (PC.ok (Mg hR j4 (x:=(V.add f).1) he j2) ?_)⟩;rintro _ p3 ⟨rfl,p4,g3⟩;have fm:((Rs.take g).map C++Rs.drop g).set g (b5.add (V.add f).1 (qT k x))=(Rs.take (g+1)).map C++Rs.drop (g+1):=by
    have j7:((Rs.take g).map C).length=g:=by simp;omega
    rw[Qw,c9,Q3,XQ,List.set_append,Zq oM,j7,Nat.sub_self,X4 (show g<Rs.length by omega)];have p5:C b5=b5.add (V.add f).1 (qT k x):=by rw[i,hS,<-d9]
    rw[<-p5];rfl
   have j6:=b6 p3 _ g3 p4;rw[fm]at j6;refine⟨rfl,_,oM,g+1,aq oM,oM,rfl,?_,H.then ((ai.af b4).then (g3.mono λP _ f=>?_))⟩
   ·refine bL.same c8 dx (k:=4) (g3.mono λP _ f=>by have f:P=rj:=f;rw[f];exact j3) j6 λg G Y hc=>by
     rcases g with _|_|_|_|_|_|g<;>first|exact hc|exact Zz rfl Y
   ·have f:P=rj:=f;rw[f];exact j3.1
 have j8:(Rs.take g).map C++Rs.drop g=ox V f Rs:=by
  rw[Qz oM,List.drop_eq_nil_of_le oM,List.append_nil,i];rfl
 rw[j8]at t;intro b7 f0;have a2:ai E b7:=f0.af;have q3:b7.heap.size=E.heap.size:=by rw[f0.heap]
 have j9:=dL.ah t a2;have k0:=j9.bD;have p6:¬j w.heap.size:=λi=>by
  rcases n _ i with h|h
  ·have:=T _ h;omega
  ·omega
 have k1:=a2.get (H.get (Q.get h5 id) p6) id;have nD:∀P,D P->¬j P:=λP e i=>by
  rcases n _ i with h|h
  ·exact(R P e).2 h
  ·have:=(R P e).1;omega
 have k3:=((h6.ah Q).af H nD).ah a2;have x1:=aU.len (t.at' 2) dC;have x2:ak F w b7:=((a9.ah Q).new H λP e=>(n P e).imp id oM).ah a2;refine⟨λ_=>False,p,0,rfl,id,_,_,_,ae k0 rfl,au (aX f I a c) k1 (PC.ok (Au k3 λP e=>by have:=(R P e).1;omega) ?_)⟩;rintro _ q4 ⟨y,z,A,G,rfl,p7,L,c1⟩;refine⟨_,_,_,_,_,_,_,_,_,_,_,_,rfl,c1,PA.mk λq5 d0 q6 k4=>⟨d0,?_⟩⟩;have f1:=(a2.then c1).then d0;have k5:=dL.ah t f1;have q7:=c1.size;have k6:=t.aF;have f2:∀P,aI q.ea=some P->j P/\m P=2:=λP e=>aU.self (t.at' 2) P e;refine d_ (c:=iX) (x:=f) (k5.at' 2) Hj k4 (D:=G) ⟨y,z,A,rfl,p7.ah d0,he⟩ (λP e=>⟨by have:=(L P e).2;omega,λee=>by have:=k6 P (f2 P ee).1;have:=(L P e).1;omega⟩) ba (by unfold maxLen;omega) λa' M q8 F2 f3 f4 p8=>⟨_,_,_,rfl,p,0,rfl,?_⟩
 have q9:=f4.size;obtain⟨s,a3,k2,f5,k7,-⟩:=t.fC dx (k:=2) (G':=F2) (C2:=xL p q.cells {q with ea:=a',en:=q.en+1,ec:=M} d (V.add f).2 (ox V f Rs) (l++[f]) pts) ((ai.af f1).then (f4.mono λP _ e=>f2 P e))
  (λP e=>(p8 P e).imp id λu=>u.elim (λu=>by have:=(L P u).1;omega) λu=>oM) f3.aF f3 λg G Y hc=>by
   rcases g with _|_|_|_|_|_|g<;>first|exact hc|exact Zz rfl Y
 refine PS.mk (k2.at' 0).2 sM λd1 f6 r0 l1=>?_;have l2:dL d1 s a3 p {q with ea:=a',en:=q.en+1,ec:=M} d (V.add f).2 (ox V f Rs) (l++[f]) pts:=dL.store k2 f6 l1;have f7:∀P,s P->F P\/w.heap.size<=P:=λP e=>by
  rcases f5.new P e with h|h
  ·exact(n P h).imp id oM
  ·exact .inr oM
 have n1:ak j E d1:=f5.af.then (f6.mono λP _ ee=>by have ee:P=p:=ee;rw[ee];exact Z.self.1);have n5:ak F w E:=(a9.ah Q).new H λP e=>(n P e).imp id oM;have d2:ak F w d1:=n5.new n1 λP e=>(n P e).imp id oM;refine PC.ok (Bq l2 hd (hT.ah (g0.new d2 λP e=>.inr (g7 P e))) bc (by unfold ox;rw[Q8];omega) k9 l0) ?_;rintro _ r3 ⟨rfl,q',F4,n6,n7,d3,f8⟩;refine⟨rfl,Ok.mk ⟨rfl,q',F4,n6,?_,d3,d2.new f8.af f7,λP e=>?_⟩⟩
 ·simpa using n7
 ·rcases f8.new P e with h|h
  ·exact f7 P h
  ·have:=d2.size;exact .inr oM
end
def pN(a:dz):∀P,(lG a P).Perm (a::P)
 |[]=>List.Perm.refl _
 |y::P=>by
  unfold lG;split
  ·exact List.Perm.refl _
  ·exact((pN a P).cons y).trans (List.Perm.swap a y P)
def vJ(P:List dz):(P.foldr lG []).Perm P:=by
 induction P with
 |nil=>exact List.Perm.refl _
 |cons a P b=>exact(pN a _).trans (b.cons a)
def wv{c:dz}:∀{a:List dz},sR a->(∀y∈a,y.group≠c.group)->sR (lG c a)
 |[],_,_=>by simp[lG,sR]
 |y::a,e,f=>by
  unfold lG;have d:=List.pairwise_cons.1 e;have h:=f y (QV ..);split
  ·rename_i g
   refine List.pairwise_cons.2 ⟨λb P=>?_,e⟩;rcases Q2.1 P with rfl|P
   ·exact g
   ·have:=d.1 b P;omega
  ·rename_i i
   refine List.pairwise_cons.2 ⟨λb P=>?_,wv d.2 λb P=>f b (QJ _ P)⟩;rcases Q2.1 ((pN c a).mem_iff.1 P)with rfl|P
   ·omega
   ·exact d.1 b P
def B_:∀{P:List dz},(P.map (·.group)).Nodup->sR (P.foldr lG [])
 |[],_=>List.Pairwise.nil
 |x::P,a=>by
  rw[QY,List.nodup_cons]at a;refine wv (B_ a.2) λb c d=>a.1 ?_;rw[<-d];exact Xk.2 ⟨b,(vJ P).mem_iff.1 c,rfl⟩
def wx:∀{b a:List dz},(b.Pairwise λx c=>¬c.group<x.group)->sR a->b.Perm a->b=a
 |[],a,_,_,P=>by have:=P.length_eq;cases a;rfl;simp at this
 |x::b,[],_,_,P=>by have:=P.length_eq;simp at this
 |x::b,c::a,g,i,P=>by
  have e:=List.pairwise_cons.1 g;have f:=List.pairwise_cons.1 i;have j:x=c:=by
   rcases Q2.1 (P.mem_iff.1 (QV ..))with h|h
   ·exact h
   rcases Q2.1 (P.mem_iff.2 (QV ..))with d|d
   ·exact d.symm
   have:=f.1 x h;exact Zz this (e.1 c d)
  subst j;rw[wx e.2 f.2 P.cons_inv]
section
variable {w w':World} {p r:Nat} {R:du}
def ke.RB(b:ke w p r R):((R.rows.map (·.2)).map (·.group)).Nodup:=by
 have a:=b.map.tidy;unfold Tidy at a;rw[List.map_map]at a⊢;have:R.rows.map ((·.group)∘(·.2))=R.rows.map ((·.1)∘λP=>(P.1,rp P.2)):=List.map_congr_left λP c=>(b.ok P c).2;rw[this];exact a
def ke.Cw(P:ke w p r R):sR R.list:=B_ P.RB
def Kz(g:ke w p r R)(a:R.rows.length<=20000000):ZG 346 #[XL p] w (Ok (qw EA 244 w R.list)):=by
 refine vo ⟨p,0,rfl,_,ae g.at' rfl,mapRange NF g.map λw6 O Q s6=>?_⟩;refine⟨λz j k l w'=>∃(left:List (Int×dz)) (b:List dz) (i:XN),z=left.length/\dQ w' w.heap.size r (Value.int .i64) (R.rows.map λc=>(c.1,rp c.2)) (left.map λc=>(c.1,rp c.2))/\(∀c∈left,dz.Ok c.2)/\
  (b++left.map (·.2)).Perm (R.rows.map (·.2))/\aU EA 244 i w' j k l b/\(∀P,i P->w.heap.size<P)/\ai w w',⟨_,R.rows,[],λ_=>False,rfl,O,λc m=>(g.ok c m).1,List.Perm.refl _,aU.nil _,λP a=>a.elim,Q⟩,?_⟩
 rintro z j k l _ A ⟨left,b,i,rfl,B,C,n,e,f,o⟩;have q:b.length+left.length=R.rows.length:=by have:=n.length_eq;simpa using this
 have b4:=e.len dC;refine vx B (λS=>.inl ⟨rfl,?_⟩) (λa2 a3 l1 l2 s T U V W b5=>.inr ⟨_,_,rfl,yQ V ?_⟩)
 ·have X:left=[]:=by simpa using S
  subst X;refine PC.ok (Lu e (by simp at q;omega)) ?_;rintro _ b6 ⟨rfl,Y,t,u,v,Z⟩;have he:Y=R.list:=wx u g.Cw ((t.trans (by simpa using n)).trans (vJ _).symm);subst he;exact⟨rfl,Ok.mk ⟨j,k,l,i,rfl,v,o.new Z λP a=>.inr (by have:=f P (e.self P a);omega),λP a=>by have:=f P a;omega⟩⟩
 ·obtain⟨E,a5,rfl,rfl,m⟩:=List.map_eq_append_iff.1 T
  obtain⟨c,F,rfl,H,rfl⟩:=List.map_eq_cons_iff.1 m;simp only[Prod.mk.injEq]at H;obtain⟨rfl,rfl⟩:=H;have a0:=C c sM;have b7:=o.size;have b3:w.heap.size<A.heap.size:=B.lt;refine⟨_,_,_,_,rfl,PA.mk λb8 I b9 b0=>aB (Lb c.2) b0 rfl λc0 J c1 x=>⟨_,_,_,ae x rfl,ae x rfl,ae x rfl,PA.mk λL M c2 b1=>?_⟩⟩;have y:ak (λP=>P=w.heap.size) A L:=((W.ah I).new J λP a=>.inr (by have a:P=s.heap.size:=a;omega)).ah M;refine d_ (c:=EA) (x:=c.2) (e.af y λP a d=>by have d:P=w.heap.size:=d;have:=f P a;omega) SH b1 (D:=λ_=>False) ⟨rfl,a0⟩ (λP a=>a.elim) (by simp at q;unfold aT;omega) (by simp at q;unfold maxLen;omega) λa' c' c3 F2 a4 N b2=>⟨_,_,_,rfl,_,?_,E++F,b++[c.2],F2,rfl,?_,λa1 K=>C a1 (by simp at K⊢;rcases K with K|K;exact .inl K;exact .inr (.inr K)),?_,a4,λP a=>?_,?_⟩
  ·simp
  ·have h:dQ L w.heap.size r (Value.int .i64) (R.rows.map λc=>(c.1,rp c.2)) ((E++F).map λc=>(c.1,rp c.2)):=by
    rw[Q3];exact((U.ah I).af J (λd=>by have d:w.heap.size=s.heap.size:=d;omega) (λd=>by have d:r=s.heap.size:=d;have:=g.map.lt;omega)).ah M
   refine h.af N (λd=>by have:=f _ (e.self _ d);omega) (λd=>by have:=f _ (e.self _ d);have:=g.map.lt;omega)
  ·refine List.Perm.trans ?_ n
   simp only[Q3,QY,XQ];refine List.Perm.append_left b ?_;rw[List.singleton_append];exact List.perm_middle.symm
  ·rcases b2 P a with h|h|h
   ·exact f P h
   ·exact h.elim
   ·have:=y.size;omega
  ·exact(o.new y λP a=>.inr (by have a:P=w.heap.size:=a;omega)).new N λP a=>.inr (by have:=f P (e.self P a);omega)
end
end Go.Proofs.YtkpomgifkloklacGreatDoor
namespace Go.aw
open Go
variable{a c i:Nat}{f:XN}{Q W:Operand}{d:ZH}{h:Program}{j:Type}{B g o:TypeId}{m s:XR}{b:World}
def xO{bytes:Nat}{P:jB j}(v:iI h g o P.k bytes)(C:Ku h o=true){w:List j}(l:aU P o f b d a c w)(S:i<=a)(n:∀k,aU P o f k d i c (w.take i)->ak (λe=>aI d=some e) b k->k.heap.size=b.heap.size->m (.tuple #[]) k):
  aH h (Builtin.clear_ #[g] B #[.slice (cz d i c P.k) (a-i) (c-i)]) b m s:=by
 rcases Nat.lt_or_ge i a with T|U
 rotate_left
 ·obtain rfl:i=a:=oM
  rw[Nat.sub_self];exact aH.mk (w':=b) (v:=.tuple #[]) (by cases cz d i c P.k<;>simp[Builtin.clear_,run_underlying v.under]) (n b (l.take (Q4 _)) (ak.refl _) rfl)
 obtain⟨cs,D,q,E,x⟩:=l.body;have F:=q.length;rcases q.cases with⟨_,V,_,_⟩|⟨y,H,rfl,I,J,z,K⟩
 ·omega
 have r:c<=maxLen:=by
  obtain⟨_,W,_,A,_,_,_,r,_⟩:=q.row.2.resolve_left (by rintro⟨l,_⟩;cases l);simp only[XX]at A;rw[A.2.2];exact r
 have L:i*P.k<=a*P.k:=Q0 _ oM;have X:a*P.k<=c*P.k:=Q0 _ J;rw[fp (show c≠i by omega),Xz];refine Nb v C I (by rw[z,Nat.sub_mul];omega) λk p M N O Q R=>?_;have t:ak (λe=>aI (some (⟨y,0,none⟩:Addr))=some e) b k:=Q.mono λe _ o=>by rw[o];rfl
 refine n k ⟨⟨cs.take (i*P.k),D,⟨⟨by rw[Qy,F];omega,.inr ⟨y,c,p,rfl,Qj _,M,oM,r,by rw[N,z],?_⟩⟩⟩,(E.af t λe u=>(x e u).2).take i,x⟩,l.self,λe u=>Qk (l.aF e u) t.size⟩ t R;rw[O,<-K,List.take_take,X2 L]
def Ox(j:0<c)(k:a<9223372036854775808):(do eqGuard .quo g Q W (XH (a:Int)) (XH (c:Int));binOp .quo g (XH (a:Int)) (XH (c:Int)):Sem Value).run h b= .ok (XH ((a/c:Nat):Int)) b:=by
 have e:c≠0:=oM
 have P:(a:Int).tdiv (c:Int)=((a/c:Nat):Int):=by rw[Int.tdiv_eq_ediv_of_nonneg oM];rfl
 have f:=Nat.div_le_self a c;generalize a/c=d at P f;have i:XG .i64 (d:Int)=(d:Int):=wrap_i64 bb;simp[eqGuard,binOp,Op.intDiv,e,P,i]
end Go.aw
namespace Go.Proofs.YtkpomgifkloklacGreatDoor
open Go.aw
def cZ(e:World)(f:Nat)(g:XN)(a:aM)(P:Nat)(b:List aj):Prop:=
 (cJ a=0/\0<P/\P<9223372036854775808/\b.length<=20000000)/\∃d c,d.every=P/\dL e g c f d a (b_ a b) (dN a b).rows b (js a P b)
variable{y:FuncId}{R b9 e q:Int}{E d9:List aj}{a c:Nat}{I:Nat×Nat}{Q W:Operand}{d r:ZH}{h:Program}{g o:TypeId}{b:World}{l:aj}
def Ow{d:aM}(P:0<a)(b:a<9223372036854775808)(c:E.length<=20000000):(js d a E).length*a<9223372036854775808/\(js d a E).length<=20000001:=by
 rw[xN];have e:=Nat.div_le_self E.length a;refine⟨?_,oM⟩;rcases Nat.lt_or_ge E.length a with h|h
 ·rw[Nat.div_eq_of_lt h];omega
 ·have:=Nat.div_mul_le_self E.length a
  rw[X7,Nat.one_mul];omega
section
variable {w w':World} {p:Nat} {F T D:XN} {d:aM} {every:Nat} {l:List aj}
def cZ.af(b:cZ w p F d every l)(c:ak T w w')(e:∀a,F a->¬T a):cZ w' p F d every l:=by
 obtain⟨f,g,P,h,i⟩:=b;exact⟨f,g,P,h,bL.af i dx c e⟩
def cZ.ah(P:cZ w p F d every l)(a:ai w w'):cZ w' p F d every l:=P.af a λ_ _ P=>P
def cZ.aF(a:cZ w p F d every l):∀P,F P->P<w.heap.size:=by obtain⟨e,f,b,g,c⟩:=a;exact c.aF
def uK(d:aM)(l:List aj)(c:l.length<=20000000):(b_ d l).entries.length<=20000000/\∀P,((ax (b_ d l).done P).getD []).length<=20000000:=by
 have a:=λP=>Cs d l (aY.new d) P;refine⟨?_,λP=>?_⟩
 ·have b:(b_ d l).entries.length=0+l.length:=(a (0,0,0)).2
  omega
 ·have b:((ax (b_ d l).done P).getD []).length<=0+l.length:=(a P).1
  omega
def Eu(d:aM)(l:List aj)(P:aj):ox (b_ d l) P (dN d l).rows=(dN d (l++[P])).rows:=by
 rw[Hk];unfold ox jm.add;rw[Hl]
def Mh(s:cZ w p F d every l)(t:eu b)(u:ai b w)(v:∀P,F P->b.heap.size<=P)(k:l.length+1<=20000000){f:aj}{m:ZH}(x:Row aQ 8 w D m a f.aN)(y:∀P,D P->P<w.heap.size/\¬F P)(z:f.Ok):
  ZG 103 #[XL p,jk f m a c] w (Ok λn w'=>n= .tuple #[]/\∃g,cZ w' p g d every (l++[f])/\dy F w g w'):=by
 obtain⟨⟨o,h,q,r⟩,L,A,rfl,B⟩:=s;obtain⟨C,E⟩:=uK d l r;obtain⟨H,I⟩:=Ow (d:=d) h q r;refine(Me B o t u v k C (Ev d l) H I (E _) x y z).mono ?_;rintro _ w' ⟨n,rfl,rfl,J,g,e,i,j,K⟩;refine Ok.mk ⟨rfl,g,⟨⟨o,h,q,by simpa using k⟩,J,e,j,?_⟩,K⟩;rw[Hm,Kt h,<-Eu,<-xN (d:=d)];exact i
def Uw:Ku XP 182=true:=kR
def Kv(a0:cZ w p F d every l)(hT:eu b)(g0:ai b w)(c6:∀c,F c->b.heap.size<=c)(hn:a<=l.length):
  ZG 102 #[XL p,XH (a:Int)] w (Ok λa1 w'=>a1= .tuple #[]/\∃H,cZ w' p H d every (l.take (a/every*every))/\dy F w H w'):=by
 obtain⟨⟨q,u,h3,h4⟩,P,i,rfl,h⟩:=a0;have c7:=h.bD;have e2:=h.aF;have c8:=aU.len (h.at' 5) dC;have I:=aU.len (h.at' 2) dC;rw[xN]at c8;obtain⟨k,v⟩:∃k,k=a/P.every:=⟨_,rfl⟩
 have s:k<=l.length/P.every:=by rw[v];exact Nat.div_le_div_right hn
 have J:k*P.every<=l.length:=Xx (Q0 _ s) (Nat.div_mul_le_self ..);have e3:k<=l.length:=Xx s (Nat.div_le_self ..);rw[<-v];have x:XG .i64 ((k:Int)*(P.every:Int))=((k*P.every:Nat):Int):=by
  rw[show((k:Int)*(P.every:Int))=((k*P.every:Nat):Int) by push_cast;rfl,wrap_i64 bb]
 have c9:XG .i64 ((k:Int)+1)=((k+1:Nat):Int):=aq oM;have ec:=aU.lb (h.at' 2);have qc:=aU.lb (h.at' 5);refine qu ⟨p,0,rfl,_,ae c7 rfl,aH.mk (Ox u oM) ⟨_,rfl,λK d0=>?_⟩⟩;rw[<-v,c9];simp only[Qx];have L:ai w K:=d0.af;have y:=dL.ah h L;have z:=y.bD;have a2:bL K F i (xL p P.cells {P with en:=k*P.every} d (b_ d l) (dN d l).rows (l.take (k*P.every)) (js d P.every l)):=y.same dx (k:=2) (ak.refl _) (aU.take (y.at' 2) (show k*P.every<=P.en from I▸J)) λj G m n=>by
  rcases j with _|_|_|_|_|_|j<;>first|exact n|exact Zz rfl m
 refine⟨p,0,rfl,_,_,_,ae z rfl,p,0,rfl,_,ae z rfl,by rw[x];exact Int.natCast_nonneg _,by rw[x];exact Int.ofNat_le.2 (Xx J (I▸ec)),p,0,rfl,?_⟩;rw[x,Qx];refine PS.mk z sM λd1 M e4 N=>?_;have O:dL d1 F i p {P with en:=k*P.every} d (b_ d l) (dN d l).rows (l.take (k*P.every)) (js d P.every l):=dL.store a2 M N;refine⟨p,0,rfl,_,_,_,ae N rfl,oM,by show _<=((P.qn:Nat):Int);omega,?_⟩;have f:∀c,aI P.qa=some c->F c/\i c=5:=λc e=>aU.self (h.at' 5) c e;have a3:¬aI P.qa=some p:=λg=>by have q:=(f p g).2;rw[h.self.2]at q;cases q
 refine xO R_ Uw (O.at' 5) (by show k+1<=P.qn;omega) λd2 a5 Q e5=>?_;have R:bL d2 F i (xL p ({P with en:=k*P.every}:uI).cells {P with en:=k*P.every,qn:=k+1} d (b_ d l) (dN d l).rows (l.take (k*P.every)) ((js d P.every l).take (k+1))):=O.same dx (k:=5) (Q.mono λc _ e=>f c e) a5 λj G m n=>by
  rcases j with _|_|_|_|_|_|j<;>first|exact n|exact Zz rfl m
 have S:=(R.at' 0).2;refine⟨p,0,rfl,_,_,_,ae S rfl,oM,by show _<=((P.qc:Nat):Int);omega,p,0,rfl,PS.mk S sM λT U e6 V=>?_⟩;have r:dL T F i p {P with en:=k*P.every,qn:=k+1} d (b_ d l) (dN d l).rows (l.take (k*P.every)) ((js d P.every l).take (k+1)):=dL.store R U V;have A:ak F w T:=(((ai.af L).then (M.mono λc _ g=>by have g:c=p:=g;rw[g];exact h.self.1)).then (Q.mono λc _ e=>(f c e).1)).then (U.mono λc _ g=>by have g:c=p:=g;rw[g];exact h.self.1);have d3:((js d P.every l).take (k+1))[k]? =some (dN d (l.take (k*P.every))).rows:=by
  rw[Xw,Zx oM];exact Mi s
 obtain⟨pb,po,es,d4,e7,e8,W,e9,ra,rn,rc,rfl,d5⟩:=(aU.row (bytes:=32) (r.at' 5) dC (by rw[Qy];unfold aT;omega)).el k _ d3;have c0:=W 0 dC;have c1:=W 1 dC;refine⟨p,0,rfl,_,_,_,ae V rfl,pb,po,d4,oM,by show(k:Int)<((k+1:Nat):Int);omega,_,_,_,_,c0,c1,PC.ok (Bp r q (hT.ah (g0.new A λc e=>.inr (c6 c e))) (by rw[Qy];omega) d5 (λc e=>r.aF c e.1) (by rw[oz];exact(uJ (jF q).1).2.2.1)) ?_⟩;rintro _ X ⟨B,Y,Z,c2,Fv,G,rfl,hv,b4,b5,t,b6⟩;have f2:=A.size;obtain⟨F1,e1,d6,g1,b7,-⟩:=r.Ew dx (k:=3) (w':=X) (G':=Fv) (C2:=xL p ({P with en:=k*P.every,qn:=k+1}:uI).cells {P with en:=k*P.every,qn:=k+1,vp:=B} d (b_ d (l.take (k*P.every))) (dN d l).rows (l.take (k*P.every)) ((js d P.every l).take (k+1)))
  (ai.af b6) (λc e C=>by have:=b5 c e;have:=r.aF c C;omega) hv.aF hv λj G m n=>by
   rcases j with _|_|_|_|_|_|j<;>first|exact n|exact Zz rfl m
 obtain⟨F2,b8,b9,g2,d7,-⟩:=d6.Ew dx (k:=4) (w':=X) (G':=G) (C2:=xL p ({P with en:=k*P.every,qn:=k+1}:uI).cells {P with en:=k*P.every,qn:=k+1,vp:=B,ra:=Y,rn:=Z,rc:=c2} d (b_ d (l.take (k*P.every))) (dN d (l.take (k*P.every))).rows (l.take (k*P.every)) ((js d P.every l).take (k+1)))
  (ak.refl _) (λc e C=>by
   rcases b7 c C with o|o
   ·have:=(t c e).1;have:=r.aF c o.1;omega
   ·exact Zz o (t c e).2.2) (λc e=>(t c e).2.1) b4 λj G m n=>by
   rcases j with _|_|_|_|_|_|j<;>first|exact n|exact Zz rfl m
 have c3:∀c,F2 c->F c\/w.heap.size<=c:=λc e=>by
  rcases d7 c e with o|o
  ·rcases b7 c o.1 with E|E
   ·exact .inl E.1
   ·exact .inr (by have:=b5 c E;omega)
  ·exact .inr (by have:=(t c o).1;omega)
 have d8:=(b9.at' 0).2;refine⟨_,_,_,_,rfl,p,0,rfl,PS.mk d8 sM λg3 c4 g4 d9=>PS.mk d9 sM λg5 c5 g6 e0=>Ok.mk ⟨rfl,F2,⟨⟨q,u,h3,by rw[Qy];omega⟩,{P with en:=k*P.every,qn:=k+1,vp:=B,ra:=Y,rn:=Z,rc:=c2},b8,rfl,?_⟩,?_,c3⟩⟩
 ·rw[<-Kw u s]
  exact dL.store b9 (c4.then c5) e0
 ·exact(A.ah b6).then ((c4.then c5).mono λc _ g=>by have g:c=p:=g;rw[g];exact h.self.1)
end
def Tn(P:Hn h g o):(do eqGuard .eql g Q W (.agg #[XH e,XH q]) (.agg #[XH R,XH b9]);binOp .eql g (.agg #[XH e,XH q]) (.agg #[XH R,XH b9]):Sem Value).run h b= .ok (.bool (e==R&&q==b9)) b:=by
 rw[Sem.run_bind,run_eqGuard_agg b .eql _ Q W _ _ P.hm,Result.andThen_ok,run_eql_struct];have:=P.equalIn 9998 (e,q) (R,b9) b;unfold nK at this;rw[this];rfl
section
variable {w w':World} {p:Nat} {F T D:XN} {d:aM} {every:Nat} {l l2:List aj}
def Ex(U:cZ w p F d every l)(V:eu b)(J:ai b w)(K:∀e,F e->b.heap.size<=e){L:ZH}(M:Row iX 96 w D L a l2)(e1:a<=c)(z:∀e,D e->e<w.heap.size/\¬F e)(e2:l2.length<=20000000)(b2:∀(W:Nat) (h k:aj),l[W]? =some h->l2[W]? =some k->aR h=aR k->h=k):
  ZG 53 #[XL p,.slice L a c] w (Ok λb3 w'=>∃A:Int,b3= XH A/\∃i,cZ w' p i d every l2/\dy F w i w'):=by
 have hn:=M.len;have X:=U;obtain⟨⟨h1,h2,h3,h4⟩,e0,b6,e3,B⟩:=U;have e4:=aU.len (B.at' 2) dC;have e5:=B.aF;refine oA ⟨λj w'=>∃P:Nat,j=P/\P<=l.length/\P<=l2.length/\l.take P=l2.take P/\ai w w',?_,?_⟩
 ·refine⟨λf j w'=>∃P:Nat,j=P/\P<=l.length/\P<=l2.length/\f=l.length-P/\l.take P=l2.take P/\ai w w',⟨_,0,rfl,Qj _,Qj _,rfl,rfl,ak.refl _⟩,?_⟩
  rintro f _ _ w9 ⟨P,rfl,Y,Z,rfl,n,t⟩;have h9:=dL.ah B t;have a4:=h9.bD;refine⟨p,0,rfl,_,_,_,ae a4 rfl,an.dec (λN=>?_) (λa5 c0 C=>⟨P,rfl,Y,Z,n,t.then C.af⟩)⟩;have a6:P<l.length/\P<l2.length:=by split at N<;>omega
  have m:l[P]? =some l[P]:=Qq a6.1;have E:l2[P]? =some l2[P]:=Qq a6.2;generalize l[P]=h at m;generalize l2[P]=k at E;obtain⟨e,o,es,O,c1,c2,H,ya,yn,yc,rfl,e6,e7⟩:=(M.ah t).el P k E;obtain⟨b7,o2,e8,c3,e9,f0,a0,u,v,x,rfl,a7,a1⟩:=(aU.row (bytes:=96) (h9.at' 2) dC ba).el P h m;have y0:=H 0 dC;have y1:=H 1 dC;have x0:=a0 0 dC;have x1:=a0 1 dC;refine⟨e,o,O,oM,oM,_,_,y0,y1,p,0,rfl,_,_,_,ae a4 rfl,b7,o2,c3,oM,oM,_,_,x0,x1,(k.origin==h.origin&&k.seq==h.seq),λf=>Tn Jt,λc0 C=>an.mk (λQ=>⟨_,?_,P+1,aq oM,oM,oM,rfl,?_,t.then C.af⟩) (λ_=>⟨P,rfl,Y,Z,n,t.then C.af⟩)⟩
  ·omega
  ·simp only[QK,beq_iff_eq]at Q
   have c4:=b2 P h k m E (by simp[aR,Q.1,Q.2]);rw[Qw,Qw,n,m,E,c4]
 rintro _ _ f1 ⟨j,rfl,c5,c6,n,q⟩;have c7:=dL.ah B q;have b9:=c7.bD;have f2:=q.size;refine⟨λw'=>∃f i,f<=l2.length/\cZ w' p i d every (l2.take f)/\dy F w i w',⟨p,0,rfl,_,_,_,ae b9 rfl,an.dec (λN=>?_) (λa5=>?_)⟩,?_⟩
 ·refine PC.ok (Kv (X.ah q) V (J.then q) K c5) ?_
  rintro _ f3 ⟨rfl,i,R,a9⟩;have b0:j/every*every<=j:=Nat.div_mul_le_self ..;refine⟨rfl,_,i,Xx b0 c6,?_,(ai.af q).then a9.af,λe g=>(a9.new e g).imp id oM⟩;have:l.take (j/every*every)=l2.take (j/every*every):=by
   have:=Zj (List.take (j/every*every)) n
   rwa [List.take_take,List.take_take,X2 b0]at this
  rw[<-this];exact R
 ·have c8:j=l.length:=oM
  refine⟨l.length,F,oM,?_,ai.af q,λe g=>.inl g⟩;rw[c8,List.take_length]at n;rw[<-n];exact X.ah q
 rintro _ g1 ⟨f,F1,hm,b1,a2⟩;have c9:=b1;obtain⟨-,q1,f4,f5,b4⟩:=b1;have a3:=aU.len (b4.at' 2) dC;rw[Qy,X2 hm]at a3;have g2:=a2.af.size;refine⟨p,0,rfl,_,_,_,ae b4.bD rfl,oM,oM,?_⟩;rw[Qx,a3];refine⟨λA s w'=>∃(P:Nat) (i:XN),s=P/\P<=a-f/\A=a-f-P/\cZ w' p i d every (l2.take (f+P))/\dy F w i w',⟨_,0,F1,rfl,Qj _,rfl,c9,a2⟩,?_⟩;rintro A _ _ b5 ⟨P,S,rfl,hj,rfl,T,r⟩;refine an.dec (λN=>?_) (λa5=>?_)
 ·have d0:f+P<l2.length:=oM
  have m:l2[f+P]? =some l2[f+P]:=Qq d0;generalize l2[f+P]=h at m;have d1:=M.af r.af λe g=>(z e g).2;obtain⟨e,o,es,O,c1,c2,H,u,v,x,rfl,a7,a1⟩:=d1.el (f+P) h m;have d2:cz L f c 10=some ⟨e,o+f*10,none⟩:=by rw[O];exact fp oM
  have g3:=r.af.size;refine⟨e,o+f*10,d2,oM,oM,bq (es:=aD h u v x) (k:=10) (aX h u v x) rfl (λs ht=>by rw[Qx];have:=H s ht;rw[show o+f*10+P*10+s=o+(f+P)*iX.k+s by show _=o+(f+P)*10+s;omega];exact this) (PA.mk λg4 d3 g5 d4=>aB (aX h u v x) d4 rfl λb8 d5 g6 d6=>au (aX h u v x) d6 ?_)⟩;have I:ai b5 b8:=d3.new d5 λe g=>.inr (by have g:e=b5.heap.size:=g;omega);have a8:dy F w S b8:=⟨r.af.ah I,r.new⟩
  have d7:∀e,D e->¬S e:=λe g hf=>by
   rcases r.new e hf with y|y
   ·exact(z e g).2 y
   ·have:=(z e g).1;omega
  refine PC.ok (Mh (T.ah I) V (J.new a8.af λe g=>.inr (K e g)) (λe g=>?_) (by rw[Qy];omega) (a7.ah I) (λe g=>⟨by have:=(z e g).1;have:=I.size;omega,d7 e g⟩) a1) ?_
  ·rcases r.new e g with y|y
   ·exact K e y
   ·have:=J.size;omega
  rintro _ g7 ⟨rfl,F3,d8,d9⟩;refine⟨rfl,_,?_,P+1,F3,aq oM,oM,rfl,?_,a8.trans d9⟩
  ·omega
  ·rw[show f+(P+1)=f+P+1 by omega,Qw,m];exact d8
 ·rw[Qz oM]at T
  exact Ok.mk ⟨_,rfl,S,T,r⟩
end
section
variable {w w':World} {p:Nat} {F T D:XN} {d:aM} {every:Nat} {l l2:List aj}
def Mj{d:aM}{ta pa:ZH}{tn tc pn pc:Nat}{ev:Int}(n:cJ d=0)(h5:aP ev)(hT:eu w)(o:aZ w D d ta tn pa pn)(hD:∀P,D P->P<w.heap.size):
  ZG 50 #[.agg #[.slice ta tn tc,.slice pa pn pc],XH ev] w (Ok λe3 w'=>∃p F,e3= XL p/\cZ w' p F d (max 1 ev).toNat []/\(∀P,F P->w.heap.size<=P)/\ai w w'):=by
 have h6:=o.aW.len;have X:=o.aW.dK;have h7:=o.xM.len;have h8:=o.xM.dK;have e6:d.projs.length<=8:=(uJ (jF n).1).2.2.1;obtain⟨every,e7⟩:∃every:Nat,every=(max 1 ev).toNat:=⟨_,rfl⟩
 have e8:(if ev>1 then ev else 1)=(every:Int):=by split<;>omega
 have c0:0<every/\every<9223372036854775808:=by unfold aP at h5;omega
 rw[<-e7];refine Ct ?_;refine PA.mk λw1 k1 s1 g1=>⟨_,_,_,ae g1 rfl,PC.ok (oB (o.xM.ah k1) λP B=>by have:=hD P B;omega) ?_⟩
 rintro _ a ⟨i,g,v,x,rfl,Y,k8,h9⟩;have z8:=k8.size;refine⟨_,_,_,rfl,PA.mk λc1 Z l4 d8=>?_⟩;rw[e8]at d8;have e9:ai w c1:=(k1.then k8).then Z;have ga:=Z.get (k8.get g1 id) id;have l5:=Z.size;refine⟨_,_,_,ae ga rfl,λq I w'=>∃b:Nat,I=b/\b<=tn/\q=tn-b/\ak (·=a.heap.size) c1 w'/\∃r s J l,w'.heap[a.heap.size]? =some (.cells #[.slice r s J,.slice i g v,XH (every:Int),.slice none 0 0,.pointer none,.slice none 0 0,.slice none 0 0] 185 (0,0))/\aU jG 111 l w' r s J (d.types.take b)/\∀P,l P->c1.heap.size<=P,
  ⟨_,0,rfl,Qj _,rfl,ak.refl _,none,0,0,λ_=>False,d8,aU.nil _,λ_ o=>o.elim⟩,?_⟩
 rintro q _ _ y ⟨b,rfl,hj,rfl,kk,r,s,J,l,K,t,L⟩;have a7:ai w y:=e9.new kk λP B=>.inr oM;have zk:=kk.size;refine an.dec (λl6=>?_) (λl7=>?_)
 ·have e0:b<d.types.length:=oM
  obtain⟨P,a4,es,ha,B,i0,f0,fa,fn,fc,rfl,a8⟩:=(o.aW.ah a7).el b d.types[b] (by simp[e0]);have e1:d.types[b]? =some d.types[b]:=Qq e0;generalize d.types[b]=a0 at a8 e1;have c2:=f0 0 dC;have i1:jG.k=1:=rfl;rw[i1,Nat.mul_one]at c2;refine⟨P,a4,ha,oM,oM,fa,fn,fc,by rw[Qx];exact c2,PA.mk λl8 i2 l9 i3=>PS.mk i3 sM λe2 i4 m0 i5=>⟨_,_,_,ae i5 rfl,?_⟩⟩;have a1:ai y e2:=i2.new i4 λP B=>.inr oM;have f1:=a7.then a1;obtain⟨C,l1,l2,l3⟩:=ez.boxes (N:=Ho) a8;have c4:=a8.dK;refine PC.ok (oC (l2.ah a1) λP B=>by have:=hD P B;have:=f1.size;omega) ?_;rintro _ e4 ⟨a9,M,f2,F9,rfl,b0,e5,i6⟩;have m1:=a1.size;have m2:=e5.size;have a2:∀P,aI a9=some P->e2.heap.size<=P:=λP B=>i6 P (b0.self P B);have f3:∀P,aI a9=some P->P<e4.heap.size:=λP B=>b0.aF P (b0.self P B);refine⟨_,_,_,rfl,λq I w'=>∃b:Nat,I=b/\b<=M/\q=M-b/\dO Ho 104 e4 a9 M f2 C b w',⟨_,0,rfl,Qj _,rfl,dO.start b0.alone⟩,?_⟩;rintro q _ _ i7 ⟨e,rfl,h,rfl,z⟩;have m3:=z.len;have m4:C.length=a0.length:=by rw[<-l1];simp
  have i8:=a8.len;have N:ai y i7:=(a1.then e5).new z.af λP B=>.inr (by have:=a2 P B;omega);have m5:=z.af.size;refine an.dec (λf4=>?_) (λf5=>?_)
  ·obtain⟨a3,rfl⟩:=z.some oM
   have f6:=f3 a3 rfl;have a5:C[e]? =some C[e]:=Qq oM;have O:=l3 C[e] (XY oM);generalize C[e]=bx at a5 O;refine⟨a3,0,rfl,oM,oM,_,_,_,z.cell rfl a5 (by show M*4<=aT;unfold aT at c4⊢;omega) 3 _ rfl,PC.ok (rz (O.1.ah N) λP B=>by have:=hD P B;have:=(a7.then N).size;omega) ?_⟩;rintro _ m6 ⟨m7,m8,m9,G,rfl,c3,i9,j⟩;refine⟨_,_,_,rfl,a3,0,rfl,oM,oM,?_⟩;refine(z.ah i9).step (g:=a3) rfl a5 (c3.row (bytes:=32) dC ?_) O.2 (λu E=>⟨by have:=j u E;omega,c3.aF u E⟩) f6 λn0 f7 n1 n2=>⟨_,?_,e+1,aq (by unfold aT at c4;omega),oM,rfl,f7⟩
   ·have f:=O.1.dK
    have m:=O.1.len;show bx.x.bl.length*32<=aT;have n3:bx.n=bx.x.bl.length:=m;have n4:bx.n*32<=aT:=f;omega
   ·omega
  ·obtain rfl:e=M:=oM
   obtain⟨Fd,n,c6⟩:=z.done;rw[l1,Ey]at n;have c5:=N.get K id;refine⟨a.heap.size,0,rfl,_,_,_,ae c5 rfl,Kx (c:=jG) (x:=a0) (t.ah N) Ju (D:=Fd) ⟨_,_,_,rfl,n.row dC (by rw[<-i8];exact c4)⟩ (λP B=>⟨n.aF P B,λc=>?_⟩) ?_ ?_ λa' Q n8 F' f8 c7 g0 k9=>⟨_,_,_,rfl,a.heap.size,0,rfl,?_⟩⟩
   ·have f:=t.aF P (t.self P c)
    rcases c6 P B with m|m
    ·have:=a2 P m;omega
    ·omega
   ·have:=List.length_take_le b d.types;unfold aT at X⊢;omega
   ·have:=List.length_take_le b d.types;unfold aT at X;unfold maxLen;omega
   ·have j0:¬aI r=some a.heap.size:=λc=>by have:=L _ (t.self _ c);omega
    have j1:=c7.get c5 j0;have o0:=c7.size;refine PS.mk j1 sM λo1 g2 o2 j2=>⟨_,?_,b+1,aq (by unfold aT at X;omega),oM,rfl,?_,a',s+1,Q,F',j2,?_,?_⟩
    ·omega
    ·exact((kk.ah N).new c7 λP B=>.inr (L _ (t.self P B))).then g2
    ·rw[Qw,e1]
     refine f8.af g2 λP B c=>?_;rcases g0 P B with f|f|f
     ·have:=L P f;omega
     ·rcases c6 P f with m|m
      ·have:=a2 P m;omega
      ·omega
     ·omega
    ·intro P B
     rcases g0 P B with f|f|f
     ·exact L P f
     ·rcases c6 P f with m|m
      ·have:=a2 P m;omega
      ·omega
     ·omega
 ·obtain rfl:b=tn:=oM
  rw[Qz oM]at t;have g3:=(Y.ah Z).af kk λP B c=>by have:=Y.aF P B;omega
  have o4:a.heap.size<y.heap.size:=az K;have g4:aZ y (λP=>l P\/x P) d r s i g:=⟨(t.row (bytes:=24) dC (by rw[<-h6];exact X)).mono λP B=>.inl B,(g3.row (bytes:=40) dC (by rw[<-h7];exact h8)).mono λP B=>.inr B⟩
  have A:∀P,l P\/x P->w.heap.size<=P/\P<y.heap.size/\P≠a.heap.size:=λP B=>by
   rcases B with B|B
   ·have:=L P B;have:=t.aF P B;omega
   ·have:=h9 P B;have:=Y.aF P B;omega
  refine⟨a.heap.size,0,rfl,_,_,_,_,_,_,ae K rfl,ae K rfl,PC.ok (Ez n g4 λP B=>(A P B).2.1) ?_⟩;rintro _ j3 ⟨vp,R,rfl,hv,b1,b2⟩;have o5:=b2.size;have g5:=hv.aF;refine⟨_,rfl,a.heap.size,0,rfl,PS.mk (b2.get K id) sM λS c8 o6 g6=>⟨a.heap.size,0,rfl,_,_,_,ae g6 rfl,?_⟩⟩;have l0:=Y.len dC;have c9:aZ S (λP=>l P\/x P) d r s i g:=(g4.ah b2).af c8 λP B c=>(A P B).2.2 c;have g7:cw S vp R (aY.new d):=hv.af c8 λP B c=>by have c:P=a.heap.size:=c;have:=b1 P B;omega
  refine⟨λq I w'=>∃(b:Nat) (ra:ZH) (T rc:Nat) (G:XN),I=b/\b<=g/\q=g-b/\ak (·=a.heap.size) S w'/\w'.heap[a.heap.size]? =some (.cells #[.slice r s J,.slice i g v,XH (every:Int),.slice none 0 0,XL vp,.slice ra T rc,.slice none 0 0] 185 (0,0))/\
   cx w' G ra T rc ((d.projs.take b).map λp=>(⟨p,[]⟩:du))/\∀P,G P->S.heap.size<=P/\P<w'.heap.size,⟨_,0,none,0,0,λ_=>False,rfl,Qj _,rfl,ak.refl _,g6,cx.nil _,λP B=>B.elim⟩,?_⟩
  rintro q _ _ b3 ⟨e,ra,T,rc,G,rfl,h,rfl,H,d0,b4,j⟩;have o7:=H.size;refine an.dec (λf4=>?_) (λf5=>?_)
  ·have j4:e<d.projs.length:=oM
   have E:d.projs[e]? =some d.projs[e]:=Qq j4;generalize d.projs[e]=u at E;obtain⟨P,a4,es,a6,d5,i0,b5,rfl,d6⟩:=(c9.af H λP B c=>(A P B).2.2 c).xM.el e u E;refine⟨P,a4,a6,oM,oM,bq (es:=mG u) (k:=5) (oy u) rfl (λa0 ht=>by rw[Qx];exact b5 a0 ht) (PA.mk λo8 j5 o9 j6=>aB (oy u) j6 rfl λp0 j7 p1 j8=>λj9 g8=>⟨λ_=>False,a.heap.size,0,rfl,id,?_⟩)⟩;have d1:ai b3 j9:=(j5.new j7 λP B=>.inr (by have B:P=b3.heap.size:=B;omega)).then g8.af;refine⟨_,_,_,ae (d1.get d0 id) rfl,au (oy u) ((g8.af (S:=λ_=>False)).get j8 id) (PC.ok Mk ?_)⟩;rintro _ p2 ⟨p',r',rfl,d2,p3,p4,p5,p6,d3⟩;have k0:p'≠r':=λc=>by
    obtain⟨es,cl,hm,-⟩:=d2.map.at';have:=d2.at';rw[c,hm]at this;cases this
   have p7:=d3.size;have p8:=d1.size;refine⟨_,rfl,d3,PA.mk λp9 d4 q0 k2=>⟨d4,?_⟩⟩;have b6:=(d1.then d3).then d4;have k3:=b4.len;rw[Q8,Qy,X2 oM]at k3;refine(b4.ah b6).push (λP B=>by have:=(j P B).2;omega) (d2.ah d4) (λB=>by have:=(j _ B).2;omega) (λB=>by have:=(j _ B).2;omega) k0 Md k2 (by rw[Q8,Qy];omega) λf9 h0 q1 G3 k4 g9 k5 h1=>⟨_,_,_,rfl,a.heap.size,0,rfl,?_⟩
   have k6:=g9.get (b6.get d0 id) λB=>by have:=(j _ B).1;omega
   have d7:∀P,G3 P->S.heap.size<=P:=λP B=>by
    rcases k5 P B with f|f|f|f
    ·exact(j P f).1
    ·omega
    ·omega
    ·omega
   refine PS.mk k6 sM λq2 h3 q3 k7=>⟨_,?_,e+1,f9,T+1,h0,G3,aq oM,oM,rfl,((H.ah b6).new g9 λP B=>.inr (j P B).1).then h3,k7,?_,λP B=>⟨d7 P B,by have:=h1 P B;omega⟩⟩
   ·omega
   ·rw[Qw,E,Q3]
    exact k4.af h3 λP B c=>by have c:P=a.heap.size:=c;have:=d7 P B;omega
  ·rw[Qz oM]at b4
   have h2:∃U,dL b3 (λP=>∃k,(match k with|0=>P=a.heap.size|1=>l P\/x P|3=>R P|4=>G P|_=>False:Prop)) U a.heap.size ⟨r,s,J,i,g,v,every,none,0,0,vp,ra,T,rc,none,0,0⟩ d (b_ d []) (dN d []).rows [] []:=by
    refine bL.join (G:=λk P=>match k with|0=>P=a.heap.size|1=>l P\/x P|3=>R P|4=>G P|_=>False) (λk=>?_) (λe b P h hj=>?_) λk P B=>?_
    ·match k with
     |0=>exact⟨rfl,d0⟩
     |1=>exact c9.af H λP B c=>(A P B).2.2 c
     |2=>exact aU.nil _
     |3=>exact g7.af H λP B c=>by have c:P=a.heap.size:=c;have:=b1 P B;omega
     |4=>exact b4
     |5=>exact aU.nil _
     |k+6=>trivial
    ·have V:∀e:Nat,(match e with|0=>P=a.heap.size|1=>l P\/x P|3=>R P|4=>G P|_=>False:Prop)->e=(if P=a.heap.size then 0 else if P<y.heap.size then 1 else if P<j3.heap.size then 3 else 4):=λe h=>by
      rcases e with _|_|_|_|_|e
      ·have h:P=a.heap.size:=h
       rw[Zx h]
      ·have:=A P h;rw[Zq oM,Zx oM]
      ·exact h.elim
      ·have:=b1 P h;have:=g5 P h;rw[Zq oM,Zq oM,Zx oM]
      ·have:=j P h;rw[Zq oM,Zq oM,Zq oM]
      ·exact h.elim
     rw[V e h,<-V b hj]
    ·rcases k with _|_|_|_|_|k
     ·have B:P=a.heap.size:=B
      omega
     ·have:=A P B;omega
     ·exact B.elim
     ·have:=g5 P B;omega
     ·have:=j P B;omega
     ·exact B.elim
   obtain⟨U,hq⟩:=h2;have b7:ai w b3:=(((a7.then b2).new c8 λP B=>.inr (by have B:P=a.heap.size:=B;omega)).new H λP B=>.inr (by have B:P=a.heap.size:=B;omega))
   have h4:∀P,(∃k,(match k with|0=>P=a.heap.size|1=>l P\/x P|3=>R P|4=>G P|_=>False:Prop))->w.heap.size<=P:=λP ⟨k,B⟩=>by
    rcases k with _|_|_|_|_|k
    ·have B:P=a.heap.size:=B
     omega
    ·exact(A P B).1
    ·exact B.elim
    ·have:=b1 P B;omega
    ·have:=j P B;omega
    ·exact B.elim
   refine PC.ok (Bq hq n (hT.ah b7) sM (by rw[oz];exact e6) sM sM) ?_;rintro _ q4 ⟨rfl,q',F',W,b8,b9,d9⟩;refine⟨rfl,Ok.mk ⟨a.heap.size,F',rfl,⟨⟨n,c0.1,c0.2,sM⟩,q',W,b9,?_⟩,λP B=>?_,b7.new d9.af λP B=>.inr (h4 P B)⟩⟩
   ·rw[Ml];simpa using b8
   ·rcases d9.new P B with f|f
    ·exact h4 P f
    ·have:=b7.size;omega
end
def Jv(f:aM)(a:List aj):∀P∈(dN f a).rows,P.rows.length<=a.length:=by
 have:∀(a:List aj) (b:jm) (c:Nat),(∀P∈b.rows,P.rows.length<=c)->∀P∈(a.foldl jm.add b).rows,P.rows.length<=c+a.length:=by
  intro a
  induction a with
  |nil=>intro b c g P d;exact g P d
  |cons e a l=>
   intro b c g P d;have:=l (b.add e) (c+1) (λh i=>?_) P d
   ·simp only[Xq];omega
   ·obtain⟨j,k,rfl⟩:=Xk.1 (show h∈b.rows.map λP=>P.add (b.view.add e).1 (qT ((b.view.add e).2.state e.aW e.agg) P.p)from i)
    have n:=g j k;unfold du.add;dsimp only;split
    ·omega
    ·split
     ·omega
     ·exact Xx (vO ..) oM
 intro P d;have:=this a (jm.new f) 0 (λh i=>by
  obtain⟨j,k,rfl⟩:=Xk.1 (show h∈f.projs.map λm=>(⟨m,[]⟩:du)from i);exact Q4 0) P d
 omega
def gZ(a:aM)(b:List aj)(P:Int):List dz:=if P<0 then []else match(dN a b).rows[P.toNat]? with
 |none=>[]
 |some c=>c.list
section
variable {w w':World} {p:Nat} {F T D:XN} {d:aM} {every:Nat} {l:List aj}
def Hp(r:cZ w p F d every l):
  ZG 344 #[XL p,XH e,XH q] w (Ok λs w'=>∃b c f G,s= .tuple #[.agg #[XH (((b_ d l).state e q).getD En).version,.slice b c f],.bool ((b_ d l).state e q).isSome]/\aU eT 73 G w' b c f (((b_ d l).state e q).getD En).cells/\(∀P,G P->w.heap.size<=P)/\ai w w'):=by
 obtain⟨y,z,t,rfl,i⟩:=r;refine qv (PA.mk λA g B u=>⟨p,0,rfl,_,ae (dL.ah i g).bD rfl,PC.ok (mE ((dL.ah i g).at' 3)) ?_⟩);rintro _ C ⟨b,c,f,G,rfl,v,j,h⟩;have E:=h.size;refine⟨_,_,_,_,_,rfl,PS.mk (h.get u id) sM λH k I x=>PS.mk x sM λJ m K n=>⟨_,_,_,_,ae n rfl,ae n rfl,Ok.mk ⟨b,c,f,G,rfl,?_,λP a=>?_,?_⟩⟩⟩
 ·exact v.af (k.then m) λP a o=>by have o:P=w.heap.size:=o;have:=j P a;omega
 ·have:=j P a;omega
 ·exact(g.then h).new (k.then m) λP a=>.inr (by have a:P=w.heap.size:=a;omega)
def Cu(a:cZ w p F d every l):ZG 342 #[XL p] w (Ok (qw wK 141 w (b_ d l).entries)):=by
 obtain⟨b,i,c,rfl,P⟩:=a;refine nN ⟨p,0,rfl,_,ae P.bD rfl,PC.ok (Cv (P.at' 3) (uK d l b.2.2.2).1) ?_⟩;rintro _ j ⟨e,f,g,G,rfl,h⟩;exact⟨_,_,_,rfl,Ok.mk ⟨e,f,g,G,rfl,h⟩⟩
def Ky(j:cZ w p F d every l):ZG 343 #[XL p,XH e] w (Ok λk w'=>qw EA 244 w (gZ d l e) k w'/\sR (gZ d l e)):=by
 obtain⟨m,B,n,rfl,a⟩:=j;have C:=cx.len (a.at' 4);refine rA (an.dec (λg=>Ok.mk ⟨⟨none,0,0,λ_=>False,rfl,?_,ak.refl _,λo b=>b.elim⟩,?_⟩) (λc=>⟨p,0,rfl,_,_,_,ae a.bD rfl,an.dec (λq=>Ok.mk ⟨⟨none,0,0,λ_=>False,rfl,?_,ak.refl _,λo b=>b.elim⟩,?_⟩) (λq=>?_)⟩))
 ·unfold gZ;rw[Zx g];exact aU.nil _
 ·unfold gZ;rw[Zx g];exact List.Pairwise.nil
 ·unfold gZ;rw[Zq c,Q7 oM];exact aU.nil _
 ·unfold gZ;rw[Zq c,Q7 oM];exact List.Pairwise.nil
 ·obtain⟨P,rfl⟩:∃P:Nat,e=P:=⟨e.toNat,oM⟩
  have f:(dN d l).rows[P]? =some (dN d l).rows[P]:=Qq oM;have h:(dN d l).rows[P]∈(dN d l).rows:=XY oM;have r:gZ d l (P:Int)=(dN d l).rows[P].list:=by unfold gZ;rw[Zq c,Qx,f]
  rw[r];generalize(dN d l).rows[P]=s at f h;obtain⟨t,E,H,u,v,i,-⟩:=cx.elem (a.at' 4) f;refine⟨p,0,rfl,_,_,_,ae a.bD rfl,t,0,u,oM,oM,_,by rw[Qx];exact v,PC.ok (Kz i (Xx (Jv d l s h) m.2.2.2)) ?_⟩;rintro _ I ⟨x,y,z,G,rfl,A⟩;exact⟨_,_,_,rfl,Ok.mk ⟨⟨x,y,z,G,rfl,A⟩,i.Cw⟩⟩
end
def Bu{P:aj}:∀{l:List aj},(∀x∈l,aR x≠aR P)->cX P l=l.take (posOf (λx=>dU x P) l)++P::l.drop (posOf (λx=>dU x P) l)
 |[],_=>rfl
 |x::l,b=>by
  have c:=b x (QV ..);unfold cX posOf;rw[List.takeWhile_cons]
  by_cases a:dU x P=true
  ·rw[Zx a,Zq (by rw[im a];simp)]
   have:=Bu (l:=l) λd e=>b d (QJ _ e);rw[this];simp[posOf]
  ·rw[Zq a,Zx ((CC c).resolve_left a)]
   rfl
structure oG (most:Nat) (l:List aj):Prop where
 Hi:Oz l
 ids:(l.map aR).Nodup
 ok:∀e∈l,e.Ok
 le:l.length<=most
def oG.nil(P:Nat):oG P []:=⟨List.Pairwise.nil,sM,sM,Qj _⟩
def oG.add(c:oG a E)(g:l.Ok):oG a (eP a E l).2:=by
 unfold eP;split
 ·exact c
 rename_i e;rw[not_or]at e;have f:∀P∈E,aR P≠aR l:=by
  have:=e.2;simp only[List.any_eq_true,beq_iff_eq,not_exists,not_and]at this;exact this
 have d:=cV l E;refine⟨uO c.Hi f,?_,λP b=>?_,by rw[d.length_eq,Xq];omega⟩
 ·refine(d.map aR).nodup_iff.2 ?_
  rw[QY,List.nodup_cons];exact⟨λh=>by obtain⟨P,b,i⟩:=Xk.1 h;exact f P b i,c.ids⟩
 ·rcases Q2.1 (d.mem_iff.1 b)with rfl|b
  ·exact g
  ·exact c.ok P b
def oG.sub(P:oG a E)(b:d9.Sublist E):oG a d9:=
 ⟨P.Hi.sublist b,P.ids.sublist (b.map aR),λc d=>P.ok c (b.subset d),Xx b.length_le P.le⟩
def qV{a:ar}:∀{P:List aj},(∀e∈P,(a.add e).1≠0)->eg a P=none
 |[],_=>rfl
 |e::P,b=>by
  unfold eg;rw[Zq (b e (QV ..)),qV λc d=>b c (QJ _ d)];rfl
def qW{b:ar}:∀{P:List aj} {i:Nat} {e:aj},(∀x∈P.take i,(b.add x).1≠0)->P[i]? =some e->(b.add e).1=0->eg b P=some (e,(b.add e).2,P.eraseIdx i)
 |[],i,e,_,a,_=>by simp at a
 |x::P,0,e,c,a,d=>by
  simp at a;subst a;unfold eg;rw[Zx d];rfl
 |x::P,i+1,e,c,a,d=>by
  unfold eg;rw[Zq (c x sM),qW (i:=i) (e:=e) (λf g=>c f (by simp[g])) (by simpa using a) d]
  rfl
def cU(P:cG)(a:ZH)(b c:Nat)(d:ZH)(e f:Nat):List Value:=[XH P.kind,XH P.bE,XH P.lf,.slice a b c,.slice d e f]
abbrev m_(P:cG)(a:ZH)(b c:Nat)(d:ZH)(e f:Nat):Value:=.agg (cU P a b c d e f).toArray
def mf(P:cG)(a:ZH)(b c:Nat)(d:ZH)(e f:Nat):iJ XP 66 (cU P a b c d e f)=true:=kR
section
variable {w w':World} {D E F:XN} {m:cG} {va ea:ZH} {vn vc en ec N:Nat} {chunk:Int} {p:Nat} {S:ar}
def IF(c:Row aQ 8 w D va vn m.vec)(j:Row iX 96 w E ea en m.events):ZG 122 #[m_ m va vn vc ea en ec,XH (N:Int)] w (Ok λk w'=>k= XH (eO m N)/\ai w w'):=by
 have u:=c.len;have v:=j.len;have l:=c.dK;refine CW (PA.mk λx d y e=>⟨_,_,_,ae e rfl,an.dec (λn=>Ok.mk ⟨?_,d⟩) (λn=>⟨_,_,_,ae e rfl,an.dX (λo=>Ok.mk ⟨?_,d⟩) (λo=>⟨_,_,_,ae e rfl,λg p w'=>∃P:Nat,p=P/\P<=vn/\g=vn-P/\((m.vec.take P).any λa=>decide (a<0))=false/\ai w w',⟨_,0,rfl,Qj _,rfl,sM,d⟩,?_⟩)⟩)⟩)
 ·unfold eO;rw[Zx oM]
 ·unfold eO;rw[Zq oM,Zx oM]
 rintro g _ _ z ⟨P,rfl,A,rfl,f,b⟩;refine an.dec (λB=>?_) (λC=>Ok.mk ⟨?_,b⟩)
 ·obtain⟨q,r,a,s,h,-,t⟩:=(c.ah b).mI (i:=P) oM
  refine⟨q,r,s,oM,oM,a,t,an.dec (λi=>Ok.mk ⟨?_,b⟩) (λi=>⟨_,oM,P+1,aq (by unfold aT at l;omega),oM,rfl,?_,b⟩)⟩
  ·unfold eO;rw[Zq oM,Zq oM,Zx (List.any_eq_true.2 ⟨a,QZ h,by simpa using i⟩)]
  ·rw[Qw,h,List.any_append,f];simp;omega
 ·rw[Qz oM]at f
  unfold eO;rw[Zq oM,Zq oM,Zq (by rw[f];simp)]
def wu{d:Type}{P:d->Int}:∀{a:List d} {e:Nat} {b:d},(∀y∈a.take e,P y=0)->a[e]? =some b->P b≠0->cg P a=P b
 |y::a,0,b,_,c,f=>by
  simp at c;subst c;unfold cg;rw[Zx (by simpa using f)]
 |y::a,e+1,b,g,c,f=>by
  have h:P y=0:=g y sM;unfold cg
  rw[h];simp only[bne_self_eq_false,Bool.false_eq_true,if_false];exact wu (λi j=>g i (QJ _ j)) (by simpa using c) f
def zK{a:Type}{b:a->Int}:∀{P:List a},(∀y∈P,b y=0)->cg b P=0
 |[],_=>rfl
 |y::P,c=>by
  unfold cg
  rw[c y (QV ..)];simpa using zK λd e=>c d (QJ _ e)
def IG(t:Row aQ 8 w D va vn m.vec)(i:Row iX 96 w E ea en m.events)(u:N<4611686018427387904):ZG 121 #[m_ m va vn vc ea en ec,XH (N:Int),XH chunk] w (Ok λv w'=>v= XH (ej m N chunk)/\ai w w'):=by
 have W:=t.len;have X:=i.len;have x:=i.dK;refine CV (PA.mk λY b Z c=>⟨_,_,_,ae c rfl,an.dec (λy=>Ok.mk ⟨?_,b⟩) (λy=>⟨_,_,_,ae c rfl,an.dec (λz=>Ok.mk ⟨?_,b⟩) (λz=>⟨_,_,_,ae c rfl,an.dec (λA=>Ok.mk ⟨?_,b⟩) (λA=>⟨_,_,_,ae c rfl,λn j w'=>∃P:Nat,j=P/\P<=en/\n=en-P/\(∀a∈m.events.take P,cN a N=0)/\ai w w',⟨_,0,rfl,Qj _,rfl,sM,b⟩,?_⟩)⟩)⟩)⟩)
 ·unfold ej;rw[Zx oM]
 ·unfold ej;rw[Zq oM,Zx (.inl oM)]
 ·unfold ej;rw[Zq oM,Zx (.inr oM)]
 rintro n _ _ B ⟨P,rfl,hj,rfl,d,e⟩;have o:ej m N chunk=cg (λC=>cN C N) m.events:=by unfold ej;rw[Zq oM,Zq oM]
 refine an.dec (λa4=>?_) (λa5=>Ok.mk ⟨?_,e⟩)
 ·obtain⟨p,F,es,I,J,a6,q,f,g,h,rfl,r,K⟩:=(i.ah e).el P m.events[P] (Qq oM)
  have k:m.events[P]? =some m.events[P]:=Qq oM;generalize m.events[P]=a at q r K k;refine⟨p,F,I,oM,oM,bq (es:=aD a f g h) (k:=10) (aX a f g h) rfl (λj L=>q j L) (PA.mk λw3 M s3 O=>aB (aX a f g h) O rfl λQ R s4 S=>au (aX a f g h) S ?_)⟩;have l:ai B Q:=M.new R λp J=>.inr oM;refine PC.ok (vZ (r.ah l) u) ?_;rintro _ w5 ⟨rfl,s⟩;refine⟨_,rfl,an.dX (λT=>Ok.mk ⟨by rw[o,wu d k T],(e.then l).then s⟩) (λU=>⟨_,oM,P+1,aq (by unfold aT at x;omega),oM,rfl,λV H=>?_,(e.then l).then s⟩)⟩;rw[Qw,k]at H;rcases Q6.1 H with H|H
  ·exact d V H
  ·simp at H;subst H;exact U
 ·rw[Qz oM]at d
  rw[o,zK d]
def Gg(i:cC w p F S):ZG 72 #[XL p,XH e,XH q] w (Ok λj w'=>∃va vn vc G,j=m_ (dH S e q) va vn vc none 0 0/\aU aQ 3 G w' va vn vc S.vec/\(∀q,G q->w.heap.size<=q)/\ai w w'):=by
 refine AJ (PA.mk λn f o k=>PC.ok (ky (i.ah f)) ?_);rintro _ r ⟨a,b,c,G,rfl,l,d,g⟩;have s:=d.size;refine⟨_,_,_,rfl,aB (mf (dH S e q) a b c none 0 0) (d.get k id) rfl λt h u m=>au (mf (dH S e q) a b c none 0 0) m (Ok.mk ⟨a,b,c,G,rfl,l.af h λq P v=>?_,λq P=>?_,(f.then d).new h λq P=>.inr oM⟩)⟩
 ·have:=g q P;omega
 ·have:=g q P;omega
def Gh(i:cC w p F S):ZG 125 #[XL p,XH e,XH q] w (Ok λj w'=>∃va vn vc G,j=m_ (xt S e q) va vn vc none 0 0/\aU aQ 3 G w' va vn vc S.vec/\(∀q,G q->w.heap.size<=q)/\ai w w'):=by
 refine HI (PA.mk λn f o k=>PC.ok (ky (i.ah f)) ?_);rintro _ r ⟨a,b,c,G,rfl,l,d,g⟩;have s:=d.size;refine⟨_,_,_,rfl,aB (mf (xt S e q) a b c none 0 0) (d.get k id) rfl λt h u m=>au (mf (xt S e q) a b c none 0 0) m (Ok.mk ⟨a,b,c,G,rfl,l.af h λq P v=>?_,λq P=>?_,(f.then d).new h λq P=>.inr oM⟩)⟩
 ·have:=g q P;omega
 ·have:=g q P;omega
def BZ{cs:Array Value}(b:w.heap[a]? =some (.cells cs g I))(c:cs[0]? =some (XH (N:Int))):ZG 120 #[XH e,XL a] w (Ok λd w'=>d= .bool (decide (0<=e)&&decide (e<N))/\w=w'):=by
 refine AN (an.dec (λP=>⟨_,ae b c,Ok.mk ⟨?_,rfl⟩⟩) (λP=>Ok.mk ⟨?_,rfl⟩))
 ·rw[Zy (show 0<=e from P)];rfl
 ·rw[Xv (show¬0<=e from P)];rfl
def Lt(o:Row aQ 8 w D va vn m.vec)(p:Row iX 96 w E ea en m.events)(v:N<4611686018427387904):ZG 73 #[m_ m va vn vc ea en ec,XH (N:Int),XH chunk] w (Ok λg w'=>g= XH (de m N chunk)/\ai w w'):=by
 refine EU (PA.mk λx y J z=>PA.mk λi q K j=>?_);have c:=q.get z id;have P:=y.then q;refine⟨λA w'=>A=(!(decide (0<=m.bE)&&decide (m.bE<N))|| !(decide (0<=m.lf)&&decide (m.lf<N))||m.bE==m.lf)/\i=w',?_,?_⟩
 ·refine⟨_,ae c rfl,_,_,_,rfl,kR,PC.ok (BZ (N:=N) j rfl) ?_⟩
  rintro _ _ ⟨rfl,rfl⟩;refine⟨_,rfl,an.not (an.mk (λa=>⟨_,ae c rfl,_,_,_,rfl,kR,PC.ok (BZ (N:=N) j rfl) ?_⟩) (λa=>⟨by rw[a];rfl,rfl⟩))⟩;rintro _ _ ⟨rfl,rfl⟩;refine⟨_,rfl,an.not (an.mk (λb=>⟨_,ae c rfl,_,ae c rfl,by rw[a,b];rfl,rfl⟩) (λb=>⟨by rw[a,b];rfl,rfl⟩))⟩
 rintro k _ _ ⟨B,rfl⟩;have f:de m N chunk=if m.kind=3 then(if k then 1 else ej m N chunk)else if m.kind=1\/m.kind=2\/m.kind=4 then(if k then 1 else eO m N)else 2:=by rw[B];rfl
 have d:∀{r:List PanicEntry->XU},(if k then 1 else eO m N)=de m N chunk->an k (Ok (λg w'=>g= XH (de m N chunk)/\ai w w') (.returned (XH 1)) i) (nE XP 66 (XL w.heap.size) i λC=>(∃(s:Int),i.cell? ⟨x.heap.size,0,none⟩=some (XH s)/\PC XP 122 #[C,XH s] i (λF H=>∃(t:Int),F= XH t/\Ok (λg w'=>g= XH (de m N chunk)/\ai w w') (.returned (XH t)) H) r)):=λ{r} u=>by
  refine an.mk (λh=>Ok.mk ⟨by rw[<-u,h];rfl,P⟩) (λh=>au (mf m va vn vc ea en ec) c ⟨_,ae j rfl,PC.ok (IF (o.ah P) (p.ah P)) ?_⟩);rintro _ I ⟨rfl,l⟩;exact⟨_,rfl,Ok.mk ⟨by rw[<-u,h];rfl,P.then l⟩⟩
 refine⟨_,ae c rfl,an.eG (λe=>an.not (an.mk (λh=>?_) (λh=>au (mf m va vn vc ea en ec) c ⟨_,ae j rfl,PC.ok (IG (o.ah P) (p.ah P) v) ?_⟩))) (λe=>an.eG (λa=>an.tt (by simpa using a) (d ?_)) (λa=>an.eG (λb=>an.tt (by simpa using b) (d ?_)) (λb=>an.eG (λn=>d ?_) (λn=>Ok.mk ⟨?_,P⟩))))⟩
 ·exact an.tt h (Ok.mk ⟨by rw[f,Zx e,h];rfl,P⟩)
 ·rintro _ I ⟨rfl,l⟩
  exact⟨_,rfl,Ok.mk ⟨by rw[f,Zx e,h];rfl,P.then l⟩⟩
 ·rw[f,Zq e,Zx (show m.kind=1\/m.kind=2\/m.kind=4 from .inl a)]
 ·rw[f,Zq e,Zx (show m.kind=1\/m.kind=2\/m.kind=4 from .inr (.inl b))]
 ·rw[f,Zq e,Zx (show m.kind=1\/m.kind=2\/m.kind=4 from .inr (.inr n))]
 ·rw[f,Zq e,Zq (by rintro(h|h|h);exact a h;exact b h;exact n h)]
end
structure Mo (w:World) (p:Nat) (M D:XN) (most:Nat) (l:List aj) (a:ZH) (n c:Nat) (L:List (Bx aj)):Prop where
 at':w.heap[p]? =some (.cells #[XH (most:Int),.slice a n c] 127 (0,0))
 nC:aU ow.ju 59 (λb=>aI a=some b) w a n c L
 map:L.map (·.x)=l
 KB:∀b∈L,ow.In w D b
 dD:∀b,D b->b<w.heap.size/\¬M b
 mp:M p
 ma:∀b,aI a=some b->M b/\b≠p
 dM:∀b,M b->b<w.heap.size
def fZ(b:World)(c:Nat)(d D:XN)(P:Nat)(a:List aj):Prop:=(P<=256/\oG P a)/\∃e f g h,Mo b c d D P a e f g h
section
variable {w w':World} {p:Nat} {M D T E:XN} {most:Nat} {l:List aj} {a:ZH} {n c:Nat} {L:List (Bx aj)}
def Mo.af(b:Mo w p M D most l a n c L)(e:ak T w w')(f:∀P,M P->¬T P)(g:∀P,D P->¬T P):Mo w' p M D most l a n c L:=
 ⟨e.get b.at' (f _ b.mp),b.nC.af e λP d=>f P (b.ma P d).1,b.map,λP d=>(b.KB P d).af e g,λP d=>⟨Qk (b.dD P d).1 e.size,(b.dD P d).2⟩,b.mp,b.ma,λP d=>Qk (b.dM P d) e.size⟩
def fZ.af(b:fZ w p M D most l)(d:ak T w w')(e:∀P,M P->¬T P)(f:∀P,D P->¬T P):fZ w' p M D most l:=by
 obtain⟨g,a,n,c,L,b⟩:=b;exact⟨g,a,n,c,L,b.af d e f⟩
def fZ.ah(P:fZ w p M D most l)(a:ai w w'):fZ w' p M D most l:=P.af a (λ_ _ P=>P) λ_ _ P=>P
def uM:iI XP 50 59 ow.ju.k 96:=Hj
def Hq(g:0<=e/\e<=256):ZG 27 #[XH e] w (Ok λc w'=>∃p,c= XL p/\fZ w' p (·=p) (λ_=>False) e.toNat []/\w.heap.size<=p/\p<w'.heap.size/\ai w w'):=by
 refine Cy (PA.mk λd f h b=>Ok.mk ⟨w.heap.size,rfl,⟨⟨oM,oG.nil _⟩,none,0,0,[],?_,(aU.nil d).mono (λa P=>P.elim) (λa P=>by cases P),rfl,sM,λa P=>P.elim,rfl,λa P=>(by cases P),λa P=>by have P:a=w.heap.size:=P;omega⟩,Q4 _,oM,f⟩);have:(if(if 256<e then 256 else e)>0 then(if 256<e then 256 else e)else 0)=((e.toNat:Nat):Int):=by split<;>split<;>omega
 rw[this]at b;exact b
def Cz(d:fZ w p M D most l):ZG 124 #[XL p] w (Ok λf w'=>f= .tuple #[]/\fZ w' p M (λ_=>False) most []/\ak M w w'):=by
 obtain⟨g,a,n,c,L,d⟩:=d;refine nQ ⟨p,0,rfl,PS.mk d.at' sM λh i j k=>Ok.mk ⟨rfl,⟨⟨g.1,oG.nil _⟩,none,0,0,[],k,(aU.nil h).mono (λb P=>P.elim) (λb P=>by cases P),rfl,sM,λb P=>P.elim,d.mp,λb P=>(by cases P),λb P=>by rw[j];exact d.dM b P⟩,i.mono λb _ e=>by have e:b=p:=e;exact e▸d.mp⟩⟩
def xX{m o:Array Value}(s:enters XP y=true)(b:Nat->XU)(p:Nat->XU)(h:b 0 w)(i:∀P f,b P f->Row ow.ju 96 f E a n L)(t:∀P d f,L[P]? =some d->b P f->ZG y (m++ #[jk d.x d.a d.n d.c]++o) f (Ok λg w'=>(g= .bool true/\p P w')\/(g= .bool false/\b (P+1) w'))):
  ZG 248 #[.slice a n c,.func (.func y) m o] w (Ok λg w'=>(∃P,P<n/\g= XH (P:Int)/\p P w')\/(g= XH (-1)/\b n w')):=by
 have H:=(i 0 w h).len;have u:=(i 0 w h).dK;unfold aT at u;refine e_ ⟨λq j w'=>∃P:Nat,j=P/\P<=n/\q=n-P/\b P w',⟨_,0,rfl,Qj _,rfl,h⟩,?_⟩;rintro q _ _ r ⟨P,rfl,I,rfl,k⟩;refine an.dec (λJ=>?_) (λK=>?_)
 ·have v:P<L.length:=oM
  have l:L[P]? =some L[P]:=Qq v;generalize L[P]=e at l;obtain⟨d,x,M,z,N,O,A,rfl,-⟩:=(i P r k).el P e l;refine⟨d,x,z,oM,oM,bq (es:=aD e.x e.a e.n e.c) (k:=10) (aX _ _ _ _) rfl (λj B=>by rw[Qx];exact A j B) ⟨_,_,_,rfl,s,PC.ok (t P e r l k) ?_⟩⟩;rintro _ Q (⟨rfl,C⟩|⟨rfl,F⟩)
  ·exact⟨_,rfl,an.tt rfl (Ok.mk (.inl ⟨P,oM,rfl,C⟩))⟩
  ·exact⟨_,rfl,an.ff rfl ⟨_,oM,P+1,aq oM,oM,rfl,F⟩⟩
 ·obtain rfl:P=n:=oM
  exact Ok.mk (.inr ⟨rfl,k⟩)
def EG{a:aj}{g h:Nat}{b:Nat}{c:aj}{i j:Nat}(e:w.heap[b]? =some (.cells (aD c r i j).toArray 59 I)):
  ZG 240 #[jk a d g h,XL b] w (Ok λk w'=>k= .bool (aR a==aR c)/\ai w w'):=by
 refine nR (PA.mk λl P m f=>⟨_,_,ae f rfl,ae f rfl,_,_,ae (P.get e id) rfl,ae (P.get e id) rfl,Jt.eql ⟨_,rfl,Ok.mk ⟨rfl,P⟩⟩⟩)
def Hr(l:Row ow.ju 96 w E a n L)(v:∀P,E P->P<w.heap.size){m:Nat}{f:aj}{q r:Nat}(s:w.heap[m]? =some (.cells (aD f d q r).toArray 59 I)):
  ZG 239 #[.slice a n c,.func (.func 240) #[] #[XL m]] w (Ok λo w'=>o= .bool (L.any λP=>aR P.x==aR f)/\ai w w'):=by
 have x:=l.len;refine eH (PC.ok (xX (E:=E) kR (λg h=>(∀P∈L.take g,(aR P.x==aR f)=false)/\ai w h) (λg h=>(L.any λP=>aR P.x==aR f)=true/\ai w h) ⟨sM,ak.refl _⟩ (λg h i=>l.ah i.2) ?_) ?_)
 ·rintro g P h j ⟨k,b⟩
  refine(EG (b.get s id)).mono ?_;rintro _ y ⟨o,rfl,rfl,p⟩;refine Ok.mk ?_
  cases i:aR P.x==aR f
  ·refine .inr ⟨rfl,λt e=>?_,b.then p⟩
   rw[Qw,j]at e;rcases Q6.1 e with e|e
   ·exact k t e
   ·simp at e;subst e;exact i
  ·exact .inl ⟨rfl,List.any_eq_true.2 ⟨P,QZ j,i⟩,b.then p⟩
 ·rintro _ z (⟨g,A,rfl,u,b⟩|⟨rfl,k,b⟩)
  ·exact⟨_,rfl,Ok.mk ⟨by rw[u,Zy oM],b⟩⟩
  ·refine⟨_,rfl,Ok.mk ⟨?_,b⟩⟩
   rw[Qz oM]at k;rw[List.any_eq_false.2 λP j=>by rw[k P j];simp]
   rfl
end
section
variable {w w':World} {p:Nat} {M D T E:XN} {most:Nat} {l:List aj} {a:ZH} {n c:Nat} {L:List (Bx aj)}
def oH{e f:aj}{a i:ZH}{n c j k:Nat}{w:World}:ZG 242 #[jk e a n c,jk f i j k] w (Ok λl w'=>l= XH (qU e f)/\ai w w'):=by
 refine uN (PA.mk λu m v o=>PA.mk λp g x q=>λr s=>⟨λ_=>False,?_⟩);have P:ai p r:=s.af;have b:=P.get (g.get o id) id;have d:=P.get q id;refine⟨_,ae b rfl,_,ae d rfl,id,_,ae b rfl,id,_,ae d rfl,id,_,ae b rfl,id,_,ae d rfl,PC.ok f_ ?_⟩;rintro _ _ ⟨rfl,rfl⟩;refine⟨_,rfl,ak.refl _,PC.ok f_ ?_⟩;rintro _ _ ⟨rfl,rfl⟩;refine⟨_,rfl,ak.refl _,PC.ok f_ ?_⟩;rintro _ _ ⟨rfl,rfl⟩;refine⟨_,rfl,ak.refl _,PA.mk λy h z t=>⟨h,PC.ok (Mp t) ?_⟩⟩;rintro _ _ ⟨rfl,rfl⟩;exact⟨_,rfl,ak.refl _,Ok.mk ⟨by rw[EH],((m.then g).then P).then h⟩⟩
def Bt{P a:aj}:qU P a<0↔dU P a=true:=by
 unfold qU
 cases dU P a
 ·cases dU a P<;>simp
 ·simp
def Aw(x:Row ow.ju 96 w E a n L)(U:Oz (L.map (·.x))){i:aj}{C F:Nat}:
  ZG 241 #[.slice a n c,jk i d C F,.func (.func 242) #[] #[]] w (Ok λV w'=>∃P,V= .tuple #[XH ((posOf (λo=>dU o.x i) L:Nat):Int),.bool P]/\ai w w'):=by
 have hl:=x.len;have W:=x.dK;unfold aT at W;have N:∀{j k:Nat} {b l:Bx aj},L[j]? =some b->L[k]? =some l->j<=k->b=l\/dU b.x l.x=true:=λ{j k b l} m q b4=>by
  rcases Nat.lt_or_ge j k with h|h
  ·right
   have y:(L.map (·.x))[j]? =some b.x:=by rw[Q9,m];rfl
   have z:(L.map (·.x))[k]? =some l.x:=by rw[Q9,q];rfl
   obtain⟨X,Y⟩:=Qv.1 y;obtain⟨Z,e2⟩:=Qv.1 z;have:=List.pairwise_iff_getElem.1 U j k X Z h;rw[Y,e2]at this;exact this
  ·obtain rfl:j=k:=oM
   rw[m]at q;exact .inl (XJ q)
 refine df (PA.mk λa4 O b5 Q=>⟨λR j k w'=>∃p e:Nat,j=p/\k=e/\R=e-p/\p<=e/\e<=n/\(∀P b,P<p->L[P]? =some b->dU b.x i=true)/\(∀P b,e<=P->L[P]? =some b->dU b.x i=false)/\ai a4 w',
  ⟨_,0,n,rfl,rfl,rfl,oM,oM,λP b g=>oM,λP b g m=>by have:=(Qv.1 m).1;omega,ak.refl _⟩,?_⟩)
 rintro R _ _ _ S ⟨p,e,rfl,rfl,rfl,b6,a5,y,z,s⟩;have t:enters XP 242=true:=kR
 refine an.dec (λb7 a6 a7=>?_) (λb8 a8 a9=>?_)
 ·have A:ai S a6:=a7.af
  have u:=(O.then s).then A;rw[QI oM];have r:L[(p+e)/2]? =some L[(p+e)/2]:=Qq oM;generalize L[(p+e)/2]=f at r;obtain⟨o,H,es,I,b0,b1,J,rfl,-⟩:=(x.ah u).el _ f r;refine⟨o,H,I,oM,oM,bq (es:=aD f.x f.a f.n f.c) (k:=10) (aX _ _ _ _) rfl (λP g=>by rw[Qx];exact J P g) (au (aX i d C F) ((s.then A).get Q id) ⟨_,_,_,rfl,t,PC.ok oH ?_⟩)⟩;rintro _ b2 ⟨rfl,B⟩;refine⟨_,rfl,an.dec (λK=>⟨_,?_,(p+e)/2+1,e,aq oM,rfl,rfl,oM,a5,λP l g q=>?_,z,(s.then A).then B⟩) (λK=>⟨_,?_,p,(p+e)/2,rfl,rfl,rfl,oM,oM,y,λP l g q=>?_,(s.then A).then B⟩)⟩
  ·omega
  ·have v:=Bt.1 K
   rcases N q r oM with rfl|M
   ·exact v
   ·exact rF M v
  ·omega
  ·have v:¬dU f.x i=true:=λh=>K (Bt.2 h)
   rcases N r q g with rfl|M
   ·simpa using v
   ·cases h4:dU l.x i
    ·rfl
    ·exact Zz (rF M h4) v
 ·obtain rfl:p=e:=oM
  have T:ai S a8:=a9.af;have u:=(O.then s).then T;have a3:posOf (λo=>dU o.x i) L=p:=xV oM (λP b g m=>y P b g m) (λb m=>z p b (Q4 _) m);rw[a3];refine an.dec (λb3=>?_) (λb3=>Ok.mk ⟨false,rfl,u⟩);have r:L[p]? =some L[p]:=Qq oM;generalize L[p]=f at r;obtain⟨o,H,es,I,b0,b1,J,rfl,-⟩:=(x.ah u).el _ f r;refine⟨o,H,I,oM,oM,bq (es:=aD f.x f.a f.n f.c) (k:=10) (aX _ _ _ _) rfl (λP g=>by rw[Qx];exact J P g) (au (aX i d C F) ((s.then T).get Q id) ⟨_,_,_,rfl,t,PC.ok oH ?_⟩)⟩;rintro _ b2 ⟨rfl,B⟩;exact⟨_,rfl,Ok.mk ⟨_,rfl,u.then B⟩⟩
def QM{f h:Nat}{x:Bx aj}(j:aU ow.ju 59 (λP=>aI a=some P) w a n c L)(k:f<=n)(l:w.heap[h]? =some (.cells (aD x.x x.a x.n x.c).toArray 59 (0,0)))(m:aI a≠some h)(r:L.length<=20000000):
  ZG 243 #[.slice a n c,XH (f:Int),.slice (XM h) 1 1] w (Ok λo w'=>∃d g,o= .slice d (n+1) g/\aU ow.ju 59 (λP=>aI d=some P) w' d (n+1) g (L.take f++x::L.drop f)/\ak (λP=>aI a=some P) w w'/\∀P,aI d=some P->aI a=some P\/w.heap.size<=P):=by
 refine fD (EI.one (c:=ow.ju) (tb:=4) (x:=x) (D:=λ_=>False) uM kR ?_ j k l ⟨rfl,trivial⟩ (λP b=>b.elim) m ba (by unfold maxLen;omega) λd g w' s e p q=>Ok.mk ⟨d,g,rfl,aU.alone e,p,λP b=>?_⟩)
 ·intro i w
  rw[run_callFunc_extern Tryz.func277 kR kR kR (e:=Extern.SlicesOverlaps.overlaps #[50,50] #[4]) kR]
 ·rcases q P (e.self P b)with b|b|b
  ·exact .inl b
  ·exact b.elim
  ·exact .inr b
def QN{b:Nat}(e:aU ow.ju 59 (λP=>aI a=some P) w a n c L)(f:b<n)(i:n<=20000000):
  ZG 249 #[.slice a n c,XH (b:Int),XH (XG .i64 ((b:Int)+1))] w (Ok λg w'=>g= .slice a (n-1) c/\aU ow.ju 59 (λP=>aI a=some P) w' a (n-1) c (L.eraseIdx b)/\ak (λP=>aI a=some P) w w'):=
 fE (EJ.one (c:=ow.ju) (tz:=0) uM kR e f (by unfold maxLen;omega) λw' d h=>Ok.mk ⟨rfl,d,h⟩)
def Hs(f:fZ w p M D most l){e:aj}{en ec:Nat}(O:Row aQ 8 w E d en e.aN)(hE:∀P,E P->P<w.heap.size)(he:e.Ok):
  ZG 190 #[XL p,jk e d en ec] w (Ok λQ w'=>Q= .bool (eP most l e).1/\∃o q,fZ w' p o q most (eP most l e).2/\ak M w w'/\(∀P,o P->M P\/w.heap.size<=P)/\∀P,q P->D P\/w.heap.size<=P):=by
 have b3:=f;obtain⟨B,a,n,c,L,f⟩:=f;have d7:L.length=l.length:=by rw[<-f.map,Q8]
 have hn:n=L.length:=f.nC.len dC;have d8:=f.dM p f.mp;have d9:=B.2.le;have j:(L.any λP=>aR P.x==aR e)=l.any (λi=>aR i==aR e):=by rw[<-f.map,List.any_map];rfl
 refine qx (PA.mk λc5 b4 e0 b5=>λR c6=>⟨λ_=>False,?_⟩);have S:ai c5 R:=c6.af;have m:ai w R:=b4.then S;have T:=m.get f.at' id;have no:(eP most l e)=(false,l)->∀U,ai w U->Ok (λQ w'=>Q= .bool (eP most l e).1/\∃o q,fZ w' p o q most (eP most l e).2/\ak M w w'/\(∀P,o P->M P\/w.heap.size<=P)/\∀P,q P->D P\/w.heap.size<=P) (.returned (.bool false)) U:=λhq U k1=>
  Ok.mk ⟨by rw[hq],M,D,by rw[hq];exact b3.ah k1,ai.af k1,λP b=>.inl b,λP b=>.inl b⟩
 refine⟨p,0,rfl,_,_,_,ae T rfl,p,0,rfl,_,ae T rfl,an.dec (λe1=>no (by unfold eP;rw[Zx (.inl oM)]) R m) (λe2=>⟨p,0,rfl,id,_,_,_,ae T rfl,ak.refl _,PC.ok (Hr (E:=λP=>aI a=some P) (((f.nC.ah m).row (bytes:=96) dC ba)) (λP b=>by have:=(f.nC.aF P b);have:=m.size;omega) (S.get b5 id)) ?_⟩)⟩;rintro _ b6 ⟨rfl,C⟩;refine⟨_,rfl,C,an.mk (λr=>no (by unfold eP;rw[Zx (.inr (j▸r))]) b6 (m.then C)) (λr=>?_)⟩;have F:=m.then C;have b7:eP most l e=(true,cX e l):=by unfold eP;rw[Zq (by rw[<-j];rintro(g|g);omega;rw[r]at g;cases g)]
 have c7:∀i∈l,aR i≠aR e:=by
  rw[j]at r;simpa[List.any_eq_false]using r
 have V:=(S.then C).get b5 id;refine⟨_,_,_,ae V rfl,PC.ok (cy (O.ah F) λP b=>by have:=hE P b;have:=F.size;omega) ?_⟩;rintro _ b8 ⟨H,I,J,G,rfl,W,X,Y⟩;have e3:=F.size;have e4:=X.size;refine⟨_,_,_,rfl,PS.mk (X.get V id) (by simp[aD]) λZ a9 e5 c8=>λK b9=>?_⟩;have s:ai Z K:=b9.af;have e6:K.heap.size=Z.heap.size:=by rw[b9.heap]
 have a0:Z.heap[w.heap.size]? =some (.cells (aD e H I J).toArray 59 (0,0)):=c8;have a1:ai w K:=((F.then X).new a9 λP b=>.inr (by have b:P=w.heap.size:=b;omega)).then s;have b0:=f.af a1 (λ_ _ f=>f) λ_ _ f=>f;have c0:Oz (L.map (·.x)):=by rw[f.map];exact B.2.Hi
 refine⟨p,0,rfl,_,_,_,ae b0.at' rfl,au (aX e H I J) (s.get a0 id) (PC.ok (Aw (b0.nC.row (bytes:=96) dC ba) c0) ?_)⟩;rintro _ e7 ⟨a4,rfl,c9⟩;refine⟨_,_,rfl,λd0 d1=>⟨λ_=>False,?_⟩⟩;have t:ai K d0:=c9.then d1.af;have a2:=a1.then t;have c1:=b0.af t (λ_ _ f=>f) λ_ _ f=>f;have h:=t.get (s.get a0 id) id;have d6:=xU (λP:Bx aj=>dU P.x e) L;refine⟨p,0,rfl,id,_,_,_,ae c1.at' rfl,_,_,_,_,_,_,_,_,_,_,_,_,ae h rfl,ae h rfl,ae h rfl,ae h rfl,ae h rfl,ae h rfl,ae h rfl,ae h rfl,ae h rfl,ae h rfl,PA.mk λd2 u e8 d3=>⟨u,?_⟩⟩;have c3:=c1.af u (λ_ _ f=>f) λ_ _ f=>f;have e9:=a2.size;refine PC.ok (QM (x:=⟨e,H,I,J⟩) c3.nC oM d3 (λe=>by have:=f.nC.aF _ e;omega) oM) ?_;rintro _ f2 ⟨a',c',rfl,a3,v,x⟩;have b1:¬aI a=some p:=λe=>(f.ma p e).2 rfl;have g0:=v.size;refine⟨_,_,_,rfl,p,0,rfl,PS.mk (v.get c3.at' b1) sM λd4 N g1 d5=>?_⟩;have y:ak M w d4:=((ai.af (a2.then u)).then (v.mono λP _ b=>(f.ma P b).1)).then (N.mono λP _ e=>by have e:P=p:=e;exact e▸f.mp);refine Ok.mk ⟨by rw[b7],λP=>M P\/aI a'=some P,λP=>D P\/G P,⟨⟨B.1,B.2.add he⟩,a',n+1,c',L.take (posOf (λP=>dU P.x e) L)++⟨e,H,I,J⟩::L.drop (posOf (λP=>dU P.x e) L),d5,?_,?_,?_,?_,.inl f.mp,?_,?_⟩,?_,?_,?_⟩
 ·refine a3.af N λP b e=>?_
  have e:P=p:=e;rcases x P b with g|g
  ·exact b1 (e▸g)
  ·omega
 ·rw[b7]
  have c4:posOf (λi=>dU i e) l=posOf (λP:Bx aj=>dU P.x e) L:=by
   unfold posOf;rw[<-f.map,List.takeWhile_map,Q8];rfl
  show _=cX e l;rw[Bu c7,c4,Q3,QY,List.map_take,List.map_drop,f.map]
 ·have b2:∀P,G P->b6.heap.size<=P/\P<b8.heap.size:=λP b=>⟨Y P b,W.aF P b⟩
  intro i k;rcases Q6.1 k with k|k
  ·exact((f.KB i (List.mem_of_mem_take k)).af y λP b=>(f.dD P b).2).mono λP b=>.inl b
  rcases Q2.1 k with rfl|k
  ·refine⟨(((((W.af a9 λP b e=>?_).ah s).ah (t.then u)).af v λP b e=>?_).af N λP b e=>?_).row (bytes:=8) dC (by rw[<-O.len];exact O.dK)|>.mono λP b=>.inr b,he⟩
   ·have e:P=w.heap.size:=e;have:=b2 P b;have:=az V;omega
   ·have:=f.nC.aF P e;have:=b2 P b;omega
   ·have e:P=p:=e;have:=b2 P b;omega
  ·exact((f.KB i (List.mem_of_mem_drop k)).af y λP b=>(f.dD P b).2).mono λP b=>.inl b
 ·intro P b
  have hz:b8.heap.size<=d2.heap.size:=by have:=a9.size;have:=s.size;have:=t.size;have:=u.size;omega
  rcases b with b|b
  ·have g:=f.dD P b
   refine⟨by have:=y.size;omega,λz=>z.elim g.2 λe=>?_⟩;rcases x P e with A|A
   ·exact g.2 (f.ma P A).1
   ·omega
  ·have g:=W.aF P b;have h3:=Y P b
   have g2:=b4.size;refine⟨by have:=v.size;have:=N.size;omega,λz=>?_⟩;rcases z with z|e
   ·have:=f.dM P z;omega
   rcases x P e with A|A
   ·have:=f.nC.aF P A;omega
   ·omega
 ·intro P b
  refine⟨.inr b,λe=>?_⟩;rcases x P b with g|g
  ·exact b1 (e▸g)
  ·omega
 ·intro P b
  rcases b with b|b
  ·have:=f.dM P b;have:=y.size;omega
  ·have:=a3.aF P b;omega
 ·exact y
 ·intro P b
  rcases b with b|b
  ·exact .inl b
  rcases x P b with g|g
  ·exact .inl (f.ma P g).1
  ·exact .inr oM
 ·intro P b
  rcases b with b|b
  ·exact .inl b
  ·exact .inr (by have:=Y P b;omega)
end
end Go.Proofs.YtkpomgifkloklacGreatDoor
namespace Go.aw
open Go
variable{K a c i p:Nat}{f:XN}{d:ZH}{h:Program}{j:Type}{g o:TypeId}{b:World}
def aU.OA{k:Nat}{P:j->List Value}{n:j->Prop}{hl h1}{e:List j}{x:j}{s:XU}(l:aU (flat k P n hl h1) o f b d a c e)(z:K<e.length)(A:0<k)(B:n x)(C:d=some ⟨i,p,none⟩)(E:iJ h g (P x)=true)(q:∀m,aU (flat k P n hl h1) o f m d a c (e.set K x)->ak (λi=>aI d=some i) b m->m.heap.size=b.heap.size->s m):vQ h g (.pointer (some ⟨i,p+K*k,none⟩)) (.agg (P x).toArray) b s:=by
 have L:=l.len A;obtain⟨cs,D,t,F,u⟩:=l.body;have M:cs.length=a*k:=t.length;have N:(K+1)*k<=a*k:=Q0 _ oM;have H:(K+1)*k=K*k+k:=by rw[X7,Nat.one_mul]
 refine t.store (m:=K*k) C E (by rw[hl];omega) λI J v w=>q I ⟨⟨_,D,J,?_,u⟩,l.self,λi r=>by rw[w];exact l.aF i r⟩ v w;have y:=F.af v λi r=>(u i r).2;rw[hl,<-H,show e.set K x=e.take K++[x]++e.drop (K+1) by rw[XQ,List.singleton_append];exact List.set_eq_take_append_cons_drop .. |>.trans (Zx z)];exact bK.append (bK.append (y.take K) (bK.one ⟨rfl,B⟩)) (y.drop (K+1))
end Go.aw
namespace Go.Proofs.YtkpomgifkloklacGreatDoor
section
open Go.aw
variable{y:FuncId}{a6 f:XN}{d:ZH}{A:ar}
section
variable {w w':World} {p:Nat} {M D T E:XN} {most:Nat} {l:List aj} {a:ZH} {n c:Nat} {L:List (Bx aj)}
def KC{F H:Array Value}{pr:aj->Bool}(I:enters XP y=true)(m:aU ow.ju 59 (λP=>aI a=some P) w a n c L)(hl:L.length<=20000000)(J:∀(P:Bx aj) e,ak (λP=>aI a=some P) w e->ZG y (F++ #[jk P.x P.a P.n P.c]++H) e (Ok λr w'=>r= .bool (pr P.x)/\ai e w')):
  ZG 246 #[.slice a n c,.func (.func y) F H] w (Ok λr w'=>∃o,r= .slice a o c/\aU ow.ju 59 (λP=>aI a=some P) w' a o c (L.filter λP=>!pr P.x)/\ak (λP=>aI a=some P) w w'):=by
 have hn:=m.len dC;have b6:=m.lb;have p:∀{e:World} {f:List (Bx aj)},aU ow.ju 59 (λP=>aI a=some P) e a n c f->f.length=L.length->Row ow.ju 96 e (λP=>aI a=some P) a n f:=λ{e f} Z b7=>Z.row dC ba;refine eX (PC.ok (xX (E:=λP=>aI a=some P) (L:=L) I (λd e=>(∀P∈L.take d,pr P.x=false)/\ai w e) (λd e=>(∀P∈L.take d,pr P.x=false)/\(∀P,L[d]? =some P->pr P.x=true)/\ai w e) ⟨sM,ak.refl _⟩ (λd e h1=>(p m rfl).ah h1.2) ?_) ?_)
 ·rintro d P e h ⟨i,z⟩
  refine(J P e (ai.af z)).mono ?_;rintro _ w2 ⟨r,rfl,rfl,K⟩;refine Ok.mk ?_
  cases M:pr P.x
  ·refine .inr ⟨rfl,λN g=>?_,z.then K⟩
   rw[Qw,h]at g;rcases Q6.1 g with g|g
   ·exact i N g
   ·simp at g;subst g;exact M
  ·exact .inl ⟨rfl,i,λN g=>by rw[h]at g;cases g;exact M,z.then K⟩
 rintro _ w4 (⟨k,b8,rfl,i,a0,q⟩|⟨rfl,i,q⟩)
 rotate_left
 ·refine⟨_,rfl,an.tt sM (Ok.mk ⟨n,rfl,?_,ai.af q⟩)⟩
  rw[Qz oM]at i;rw[List.filter_eq_self.2 λP h=>by rw[i P h];rfl];exact m.ah q
 have O:L[k]? =some L[k]:=Qq oM;have a8:(L.take (k+1)).filter (λP=>!pr P.x)=L.take k:=by
  rw[Qw,O,List.filter_append,List.filter_eq_self.2 λP h=>by rw[i P h];rfl];simp[a0 _ O]
 refine⟨_,rfl,an.ff sM ⟨λo l d w'=>∃(A j:Nat) (f:List (Bx aj)),l=A/\d=j/\A<j/\j<=n/\o=n-j/\aU ow.ju 59 (λP=>aI a=some P) w' a n c f/\f.length=L.length/\f.take A=(L.take j).filter (λP=>!pr P.x)/\f.drop j=L.drop j/\ak (λP=>aI a=some P) w w',
  ⟨_,k,k+1,L,rfl,aq oM,oM,oM,rfl,m.ah q,rfl,a8.symm,rfl,ai.af q⟩,?_⟩⟩
 rintro o _ _ _ Q ⟨l,d,f,rfl,rfl,b9,c0,rfl,s,B,t,R,u⟩;refine an.dec (λc1=>?_) (λc2=>?_)
 ·have v:L[d]? =some L[d]:=Qq oM
  have S:f[d]? =some L[d]:=by
   have:=Zj (·[0]?) R;simp only[List.getElem?_drop,Nat.add_zero]at this;rw[this,v]
  have T:f.drop (d+1)=L.drop (d+1):=by
   have:=Zj (List.drop 1) R
   rwa [List.drop_drop,List.drop_drop]at this
  generalize L[d]=b at v S;obtain⟨P,U,es,C,c3,c4,a9,rfl,-⟩:=(p s B).el d b S;refine⟨P,U,C,oM,oM,bq (es:=aD b.x b.a b.n b.c) (k:=10) (aX _ _ _ _) rfl (λa1 ht=>by rw[Qx];exact a9 a1 ht) (PA.mk λc5 b0 c6 b1=>aB (aX b.x b.a b.n b.c) b1 rfl λV b2 c7 W=>au (aX b.x b.a b.n b.c) W ⟨_,_,_,rfl,I,?_⟩)⟩;have X:ai Q V:=b0.new b2 λP h=>.inr (by have h:P=Q.heap.size:=h;omega);refine PC.ok (J b V (u.ah X)) ?_;rintro _ c8 ⟨rfl,Y⟩;have x:=X.then Y;refine⟨_,rfl,an.not (an.mk (λE=>⟨_,?_,l,d+1,f,rfl,aq oM,oM,oM,rfl,s.ah x,B,?_,T,u.ah x⟩) (λE=>?_))⟩
  ·omega
  ·rw[t,Qw,v,List.filter_append]
   simp[E]
  ·refine au (aX b.x b.a b.n b.c) (Y.get W id) ⟨P,U,C,oM,oM,?_⟩
   rw[Qx];refine aU.OA (x:=b) (k:=10) (s.ah x) oM dC trivial C (aX b.x b.a b.n b.c) λc9 a7 b3 d0=>⟨_,?_,l+1,d+1,f.set l b,aq oM,aq oM,oM,oM,rfl,a7,by simpa using B,?_,?_,(u.ah x).then b3⟩
   ·omega
   ·rw[Qw (l:=L),v,List.filter_append,<-t,Qw,List.getElem?_set_self oM,List.take_set_of_le (Q4 _)]
    simp[E]
   ·rw[List.drop_set_of_lt oM,T]
 ·obtain rfl:d=n:=oM
  rw[Qz (l:=L) oM]at t;refine⟨oM,oM,?_⟩;rw[Qx];refine xO uM kR s oM λd1 b4 b5 d2=>⟨oM,oM,Ok.mk ⟨l,rfl,?_,u.then b5⟩⟩
  rw[<-t];exact b4
def KD{b c:Nat}(l:cC w b f A)(m:w.heap[c]? =some (.cells #[XL b] 85 (0,0))){a:aj}{n o:Nat}:
  ZG 244 #[jk a d n o,XL c] w (Ok λp w'=>p= .bool (A.get (aR a)).isSome/\ai w w'):=by
 refine lK (PA.mk λv P x e=>⟨_,ae (P.get m id) rfl,_,_,ae e rfl,ae e rfl,PC.ok (OB (l.ah P) (aR a)) ?_⟩);rintro _ q ⟨g,h,i,G,rfl,y,z,j⟩;exact bS (qy _ g h i) ⟨_,rfl,PA.mk λB r C s=>aB (aX _ g h i) s rfl λE t F H=>Ok.mk ⟨rfl,((P.then j).then r).new t λu k=>.inr (by have k:u=q.heap.size:=k;have:=P.size;have:=j.size;omega)⟩⟩
def KE{g i:Nat}(m:cC w g f A)(n:w.heap[i]? =some (.cells #[XL g] 85 (0,0))){a:aj}{h j:Nat}(o:Row aQ 8 w a6 d h a.aN)(k:∀P,a6 P->P<w.heap.size/\¬f P)(p:a.Ok)(t:A.l.length<=20000000):
  ZG 247 #[jk a d h j,XL i] w (Ok λq w'=>q= .bool (decide ((A.add a).1=0))/\∃c,cC w' g c (A.add a).2/\dy f w c w'):=by
 refine lL (PA.mk λu b v r=>⟨_,ae (b.get n id) rfl,au (aX a d h j) r (PC.ok (sT (m.ah b) (o.ah b) (λP e=>⟨by have:=(k P e).1;omega,(k P e).2⟩) p oM) ?_)⟩);rintro _ x ⟨rfl,c,s,l⟩;have:=b.size;exact⟨_,rfl,Ok.mk ⟨by congr 1,c,s,(ai.af b).then l.af,λP e=>(l.new P e).imp id oM⟩⟩
end
end
section
open Go.aw
variable{f:XN}{d:ZH}{b:World}{A:ar}
section
variable {w w':World} {p:Nat} {M D E:XN} {most:Nat} {l:List aj} {a:ZH} {n c:Nat} {L:List (Bx aj)}
structure Ot (w:World) (p:Nat) (M:XN) (most:Nat) (a:ZH) (c s tb:Nat) (T:ar) (nc:Nat) (Lc:List (Bx aj)) (oa:ZH) (on oc:Nat) (Lo:List (Bx aj)) (w1:World):Prop where
 set:∃F1,cC w1 s F1 T/\(∀b,F1 b->w.heap.size<=b/\b≠tb)/\∀b,aI oa=some b->w.heap.size<=b/\¬F1 b/\b≠tb
 ptr:w1.heap[tb]? =some (.cells #[XL s] 85 (0,0))
 buf:w1.heap[p]? =some (.cells #[XH (most:Int),.slice a nc c] 127 (0,0))
 nC:aU ow.ju 59 (λb=>aI a=some b) w1 a nc c Lc
 out:aU ow.ju 59 (λb=>aI oa=some b) w1 oa on oc Lo
 af:ak M w w1
def vR(i:Mo w p M D most l a n c L){r k:Nat}{j:Nat}{g:List (Bx aj)}{s t:Nat}{u:List (Bx aj)}(I:Ot w p M most a c r k A j g d s t u b)(O:∀P∈g,P∈L)(R:A.l.length<=20000000)(a6:g.length<=20000000):
  ZG 248 #[.slice a j c,.func (.func 247) #[] #[XL k]] b (Ok λB w'=>
   (B= XH (-1)/\(∀P∈g,(A.add P.x).1≠0)/\Ot w p M most a c r k A j g d s t u w')\/
   (∃h P,h<j/\B= XH (h:Int)/\g[h]? =some P/\(∀x∈g.take h,(A.add x.x).1≠0)/\(A.add P.x).1=0/\Ot w p M most a c r k (A.add P.x).2 j g d s t u w')):=by
 have S:=i.dM p i.mp;have a7:=I.nC.len dC;have T:∀P,aI a=some P->P<w.heap.size:=λP e=>i.dM P (i.ma P e).1;refine(xX (E:=λP=>aI a=some P) (L:=g) kR (λh m=>(∀P∈g.take h,(A.add P.x).1≠0)/\Ot w p M most a c r k A j g d s t u m) (λh m=>∃P,g[h]? =some P/\(∀x∈g.take h,(A.add x.x).1≠0)/\(A.add P.x).1=0/\Ot w p M most a c r k (A.add P.x).2 j g d s t u m) ⟨sM,I⟩
  (λh m f=>f.2.nC.row dC ba) ?_).mono ?_
 ·rintro h P m e ⟨J,f⟩
  obtain⟨U,V,y,C⟩:=f.set;have K:=(i.KB P (O P (QZ e))).af f.af λP e=>(i.dD P e).2;have z2:=f.af.size;refine(KE V f.ptr K.1 (λP e=>⟨by have:=(i.dD P e).1;omega,λo=>by have:=(i.dD P e).1;have:=(y P o).1;omega⟩) K.2 R).mono ?_;rintro _ W ⟨B,rfl,rfl,X,Y,q⟩;have N:∀P,P<w.heap.size->¬U P:=λP e o=>by have:=(y P o).1;omega
  have Z:=az f.ptr;have F:∀P,aI d=some P->P<m.heap.size:=λP e=>f.out.aF P e;have H:Ot w p M most a c r k (A.add P.x).2 j g d s t u W:=⟨⟨X,Y,λP e=>(q.new P e).elim (y P) λz=>⟨oM,oM⟩,λP e=>⟨(C P e).1,λo=>(q.new P o).elim (C P e).2.1 λz=>by have:=F P e;omega,(C P e).2.2⟩⟩,
   q.af.get f.ptr λo=>(y _ o).2 rfl,q.af.get f.buf (N p S),f.nC.af q.af λP e=>N P (T P e),f.out.af q.af λP e=>(C P e).2.1,f.af.new q.af λP e=>.inr (y P e).1⟩
  refine Ok.mk ?_
  by_cases v:(A.add P.x).1=0
  ·exact .inl ⟨by rw[Zy v],P,e,J,v,H⟩
  ·refine .inr ⟨by rw[Xv v],λx Q=>?_,?_⟩
   ·rw[Qw,e]at Q
    rcases Q6.1 Q with Q|Q
    ·exact J x Q
    ·simp at Q;subst Q;exact v
   ·rcases A.il P.x with⟨-,z⟩|⟨z,-⟩
    ·rw[z]at H;exact H
    ·rw[z]at v;exact Zz rfl v
 ·rintro _ m ⟨B,rfl,hv⟩
  rcases hv with⟨h,hj,rfl,P,E,f,h3,h4⟩|⟨rfl,E,f⟩
  ·exact Ok.mk (.inr ⟨h,P,hj,rfl,E,f,h3,h4⟩)
  ·rw[Qz oM]at E
   exact Ok.mk (.inl ⟨rfl,E,f⟩)
def CA(d7:fZ w p M D most l){b3:Nat}(hs:cC w b3 f A)(g6:A.Cl)(k6:A.l.length<=19000000):
  ZG 191 #[XL p,XL b3] w (Ok λd9 w'=>∃q z E k,d9= .slice q z E/\aU ow.ju 59 (λP=>aI q=some P) w' q z E k/\k.map (·.x)=(bz A l).1/\(∀P∈k,ow.In w' D P)/\(∀P,aI q=some P->w.heap.size<=P)/\
   fZ w' p M D most (bz A l).2/\ak M w w'):=by
 obtain⟨W,a,n,c,L,g⟩:=d7;have g7:=g.dM p g.mp;have X:∀P,aI a=some P->P<w.heap.size:=λP b=>g.dM P (g.ma P b).1;have k8:L.length=l.length:=by rw[<-g.map,Q8]
 have g8:l.length<=256:=Xx W.2.le W.1;have hN:=hs.1.n;refine nT (PC.ok (ky hs) ?_);rintro _ w4 ⟨va,vn,vc,Fv,rfl,h4,k4,l0⟩;have d1:=h4.len dC;rw[A.bd]at d1;subst d1;refine⟨_,_,_,rfl,PC.ok (CB hN) ?_⟩;rintro _ B ⟨F,F2,rfl,d2,d3,k7⟩;have z4:=k4.size;have z7:=k7.size;refine⟨_,rfl,PA.mk λw9 k9 s9 g9=>PS.mk g9 sM λh6 h7 l3 h8=>?_⟩;have a1:ai B h6:=k9.new h7 λP b=>.inr (by have b:P=B.heap.size:=b;omega);have b4:=(k4.then k7).then a1;have Y:=d2.aF;refine PC.ok (sU (hs.ah b4) oM) ?_;rintro _ Z ⟨ea,en,ec,G,rfl,b9,a6,hG⟩;have l4:=b9.len dC;have l5:=a1.size;have l6:=a6.size;have e6:Row iX 96 Z G ea en A.l:=b9.row dC ba;have h9:Z.heap[B.heap.size]? =some (.cells #[XL F] 85 (0,0)):=a6.get h8 id;have d5:=b9.aF;refine⟨_,_,_,rfl,λR a2 w'=>∃(e:Nat) (S:XN),a2=e/\e<=en/\R=en-e/\cC w' F S ((⟨A.n,[]⟩:ar).eI (A.l.take e))/\(∀P,S P->F2 P\/Z.heap.size<=P)/\ak F2 Z w',⟨_,0,F2,rfl,Qj _,rfl,d2.ah (a1.then a6),λP b=>.inl b,ak.refl _⟩,?_⟩;rintro R _ _ a7 ⟨e,S,rfl,hj,rfl,a8,a9,T⟩;have l7:=T.size;have c0:=T.get h9 λH=>by have:=Y _ H;omega
 refine an.dec (λl8=>?_) (λl9=>?_)
 ·have K:A.l[e]? =some A.l[e]:=Qq oM
  generalize A.l[e]=N at K;have e7:=e6.af T λP b H=>by have:=Y _ H;have:=hG P b;omega
  obtain⟨P,f0,es,ha,m1,m2,c1,xa,xn,xc,rfl,i1,f1⟩:=e7.el e N K;refine⟨P,f0,ha,oM,oM,bq (es:=aD N xa xn xc) (k:=10) (aX _ _ _ _) rfl (λa2 ht=>by rw[Qx];exact c1 a2 ht) (PA.mk λm3 i3 m4 i4=>aB (aX N xa xn xc) i4 rfl λi5 i6 m5 i7=>?_)⟩;have O:ai a7 i5:=i3.new i6 λP b=>.inr (by have b:P=a7.heap.size:=b;omega);have c2:=ar.lM (A.l.take e) ⟨A.n,[]⟩;rw[Qy]at c2;simp only[ZQ]at c2;refine⟨_,ae (O.get c0 id) rfl,au (aX N xa xn xc) i7 (PC.ok (sT (a8.ah O) (i1.ah O) (λP b=>⟨by have:=d5 P b;have:=O.size;omega,λH=>?_⟩) f1 oM) ?_)⟩
  ·rcases a9 P H with j|j
   ·have:=Y _ j;have:=hG P b;omega
   ·have:=d5 P b;omega
  rintro _ i8 ⟨rfl,F3,i9,d8⟩;refine⟨_,rfl,_,oM,e+1,F3,aq oM,oM,rfl,?_,λP b=>?_,?_⟩
  ·rw[Qw,K]
   show cC i8 F F3 (ar.eI _ (A.l.take e++[N]));rw[ar.qd];exact i9
  ·rcases d8.new P b with j|j
   ·exact a9 P j
   ·have:=O.size;exact .inr oM
  ·exact(T.ah O).new d8.af λP b=>a9 P b
 rw[Qz oM,g6.Sb]at a8;have b5:ai w a7:=(b4.then a6).new T λP b=>.inr (by have:=d3 P b;omega);have c3:=g.af b5 (λ_ _ g=>g) λ_ _ g=>g;have s:∀P,S P->w.heap.size<=P/\P≠B.heap.size:=λP b=>by
  rcases a9 P b with j|j
  ·have:=d3 P j;have:=Y P j;omega
  ·omega
 refine⟨p,0,rfl,_,_,_,ae c3.at' rfl,PC.ok (KC (pr:=λd=>(A.get (aR d)).isSome) kR c3.nC oM λP w1 hk=>?_) ?_⟩
 ·refine KD (a8.af hk λP b d=>?_) (hk.get c0 λd=>?_)
  ·have:=X P d;have:=(s P b).1;omega
  ·have:=X _ d;omega
 rintro _ m6 ⟨m0,rfl,f3,e0⟩;have b0:¬aI a=some p:=λd=>(g.ma p d).2 rfl;refine⟨_,_,_,rfl,p,0,rfl,PS.mk (e0.get c3.at' b0) sM λe1 e2 m7 e3=>⟨p,0,rfl,_,_,_,ae e3 rfl,?_⟩⟩;obtain⟨t,y⟩:∃t,t=L.filter λP=>!(A.get (aR P.x)).isSome:=⟨_,rfl⟩
 have a3:ak (λP=>aI a=some P\/P=p) a7 e1:=(e0.mono λP _ b=>.inl b).then (e2.mono λP _ b=>.inr b);have Tc:∀P,aI a=some P\/P=p->P<w.heap.size:=λP b=>b.elim (X P) λd=>d▸g7;have e4:Ot w p M most a c F B.heap.size A m0 t none 0 0 [] e1:=by
  refine⟨⟨S,a8.af a3 λP b d=>by have:=Tc P d;have:=(s P b).1;omega,s,λP b=>by cases b⟩,a3.get c0 λd=>by have:=Tc _ d;omega,e3,?_,(aU.nil _).mono (λP b=>b.elim) λP b=>(by cases b),?_⟩
  ·rw[y];exact f3.af e2 λP b d=>b0 (by have d:P=p:=d;rw[<-d];exact b)
  ·exact(ai.af b5).then (a3.mono λP _ b=>b.elim (λd=>(g.ma P d).1) λd=>d▸g.mp)
 have b6:∀P∈t,P∈L:=λP b=>by rw[y]at b;exact(List.mem_filter.1 b).1
 have a4:t.map (·.x)=l.filter λd=>(A.get (aR d)).isNone:=by
  rw[y,<-g.map,List.filter_map]
  congr 1
  refine List.filter_congr λP b=>?_;show(!(A.get (aR P.x)).isSome)=(A.get (aR P.x)).isNone
  cases A.get (aR P.x)<;>rfl
 have b7:t.length<=L.length:=by rw[y];exact List.length_filter_le ..
 refine PC.ok (vR g e4 b6 oM oM) ?_;rintro j0 m8 b8;obtain⟨i0,j1⟩:∃u:Int,j0= XH u:=by
  rcases b8 with⟨m,-⟩|⟨e,P,-,m,-⟩
  ·exact⟨_,m⟩
  ·exact⟨_,m⟩
 subst j1;refine⟨_,rfl,λR q z E u w'=>∃(r:ar) (h k:List (Bx aj)) (C U:Nat),R=h.length/\(∀P∈h,P∈L)/\(∀P∈k,P∈L)/\(h.map (·.x)).Sublist l/\h.length<=U/\r.l.length+h.length<=A.l.length+L.length/\h.length<=L.length/\k.length+h.length<=L.length/\C=h.length/\
   dP (U+1) r (h.map (·.x)) (k.map (·.x))=bz A l/\
   ((u= -1/\(∀P∈h,(r.add P.x).1≠0)/\Ot w p M most a c F B.heap.size r C h q z E k w')\/
    (∃e P,e<C/\u=(e:Int)/\h[e]? =some P/\(∀v∈h.take e,(r.add v.x).1≠0)/\(r.add P.x).1=0/\Ot w p M most a c F B.heap.size (r.add P.x).2 C h q z E k w')),?_,?_⟩
 ·have j2:=e4.nC.len dC
  refine⟨_,A,t,[],m0,t.length,rfl,b6,sM,by rw[a4];exact List.filter_sublist,Q4 _,oM,b7,by simpa using b7,j2,?_,?_⟩
  ·rw[a4]
   show dP (t.length+1) A _ []=_;unfold bz;rw[<-a4];show _=dP ((t.map (·.x)).length+1) A _ [];rw[Q8]
  ·rcases b8 with⟨m,I,J⟩|⟨e,P,m,I,J⟩
   ·exact .inl ⟨by simpa using m,I,J⟩
   ·exact .inr ⟨e,P,m,by simpa using I,J⟩
 rintro R q z E u _ j3 ⟨r,h,k,C,U,rfl,a5,c5,e5,hk,m9,k3,k5,n0,c6,j4⟩;rcases j4 with⟨rfl,c4,i⟩|⟨e,P,hj,rfl,b,c4,f4,i⟩
 ·refine an.ff sM (Ok.mk ⟨q,z,E,k,rfl,i.out,?_,λP b=>(g.KB P (c5 P b)).af i.af λP b=>(g.dD P b).2,λP b=>by obtain⟨F1,-,-,j⟩:=i.set;exact(j P b).1,⟨⟨W.1,?_⟩,a,C,c,h,i.buf,i.nC,?_,λP b=>(g.KB P (a5 P b)).af i.af λP b=>(g.dD P b).2,λP b=>⟨by have:=(g.dD P b).1;have:=i.af.size;omega,(g.dD P b).2⟩,g.mp,g.ma,λP b=>by have:=g.dM P b;have:=i.af.size;omega⟩,i.af⟩)
  all_goals
   have f5:bz A l=(k.map (·.x),h.map (·.x)):=by
    rw[<-c6];unfold dP;rw[qV λd he=>by obtain⟨P,b,rfl⟩:=Xk.1 he;exact c4 P b]
   rw[f5]
  exact W.2.sub e5
 ·have j5:e<h.length:=oM
  have n1:=i;obtain⟨F1,e8,e9,b1⟩:=i.set;have n2:=i.af.size;have c2:=r.xx P.x;obtain⟨gb,go,es,ha,n3,n4,c1,rfl,-⟩:=(i.nC.row (bytes:=96) dC ba).el e P b;have d:=λu (hi:u<10)=>c1 u hi;refine an.dec (λ_=>⟨p,0,rfl,_,_,_,ae i.buf rfl,gb,go,ha,oM,oM,_,_,_,_,_,_,_,_,_,_,_,_,d 0 dC,d 1 dC,d 2 dC,d 3 dC,d 4 dC,d 5 dC,d 6 dC,d 7 dC,d 8 dC,d 9 dC,PA.mk λj6 f2 n8 j7=>?_⟩) (λhn=>oM);have n9:=i.out.len dC;refine d_ (c:=ow.ju) (x:=P) (D:=λ_=>False) (i.out.ah f2) uM j7 ⟨rfl,trivial⟩ (λP b=>b.elim) ba (by unfold maxLen;omega) λV b2 g0 Fo c9 j8 j9=>⟨_,_,_,rfl,p,0,rfl,?_⟩
  have f6:=c9.alone;have d0:∀P,aI V=some P->aI q=some P\/j6.heap.size<=P:=λP b=>(j9 P (c9.self P b)).imp id λg=>g.resolve_left id;have o:∀P,aI q=some P->w.heap.size<=P:=λP b=>(b1 P b).1;have Q:ak (λP=>aI q=some P) j3 g0:=(ai.af f2).then j8;have g1:=Q.get i.buf λd=>by have:=o _ d;omega
  have f7:=i.nC.af Q λP b d=>by have:=o _ d;have:=X P b;omega
  have o0:=Q.size;refine⟨_,_,_,ae g1 rfl,PC.ok (QN f7 hj oM) ?_⟩;rintro _ o1 ⟨rfl,g2,c7⟩;have o2:=c7.size;refine⟨_,_,_,rfl,p,0,rfl,PS.mk (c7.get g1 b0) sM λg3 g4 o4 g5=>⟨p,0,rfl,_,_,_,ae g5 rfl,?_⟩⟩;have o5:(h.eraseIdx e).length=h.length-1:=List.length_eraseIdx_of_lt j5;have a0:ak (λP=>aI a=some P\/P=p) g0 g3:=(c7.mono λP _ b=>.inl b).then (g4.mono λP _ b=>.inr b);have c8:∀P,w.heap.size<=P->¬(aI a=some P\/P=p):=λP b d=>by have:=Tc P d;omega
  have k0:Ot w p M most a c F B.heap.size (r.add P.x).2 (C-1) (h.eraseIdx e) V (z+1) b2 (k++[P]) g3:=by
   refine⟨⟨F1,(e8.af Q λP b d=>(b1 P d).2.1 b).af a0 λP b=>c8 P (e9 P b).1,e9,λP b=>?_⟩,a0.get (Q.get i.ptr λd=>(b1 _ d).2.2 rfl) (c8 _ oM),g5,g2.af g4 λP b d=>b0 (by have d:P=p:=d;rw[<-d];exact b),f6.af a0 λP b=>c8 P ?_,?_⟩
   ·rcases d0 P b with j|j
    ·exact b1 P j
    ·have hd:=e8.aF
     have o6:=az i.ptr;exact⟨oM,λH=>by have:=hd P H;omega,oM⟩
   ·rcases d0 P b with j|j
    ·exact o P j
    ·omega
   ·exact(i.af.new Q λP b=>.inr (o P b)).then (a0.mono λP _ b=>b.elim (λd=>(g.ma P d).1) λd=>d▸g.mp)
  have d4:∀v∈h.eraseIdx e,v∈L:=λv x=>a5 v ((List.eraseIdx_sublist ..).subset x);refine PC.ok (vR g k0 d4 oM oM) ?_;rintro k1 o7 d6;obtain⟨i2,k2⟩:∃u:Int,k1= XH u:=by
   rcases d6 with⟨m,-⟩|⟨e,P,-,m,-⟩
   ·exact⟨_,m⟩
   ·exact⟨_,m⟩
  subst k2;have f8:∃k',U=k'+1:=⟨U-1,oM⟩
  obtain⟨k',rfl⟩:=f8;refine⟨_,rfl,(h.eraseIdx e).length,oM,(r.add P.x).2,h.eraseIdx e,k++[P],C-1,k',rfl,d4,?_,?_,oM,oM,oM,by simp;omega,oM,?_,?_⟩
  ·intro v x
   rcases Q6.1 x with x|x
   ·exact c5 v x
   ·simp at x;subst x;exact a5 v (QZ b)
  ·exact((List.eraseIdx_sublist ..).map _).trans e5
  ·rw[<-c6]
   conv=>rhs;unfold dP
   rw[qW (i:=e) (e:=P.x) (λN K=>by rw[<-List.map_take]at K;obtain⟨v,x,rfl⟩:=Xk.1 K;exact c4 v x) (by rw[Q9,b];rfl) f4];show _=dP (k'+1) (r.add P.x).2 ((h.map (·.x)).eraseIdx e) (k.map (·.x)++[P.x]);rw[map_eraseIdx,Q3];rfl
  ·rcases d6 with⟨m,I,J⟩|⟨e,P,m,I,J⟩
   ·exact .inl ⟨by simpa using m,I,J⟩
   ·exact .inr ⟨e,P,m,by simpa using I,J⟩
end
def HK:kC:=⟨[(2,[(10,XH 0)])],[],[],[],[]⟩
variable{z:XT}{e q:Int}{u:List Int}{a3:List cG}{a c:Nat}{I:Nat×Nat}{r:ZH}{h:Program}{j:Type}{g o:TypeId}{t:Value}{C:aM}{c2:iu}
def HL(j:(∃g:Nat->Int->XU,(∃f,g f 0 b)/\∀(f:Nat) (P:Int) (r:Nat->Value) (h:World),g f P h->an (decide (P<(a:Int))) ((ix_ d P a λk l=>PS h (ad k (l+Int.toNat P*5+1)) (.ii e) λm=>(ix_ d P a λn o=>PS m (ad n (o+Int.toNat P*5+2)) (.ii q) λp=>(∃i,i<f/\g i (XG .i64 (P+1)) p)))) (rt z ((.slice d a c)) h))):ZG 127 #[.ii e,.ii q,.slice d a c] b z:=DC HK Tryz.func127 rfl j
structure Ep where
 m:cG
 va:ZH
 vn:Nat
 vc:Nat
 ea:ZH
 en:Nat
 ec:Nat
def Pz:jB Ep:=flat 5 (λP=>cU P.m P.va P.vn P.vc P.ea P.en P.ec) (λ_=>True) (λ_=>rfl) (λb c a=>by
 simp only[cU,Q2,List.not_mem_nil,or_false]at a;rcases a with rfl|rfl|rfl|rfl|rfl<;>rfl)
def Ep.In(a:World)(D:XN)(P:Ep):Prop:=Row aQ 8 a D P.va P.vn P.m.vec/\Row iX 96 a D P.ea P.en P.m.events
def Of:iI XP 95 66 Pz.k 72:=⟨kR,kR,dC⟩
def bk(c:World)(g:List cG)(h:Value)(b:World):Prop:=
 ∃(a:ZH) (e f:Nat) (d:List Ep) (D:XN),h= .slice a e f/\aU Pz 66 (λP=>aI a=some P) b a e f d/\d.map (·.m)=g/\(∀P∈d,P.In b D)/\(∀P,D P->c.heap.size<=P/\P<b.heap.size/\aI a≠some P)/\(∀P,aI a=some P->c.heap.size<=P)/\ai c b
section
variable {w w':World} {p:Nat} {F D:XN} {S:ar} {a:ZH} {n c:Nat}
def Ep.In.af{P:Ep}(a:P.In w D)(b:ak f w w')(c:∀P,D P->¬f P):P.In w' D:=⟨a.1.af b c,a.2.af b c⟩
def Ep.In.mono{P:Ep}(a:P.In w D)(b:∀P,D P->f P):P.In w f:=⟨a.1.mono b,a.2.mono b⟩
def dS{P:jB j}{bytes:Nat}(w:World)(D:XN):Row P bytes w D none 0 []:=⟨rfl,sM,λb c a=>by simp at a⟩
def bk.nil(w:World):bk w [] (.slice none 0 0) w:=⟨none,0,0,[],λ_=>False,rfl,(aU.nil w).mono (λa P=>P.elim) (λa P=>(by cases P)),rfl,sM,λa P=>P.elim,λa P=>(by cases P),ak.refl _⟩
def bk.ah(f:bk b a3 t w)(e:ai w w'):bk b a3 t w':=by
 obtain⟨a,n,c,h,D,i,j,k,l,g,m,o⟩:=f;exact⟨a,n,c,h,D,i,j.ah e,k,λP d=>(l P d).af e λ_ _ f=>f,λP d=>⟨(g P d).1,by have:=e.size;have:=(g P d).2.1;omega,(g P d).2.2⟩,m,o.then e⟩
def bk.push(t:bk b a3 (.slice a n c) w)(L:iI h g 66 Pz.k 72){m:cG}{j k l p x:Nat}{E:XN}(M:(⟨m,d,j,k,r,l,p⟩:Ep).In w E)(y:∀P,E P->b.heap.size<=P/\P<w.heap.size/\aI a≠some P)(N:w.heap[x]? =some (.cells (cU m d j k r l p).toArray 66 I))(V:a3.length<=1000){z O:XR}(u:∀f i w',bk b (a3++[m]) (.slice f (n+1) i) w'->ak (λP=>aI a=some P) w w'->z (.slice f (n+1) i) w'):
  aH h (Builtin.append_ #[g,g] o #[.slice a n c,.slice (XM x) 1 1]) w z O:=by
 obtain⟨W,X,Y,v,D,Q,R,A,S,B,C,F⟩:=t
 cases Q
 have Z:v.length=a3.length:=by rw[<-A,Q8]
 refine d_ (c:=Pz) (x:=⟨m,d,j,k,r,l,p⟩) (D:=λ_=>False) R L N ⟨rfl,trivial⟩ (λP e=>e.elim) ba (by unfold maxLen;omega) λf i w' F' q s T=>?_;have H:∀P,aI f=some P->aI a=some P\/w.heap.size<=P:=λP e=>(T P (q.self P e)).imp id λt=>t.resolve_left id;have a0:=s.size;have z7:=F.size;refine u f i w' ⟨f,n+1,i,v++[⟨m,d,j,k,r,l,p⟩],λP=>D P\/E P,rfl,(show aU Pz 66 (λP=>aI f=some P) w' f (n+1) i (v++[⟨m,d,j,k,r,l,p⟩])from q.alone),by rw[Q3,A];rfl,λP e=>?_,λP e=>?_,λP e=>?_,F.new s λP e=>.inr (C P e)⟩ s
 ·rcases Q6.1 e with e|e
  ·exact((S P e).af s λP e=>(B P e).2.2).mono λP e=>.inl e
  ·simp at e;subst e
   exact(M.af s λP e=>(y P e).2.2).mono λP e=>.inr e
 ·have J:b.heap.size<=P/\P<w.heap.size/\aI a≠some P:=e.elim (B P) (y P)
  exact⟨J.1,oM,λU=>(H P U).elim J.2.2 oM⟩
 ·rcases H P e with K|K
  ·exact C P K
  ·omega
def Kn(z:bk b a3 (.slice a n c) w)(O:a3.length<=1000):
  ZG 127 #[XH e,XH q,.slice a n c] w (Ok λA w'=>bk b (a3.map λm=>{m with bE:=e,lf:=q}) A w'):=by
 obtain⟨Q,R,S,d,D,B,s,x,C,o,y,E⟩:=z
 cases B
 have T:d.length=a3.length:=by rw[<-x,Q8]
 have U:=s.len dC;obtain⟨g,j⟩:∃g:Ep->Ep,g=λf=>{f with m:={f.m with bE:=e,lf:=q}}:=⟨_,rfl⟩
 refine HL ⟨λm h w'=>∃P:Nat,h=P/\P<=n/\m=n-P/\aU Pz 66 (λf=>aI a=some f) w' a n c ((d.take P).map g++d.drop P)/\ak (λf=>aI a=some f) w w',⟨_,0,rfl,Qj _,rfl,by simpa using s,ak.refl _⟩,?_⟩;rintro m _ _ V ⟨P,rfl,W,rfl,t,p⟩;refine an.dec (λX=>?_) (λY=>?_)
 ·have r:d[P]? =some d[P]:=Qq oM
  have k:∃l,a=XM l:=by
   obtain⟨cs,D,F,-⟩:=s.body;rcases F.cases with⟨_,Z,_,_⟩|⟨l,H,rfl,_⟩
   ·omega
   ·exact⟨l,rfl⟩
  obtain⟨l,k⟩:=k;have u:((d.take P).map g++d.drop P)[P]? =some d[P]:=by
   rw[X8 bc];simp[Qy,X2 (show P<=d.length by omega)]
  generalize d[P]=h at r u;have I:P<((d.take P).map g++d.drop P).length:=(Qv.1 u).1;refine⟨l,0,k,oM,oM,?_⟩;rw[Qx];refine aU.set (x':={h with m:={h.m with bE:=e}}) (j:=1) t u dC rfl k λa0 J K a4=>⟨l,0,k,oM,oM,?_⟩
  refine aU.set (x:={h with m:={h.m with bE:=e}}) (x':=g h) (j:=2) J (by rw[List.getElem?_set_self I]) dC (by rw[j];rfl) k λa5 v L a6=>⟨_,?_,P+1,aq oM,oM,rfl,?_,(p.then K).then L⟩
  ·omega
  ·rw[List.set_set]at v
   have M:((d.take P).map g++d.drop P).set P (g h)=(d.take (P+1)).map g++d.drop (P+1):=by
    have N:((d.take P).map g).length=P:=by simp;omega
    rw[Qw,r,Q3,XQ,List.set_append,Zq oM,N,Nat.sub_self,X4 (show P<d.length by omega)];rfl
   rw[M]at v;exact v
 ·obtain rfl:P=n:=oM
  rw[Qz oM,List.drop_eq_nil_of_le oM,List.append_nil]at t;refine Ok.mk ⟨a,P,c,d.map g,D,rfl,t,?_,λf i=>?_,λf i=>⟨(o f i).1,by have:=p.size;have:=(o f i).2.1;omega,(o f i).2.2⟩,y,E.new p λf i=>.inr (y f i)⟩
  ·rw[<-x,List.map_map,List.map_map,j];rfl
  ·obtain⟨h,r,rfl⟩:=Xk.1 i
   have:=(C h r).af p λf i=>(o f i).2.2;rw[j];exact this
end
section
variable {w w':World} {p:Nat} {F D E:XN} {S:ar} {m:cG} {va ea:ZH} {vn vc en ec:Nat}
def bk.EC(e:bk b a3 t w)(c:ai w' b):bk w' a3 t w:=by
 obtain⟨f,g,h,i,D,j,k,l,m,d,n,o⟩:=e;have:=c.size;exact⟨f,g,h,i,D,j,k,l,m,λP a=>⟨by have:=(d P a).1;omega,(d P a).2⟩,λP a=>by have:=n P a;omega,c.then o⟩
def bk.len(P:bk b a3 (.slice d a c) w):a=a3.length:=by
 obtain⟨h,i,j,k,D,e,f,g,-⟩:=P
 cases e
 rw[f.len dC,<-g,Q8]
def bk.sl(P:bk b a3 t w):∃a c d,t= .slice a c d:=by
 obtain⟨f,g,h,i,D,e,-⟩:=P;exact⟨_,_,_,e⟩
def Gr(h:cC w p F S)(hl:S.l.length<=20000000)(Z:Row aQ 8 w D va vn m.vec):
  ZG 76 #[XL p,XH e,m_ m va vn vc ea en ec,XH q] w (Ok (bk w (fR S e m q))):=by
 have hS:=h.1;have hN:=hS.n;refine AK (PA.mk λb n g3 x=>⟨λw'=>b=w'/\(m.kind=1\/m.kind=2),⟨_,ae x rfl,an.dX (λo=>⟨_,ae x rfl,an.dX (λd=>Ok.mk ?_) (λd=>⟨rfl,.inr d⟩)⟩) (λo=>⟨rfl,.inl o⟩)⟩,?_⟩)
 ·unfold fR;rw[Zx ⟨o,d⟩];exact(bk.nil b).EC n
 rintro _ _ ⟨rfl,hk⟩;have b9:¬(m.kind≠1/\m.kind≠2):=oM
 obtain⟨s,K⟩:∃s,s=S.missing m.vec (max 1 (min q 32)):=⟨_,rfl⟩
 have b4:(if(if 32<q then 32 else q)>1 then(if 32<q then 32 else q)else 1)=max 1 (min q 32):=by split<;>split<;>omega
 obtain⟨f,E⟩:∃f:List cG,f=if 0<s.length then [⟨3,0,0,[],s⟩]else []:=⟨_,rfl⟩
 have g4:f.length<=1:=by rw[E];split<;>simp
 refine⟨λi j k w'=>bk b f (.slice i j k) w'/\ai b w',⟨_,_,_,ae x rfl,?_⟩,?_⟩
 ·refine PC.ok (by rw[b4];exact wA (h.ah n) hl (Z.ah n)) ?_
  rw[<-K];rintro _ g5 ⟨b7,n2,y,G,rfl,L,H,hG⟩;have g6:=L.len dC;have e0:=L.aF;refine⟨_,_,_,rfl,an.dec (λg1=>PA.mk λg7 M g8 e1=>?_) (λhz=>⟨?_,H⟩)⟩
  rotate_left
  ·rw[E,Zq oM]
   exact(bk.nil b).ah H
  have g9:s.length<=20000000:=by
   rw[K];unfold ar.missing;rw[Qy];have:=List.length_filter_le (λg:aj=>decide (max 0 (cP m.vec g.origin)<g.seq)) S.l;omega
  refine bk.push (m:=⟨3,0,0,[],s⟩) (E:=G) ((bk.nil b).ah (H.then M)) Of ⟨dS _ _,(L.ah M).row dC ba⟩ (λP a=>⟨by have:=hG P a;omega,by have:=e0 P a;omega,λg=>by cases g⟩) e1 sM λa' c' h8 c0 e2=>⟨_,_,_,rfl,?_,?_⟩
  ·rw[E,Zx oM];exact c0
  ·exact(H.then M).new e2 λP a=>(by cases a)
 rintro I on oc _ e3 ⟨N,O⟩;have a0:=n.then O;have e4:=O.size;refine PC.ok (ky (h.ah a0)) ?_;rintro _ u ⟨a3,n3,c3,G3,rfl,c4,c6,c7⟩;have h9:=a0.size;have c8:=c4.aF;have c9:Row aQ 8 u G3 a3 n3 S.vec:=c4.row dC (by rw[S.bd];unfold aT;omega);obtain⟨c,v⟩:∃c:List cG,c=if m.kind=1/\(jh m.vec S.vec=2\/jh m.vec S.vec=3)then [⟨2,0,0,S.vec,[]⟩]else []:=⟨_,rfl⟩
 have i0:c.length<=1:=by rw[v];split<;>simp
 have z:=O.then c6;have Q:∀P,aI I=some P->P<e3.heap.size:=λP a=>by
  obtain⟨a1,n1,t,a2,D,l,d,-⟩:=N
  cases l
  exact d.aF P a
 refine⟨_,_,_,rfl,λi j k w'=>bk b (f++c) (.slice i j k) w'/\w'.heap[w.heap.size]? =some (.cells (cU m va vn vc ea en ec).toArray 66 (0,0))/\ai b w',⟨_,_,_,ae (z.get x id) rfl,PC.ok (Kl ((Z.ah (n.then z)).rH) c9.rH) ?_⟩,?_⟩
 ·rintro _ _ ⟨rfl,rfl⟩
  have R:=z.get x id;have a4:=N.ah c6;have r:∀P,aI I=some P->b.heap.size<=P:=λP a=>by
   obtain⟨a1,n1,t,a2,D,l,d,A,h4,h5,T,h7⟩:=N
   cases l
   exact T P a
  have no:c=[]->bk b (f++c) (.slice I on oc) u/\u.heap[w.heap.size]? =some (.cells (cU m va vn vc ea en ec).toArray 66 (0,0))/\ai b u:=λa=>⟨by rw[a,List.append_nil];exact a4,R,z⟩
  have B:∀{ε:XR} {U:ZH->Nat->Nat->XU},c=[⟨2,0,0,S.vec,[]⟩]->(∀i j k w',bk b (f++c) (.slice i j k) w'/\w'.heap[w.heap.size]? =some (.cells (cU m va vn vc ea en ec).toArray 66 (0,0))/\ai b w'->U i j k w')->
    PA u (.cells #[XH 2,XH 0,XH 0,.slice a3 n3 c3,.slice none 0 0] 66) λd0=>aH XP (Builtin.append_ #[95,95] 95 #[.slice I on oc,.slice (XM u.heap.size) 1 1]) d0 (λe5 d1=>∃(a5:ZH) (a6:Nat) (a7:Nat),e5= .slice a5 a6 a7/\U a5 a6 a7 d1) ε:=λ{ε U} a V=>by
   refine PA.mk λd0 J i1 e6=>bk.push (m:=⟨2,0,0,S.vec,[]⟩) (E:=G3) (a4.ah J) Of ⟨c9.ah J,dS _ _⟩ (λP a=>⟨by have:=c7 P a;omega,by have:=c8 P a;omega,λg=>by have:=Q P g;have:=c7 P a;omega⟩) e6 oM λa' c' d1 d2 d3=>⟨_,_,_,rfl,V _ _ _ _ ⟨by rw[a];exact d2,d3.get (J.get R id) λg=>?_,?_⟩⟩
   ·have:=r _ g;omega
   ·exact(z.then J).new d3 λP a=>.inr (r P a)
  refine⟨_,rfl,_,ae R rfl,an.eG (λo=>an.eG (λd=>B (by rw[v,Zx ⟨o,.inl d⟩]) λi j k w' h=>h) (λd=>an.eG (λA=>B (by rw[v,Zx ⟨o,.inr A⟩]) λi j k w' h=>h) (λA=>no (by rw[v,Zq];rintro⟨-,h|h⟩;exact d h;exact A h)))) (λo=>no (by rw[v,Zq λh=>o h.1]))⟩
 rintro e7 i2 i3 _ e8 ⟨C,W,a8⟩;have d4:=n.then a8;have e9:=a8.size;have a9:=C.len;have g2:(f++c).length<=2:=by rw[QX];omega
 have b0:∀{X:List cG},(if(f++c).isEmpty then [xt S e m.bE]else(f++c).map λb5=>{b5 with bE:=e,lf:=m.bE})=X->fR S e m q=X:=λ{X} hq=>by
  rw[<-hq];unfold fR;rw[Zq b9,<-K];rw[E,v];have p1:(decide (jh m.vec S.vec=2\/jh m.vec S.vec=3))=decide (jh m.vec S.vec=2\/jh m.vec S.vec=3):=rfl
  by_cases t:0<s.length<;>by_cases y:m.kind=1/\(jh m.vec S.vec=2\/jh m.vec S.vec=3)
  ·simp[t,y]
  ·simp[t,y]
  ·simp[t,y]
  ·simp[t,y]
 refine an.eG (λh0=>⟨_,ae W rfl,PC.ok (Gh (h.ah d4)) ?_⟩) (λh0=>⟨_,ae W rfl,PC.ok (Kn C oM) ?_⟩)
 ·have l:f++c=[]:=QW oM
  rintro _ i4 ⟨b8,n5,c5,G5,rfl,d5,d6,d7⟩;have d8:=d5.aF;rw[l]at C;refine⟨_,_,_,_,_,_,_,_,_,rfl,PA.mk λi5 Y i6 f2=>?_⟩;have b1:∀P,aI e7=some P->b.heap.size<=P/\P<e8.heap.size:=λP a=>by
   obtain⟨a1,n1,t,a2,D,l,d,A,h4,h5,T,h7⟩:=C
   cases l
   exact⟨T P a,d.aF P a⟩
  refine bk.push (m:=xt S e m.bE) (E:=G5) (C.ah (d7.then Y)) Of ⟨(d5.ah Y).row dC (by show S.vec.length*8<=aT;rw[S.bd];unfold aT;omega),dS _ _⟩ (λP a=>⟨by have:=d6 P a;have:=d4.size;omega,by have:=d8 P a;omega,λg=>by have:=(b1 P g).2;have:=d6 P a;omega⟩) f2 sM λa' c' i7 d9 g0=>⟨_,_,_,rfl,_,ae (g0.get ((d7.then Y).get W id) λg=>by have:=(b1 _ g).1;omega) rfl,?_⟩
  refine PC.ok (Kn d9 sM) ?_;rintro b6 i8 b2;obtain⟨i,j,k,rfl⟩:=b2.sl;refine⟨_,_,_,rfl,Ok.mk ?_⟩;rw[b0 (Zx (by rw[l];rfl))];exact b2.EC n
 ·rintro b6 i9 b3
  obtain⟨i,j,k,rfl⟩:=b3.sl;refine⟨_,_,_,rfl,Ok.mk ?_⟩;rw[b0 (Zq (by
   intro l;have:f++c=[]:=by simpa using l
   rw[this]at a9;simp at a9;omega))]
  exact b3.EC n
end
def iK(P:iu):List Value:=[XH P.aW,XH P.agg,XH P.field,XH P.op,XH P.arg,XH P.expect,XH P.key]
abbrev rG(P:iu):Value:=.agg (iK P).toArray
def yh(P:iu):iJ XP 49 (iK P)=true:=kR
section
variable {w w':World} {D:XN}
def AA{tn n l o:Nat}(p:eu w)(h:aZ w D C d tn r l)(q:∀b,D b->b<w.heap.size):
  ZG 59 #[.agg #[.slice d tn n,.slice r l o],rG c2] w (Ok λf w'=>f= XH (eJ C c2)/\ai w w'):=by
 refine wM (PA.mk λv s x c=>PA.mk λt m y P=>?_);have c:=m.get c id;have e:=s.then m;have a:(c2.agg<0\/c2.key<0\/c2.expect< -1)->Ok (λf w'=>f= XH (eJ C c2)/\ai w w') (.returned (XH 1)) t:=λg=>Ok.mk ⟨by unfold eJ;rw[Zx g],e⟩;refine⟨_,ae P rfl,an.dec (λi=>a (.inl i)) (λi=>⟨_,ae P rfl,an.dec (λj=>a (.inr (.inl j))) (λj=>⟨_,ae P rfl,an.dec (λk=>a (.inr (.inr k))) (λk=>⟨_,_,_,_,_,_,ae c rfl,ae c rfl,_,ae P rfl,_,ae P rfl,_,ae P rfl,_,ae P rfl,PC.ok (vS (p.ah e) (h.ah e) λb g=>by have:=q b g;omega) ?_⟩)⟩)⟩)⟩;rintro _ z ⟨rfl,u⟩;exact⟨_,rfl,Ok.mk ⟨by unfold eJ;rw[Zq (by rintro(h|h|h);exact i h;exact j h;exact k h)],e.then u⟩⟩
def CL(b:∀c∈u,aP c)(P:Int):0<=cP u P/\cP u P<=9223372036854775807:=by
 unfold cP;split
 ·omega
 ·by_cases a:P.toNat<u.length
  ·have:=b _ (XY a)
   unfold aP at this;simp only[QQ,Qq a,Option.getD_some];omega
  ·simp only[QQ,Q7 (Nat.le_of_not_lt a),Option.getD_none]
   omega
def KH(P a:List Int):(gg P a).length=max P.length a.length:=by unfold gg;rw[lg]
def OJ(a b:List Int)(e:∀P∈a,aP P)(f:∀P∈b,aP P):∀P∈gg a b,aP P:=by
 intro P c;unfold gg mL at c;obtain⟨d,-,rfl⟩:=Xk.1 c;have g:=CL e d;have h:=CL f d;unfold aP;omega
def iE(Q:Row aQ 8 w D d a u)(hl:q<=9223372036854775807)(hn:u.length<=20000000):
  ZG 66 #[rG c2,XH e,.slice d a c,XH q] w (Ok λv w'=>∃d a k G,v= .tuple #[jk (aS c2 e u q).2 d a k,XH (aS c2 e u q).1]/\Row aQ 8 w' G d a (aS c2 e u q).2.aN/\(∀P,G P->w.heap.size<=P/\P<w'.heap.size)/\ai w w'):=by
 have a9:=Q.len;have A:=Q.rH;refine wN (PA.mk λB k1 s1 K=>PA.mk λL R s2 S=>?_);have K:=R.get K id;have k:=k1.then R;have l:∀{n:World} {no:Int},ai L n->aS c2 e u q=(no,qz)->vQ XP 59 (XL B.heap.size) (jk qz none 0 0) n λw4=>nE XP 59 (XL B.heap.size) w4 λv=>Ok (λv w'=>∃d a k G,v= .tuple #[jk (aS c2 e u q).2 d a k,XH (aS c2 e u q).1]/\Row aQ 8 w' G d a (aS c2 e u q).2.aN/\(∀P,G P->w.heap.size<=P/\P<w'.heap.size)/\ai w w') (.returned (.tuple #[v,XH no])) w4:=λ{n no} C T=>
  aB (aX qz none 0 0) (C.get S id) rfl λw4 m s4 M=>au (aX qz none 0 0) M (Ok.mk ⟨none,0,0,λ_=>False,by rw[T],by rw[T];exact Row.nil _ _,λP b=>b.elim,(k.then C).new m λP b=>.inr oM⟩)
 refine an.dec (λU=>l (ak.refl _) ?_) (λU=>an.dec (λh2=>l (ak.refl _) ?_) (λh2=>an.dec (λC=>l (ak.refl _) ?_) (λC=>PC.ok (mM (A.ah k)) ?_)))
 ·unfold aS;rw[Zx (.inl U)]
 ·unfold aS;rw[Zx (.inr (.inl oM))]
 ·unfold aS;rw[Zx (.inr (.inr C))]
 rintro _ _ ⟨rfl,rfl⟩;have N:¬(e<0\/(u.length:Int)<=e\/q<0):=by rintro(h|h|h)<;>omega
 refine⟨_,rfl,an.eG (λJ=>l (ak.refl _) ?_) (λJ=>an.eG (λE=>l (ak.refl _) ?_) (λE=>λn V=>?_))⟩
 ·unfold aS;rw[Zq N,Zx (.inl J)]
 ·unfold aS;rw[Zq N,Zx (.inr E)]
 have hg:=CL A.Hh e;have wl:XG .i64 (q+1)=q+1:=wrap_i64 bb;have ws:XG .i64 (cP u e+1)=cP u e+1:=wrap_i64 (by unfold aP;have:cP u e≠9223372036854775807:=J;omega);have W:aS c2 e u q=(0,⟨e,XG .i64 (cP u e+1),XG .i64 (q+1),gg u [],c2.aW,c2.agg,c2.field,c2.op,c2.arg,c2.key⟩):=by
  unfold aS;rw[Zq N,Zq (by rintro(h|h);exact J h;exact E h),wl,ws]
 have F:ai L n:=V.af;have s3:n.heap.size=L.heap.size:=by rw[V.heap]
 have X:=k.then F;have y:=F.get K id;have Y:=F.get S id;have jl:(gg u []).length<=20000000:=by rw[KH];simp;omega
 have jI:∀a0∈gg u [],aP a0:=OJ u [] A.Hh sM;have z:¬(n.heap.size<=w.heap.size):=oM
 have H:∀{w4 r:World} {f:ZH} {i j x:Nat},ai w r->Own r 3 1 f i j (ints (gg u []))->(∀P,aI f=some P->n.heap.size<=P/\P≠x)->r.heap[B.heap.size]? =some (.cells (aD qz none 0 0).toArray 59 (0,0))->r.heap[x]? =some (.cells #[XH 0,XH 0,XH (XG .i64 (q+1)),.slice f i j,XH c2.aW,XH c2.agg,XH c2.field,XH c2.op,XH c2.arg,XH c2.key] 59 (0,0))->n.heap.size<=x->
   PS r ⟨x,0,none⟩ (XH e) λa4=>PS a4 ⟨x,0+1,none⟩ (XH (XG .i64 (cP u e+1))) λZ=>nE XP 59 (XL x) Z λa5=>vQ XP 59 (XL B.heap.size) a5 Z λa2=>nE XP 59 (XL B.heap.size) a2 λa6=>Ok (λv w'=>∃d a k G,v= .tuple #[jk (aS c2 e u q).2 d a k,XH (aS c2 e u q).1]/\Row aQ 8 w' G d a (aS c2 e u q).2.aN/\(∀P,G P->w.heap.size<=P/\P<w'.heap.size)/\ai w w') (.returned (.tuple #[a6,XH 0])) a2:=λ{w4 r f i j x} E s o hz a7 b0=>by
  refine PS.mk a7 sM λw6 g s6 I=>PS.mk I sM λw7 O s7 g7=>?_;have a8:=O.get (g.get hz oM) oM;refine au (cs:=aD ⟨e,XG .i64 (cP u e+1),XG .i64 (q+1),gg u [],c2.aW,c2.agg,c2.field,c2.op,c2.arg,c2.key⟩ f i j) (aX _ _ _ _) g7 (aB (aX _ _ _ _) a8 rfl λw8 k8 s8 g8=>au (aX _ _ _ _) g8 (Ok.mk ⟨f,i,j,λP=>aI f=some P,by rw[W],?_,λP b=>⟨by have:=o P b;omega,?_⟩,?_⟩))
  ·rw[W]
   have a3:=(((s.af g (fq.2 λP b t=>(o P b).2 t)).af O (fq.2 λP b t=>(o P b).2 t)).af k8 (fq.2 λP b t=>by have:=o P b;omega))
   exact(⟨⟨_,λ_=>False,a3,jC.2 ⟨rfl,jI⟩,λ_ h=>h.elim⟩,λP b=>b,λP b=>a3.lt b⟩:aU aQ 3 (λP=>aI f=some P) w8 f i j (gg u [])).row dC ba
  ·have:=s.lt b;omega
  ·exact((E.new g λP b=>.inr oM).new O λP b=>.inr oM).new k8 λP b=>.inr oM
 refine⟨λP=>n.heap.size<=P,z,_,ae y rfl,z,_,ae y rfl,z,_,ae y rfl,z,_,ae y rfl,z,_,ae y rfl,z,_,ae y rfl,PC.ok (yi ((A.ah k).ah F) (Ints.nil _)) ?_,PA.mk λw4 m s4 M=>⟨ai.af m,PC.ok (yi (((A.ah k).ah F).ah m) (Ints.nil _)) ?_⟩⟩
 ·rintro _ w4 ⟨f,i,j,rfl,s,m,o⟩
  have z4:=m.size;refine⟨_,_,_,rfl,ai.af m,PA.mk λr p s5 g5=>⟨ai.af p,aB (cs:=[XH 0,XH 0,XH (XG .i64 (q+1)),.slice f i j,XH c2.aW,XH c2.agg,XH c2.field,XH c2.op,XH c2.arg,XH c2.key]) (aX ⟨0,0,XG .i64 (q+1),[],c2.aW,c2.agg,c2.field,c2.op,c2.arg,c2.key⟩ f i j) g5 rfl λw6 g s6 I=>⟨g.mono λP _ t=>oM,H (w4:=w4) (((X.then m).then p).new g λP b=>.inr oM) ((s.ah p).af g (fq.2 λP b t=>by have:=s.lt b;omega)) (λP b=>⟨o P b,by have:=s.lt b;omega⟩) (g.get (p.get (m.get Y id) id) oM) I oM⟩⟩⟩
 ·rintro _ r ⟨f,i,j,rfl,s,p,o⟩
  have z5:=p.size;refine⟨_,_,_,rfl,ai.af p,aB (cs:=[XH 0,XH 0,XH (XG .i64 (q+1)),.slice f i j,XH c2.aW,XH c2.agg,XH c2.field,XH c2.op,XH c2.arg,XH c2.key]) (aX ⟨0,0,XG .i64 (q+1),[],c2.aW,c2.agg,c2.field,c2.op,c2.arg,c2.key⟩ f i j) (p.get M id) rfl λw6 g s6 I=>⟨g.mono λP _ t=>oM,H (w4:=w4) (((X.then m).then p).new g λP b=>.inr oM) (s.af g (fq.2 λP b t=>by have:=o P b;omega)) (λP b=>⟨by have:=o P b;omega,by have:=o P b;omega⟩) (g.get (p.get (m.get Y id) id) oM) I oM⟩⟩
